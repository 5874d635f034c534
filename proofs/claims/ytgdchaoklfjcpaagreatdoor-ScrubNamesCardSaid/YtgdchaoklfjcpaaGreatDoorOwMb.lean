import Derived.Test.YtgdchaoklfjcpaaGreatDoorOwMa
import Derived.Laws.StructEq
import Derived.Lib.AppendZerosOnto
import Derived.Maps.RangeRun
import Derived.Laws.Externs
import Derived.Lib.BytesEntry
import Derived.Lib.Bytealg
import Derived.Room.MakeNoZero
import Derived.ChangeKeysEq
/- rules, proved -/
set_option linter.unusedSimpArgs false
set_option linter.unusedVariables false
namespace Go.Ow
open Go.RowKit
variable{x:Cx}{ops:Array Oper}{Q:Exit->Act->World->Prop}{rest:List Oper}{l:Slots}{own:List Own}{H HF:Heaplet}
variable{ty:TypeId}{d:Nat}{pos:String}{aft:Array Edge}{v:Value}{p q:Operand}{t:TypeId}
def SrcF{α:Type}(x:Cx)(H HF:Heaplet)(own:List Own)(R:Rep α)(size:Nat)(t:TypeId)(y:Value)(ls:List α):Prop:=
 ∃cells,Flat HF R size cells ls/\YS cells/\∀w,Mem x.w0 x.H0 x.S own.flatten H w->Src x.P size t y ls.length cells w
theorem SrcF.slice{α:Type}{R:Rep α}(i:R.One){size:Nat}{t e:TypeId}{y:Value}{ls:List α}(d:x.P.underlying t=some (.slice e))(f:Hle HF H)(hs:IsSlice HF R size y ls):SrcF x H HF own R size t y ls:=by
 obtain⟨cells,c,ao,cap,rfl,g⟩:=hs.cells;refine⟨cells,c,c.one' i,λw k=> ?_⟩;rcases g with rfl|⟨b,o,rfl,g⟩
 . simp only[Flat]at c;subst c;cases ao with
   |none=>exact Src.ofNil w d cap
   |some a=>exact Src.ofSlice w d a 0 cap [] (by simp) (λj u h=>by simp at h) λu h=>by cases h
 . exact Src.ofSlice w d ⟨b,o,none⟩ _ cap cells (by rw[c.length]) (λj u h=>by rw[add_lit];exact k.agr _ _ _<|f _ _ _<|g j u h)<|c.one' i
theorem SrcF.row{α:Type}{R:Rep α}{size B:Nat}{t e E:TypeId}{y:Value}{ls:List α}{K:Own}(j:Nat)(b:x.P.underlying t=some (.slice e))(d:own[j]? =some K)(hs:RowOf HF R B E size y ls K):SrcF x H HF own R size t y ls:=by
 obtain⟨cells,⟨h0,h1⟩,a,c⟩:=hs;refine⟨cells,a,c,λw f=> ?_⟩;rcases h1 with⟨rfl,h3,k⟩|⟨g,cap,cur,rfl,e2,e3,e4,e5,e6,e7⟩
 . have:ls= []:=TT.1 h3;subst this;simp only[Flat]at a;subst a;exact Src.ofNil w b 0
 . subst e2;have i:=(Zm f d).here (g,.cells cur E (0,0)) (by simp);refine Src.ofSlice w b ⟨g,0,none⟩ _ cap cells (by rw[h0]) (λj u h=> ?_) c;rw[add_lit,Te,cell_of_row w g j cur E (0,0) i];rw[<-e7,TX]at h;split at h
   . simpa using h
   . cases h
theorem QO{n:Nat}(h:n<=LIM):n<=maxLen:=by unfold LIM at h;unfold maxLen;omega
theorem XY{n bytes:Nat}(h:n<=LIM)(hb:Nat.ble bytes 128=true):n*bytes<=140737488355328:=by
 have h2:=TI hb;have:=Nat.mul_le_mul h h2;unfold LIM at this;omega
theorem BW{α:Type}{R:Rep α}(i:Nat){g E:TypeId}{z y:Value}{size bytes B:Nat}{ls s G:List α}{K:Own}(A:x.P.underlying t=some (.slice E))(J:eInfo x.P E=some (z,size,bytes))
 (h1:evo l p=some v)(hi:own[i]? =some K)(L:RowOf HF R B E size v ls K)(h2:evo l q=some y)(hs:SrcF x H HF own R size g y s)
 (C:G=ls++s)(I:ls.length+s.length<=LIM)(hb:Nat.ble bytes 128=true)(M:B<=x.w0.heap.size)(N:Nat.blt d x.n=true)
 (h:∀v' K',RowOf HF R B E size v' G K'->JL x ops Q rest ((d,v')::l) (own.set i K') H):
 JL x ops Q (⟨some d,.call ⟨.builtin .append,#[p,q],#[t,g]⟩,ty,pos,aft,none⟩::rest) l own H:=λa w b=>by
 subst C;simp only[wpLs,ZO,if_true];refine⟨λ_ _=>trivial,?_⟩;obtain⟨cells,j,O,hone⟩:=L;obtain⟨k,D,c,m⟩:=hs;obtain⟨v',K',S,o,e,T⟩:=ZCg (ty:=ty) A J b.mem.agr (Zm b.mem hi) j (m w b.mem) (QO I) (XY I hb) (TS M b.mem.kept.size);have f:(execOp a.eval ⟨some d,.call ⟨.builtin .append,#[p,q],#[t,g]⟩,ty,pos,aft,none⟩).run x.P w=.ok (.value v') S:=by
  have e1:=ZM b h1;have e2:=ZM b h2;have:(execOp a.eval ⟨some d,.call ⟨.builtin .append,#[p,q],#[t,g]⟩,ty,pos,aft,none⟩).run x.P w=((Builtin.append_ #[t,g] ty #[v,y]).run x.P w).andThen (λr F=>.ok (.value r) F):=by
   generalize a.eval=ρ at e1 e2;have e3:Array.map ρ #[p,q]= #[v,y]:=(by simp[e1,e2]);simp only[execOp,resolve,e3,Sem.run_bind,Sem.run_pure,Result.andThen,invoke,builtin]
  rw[this,o];rfl
 rw[ZV rfl,f];exact h v' K' ⟨cells++k,by simpa using e,Flat.append D O,λu A=>(TR.1 A).elim (hone u) (c u)⟩ _ _
 <|Holds.put (x:=x) (l:=l) ⟨b.size,b.ds,b.slots,b.mem.go1 hi T⟩ N v'
theorem KI{α:Type}{R:Rep α}{E n:Nat}{z:Value}{size bytes:Nat}{b:Array (Nat×Operand)}{vs:List Value}{ls:List α}(s:x.P.underlying t=some (.slice E))(v:eInfo x.P E=some (z,size,bytes))
    (w:b.toList.mapM (λp=>(evo l p.2).map λu=>(p.1,u))=some ((List.range' 0 vs.length).zip vs))(hs:vs.all (λu=>Nat.beq u.cells.size size)=true)(A:Flat HF R size (vs.map (·.cells.toList)).flatten ls)
    (f:R.One)(hn:n=vs.length)(B:ls.length=vs.length)(hb:Nat.ble (n*size) 16777216=true)(C:n<=maxLen)(D:Nat.blt d x.n=true)
    (h:∀v' K',RowOf HF R x.w0.heap.size E size v' ls K'->JL x ops Q rest ((d,v')::l) (K'::own) H):JL x ops Q (⟨some d,.buildSlice t n b,ty,pos,aft,none⟩::rest) l own H:=by
  -- the elements as bare cells
  refine ZTn (R:=(λ_ cs (k:Nat)=>cs.length=size/\YS cs/\∃y,ls[k]? =some y/\R HF cs y:Rep Nat)) (ls:=List.range' 0 ls.length) (vs:=vs) s v w hs ?_ ?_ hn (by simpa using B) hb C D ?_
  . have c:∀(m:List α) (k:Nat) (cells:List Value),(∀i y,m[i]? =some y->ls[k+i]? =some y)->Flat HF R size cells m->
        Flat H (λ_ cs (k:Nat)=>cs.length=size/\YS cs/\∃y,ls[k]? =some y/\R HF cs y:Rep Nat) size cells (List.range' k m.length):=by
      intro m;induction m with
      |nil=>intro k cells _ h;exact h
      | cons y r g=>
        intro k cells e h;obtain⟨cs,a,rfl,h1,h2,h3⟩:=h;simp only[Ts,S1];exact⟨cs,a,rfl,h1,⟨h1,f _ _ _ h2,y,by simpa using e 0 y rfl,h2⟩,g (k+1) a (λi z j=>by have:=e (i+1) z (by simpa using j);rwa[show k+(i+1)=k+1+i by omega]at this) h3⟩
    exact c ls 0 _ (λi y o=>by simpa using o) A
  . intro H cs y h;exact h.2.1
  . intro v' K' F;refine h v' K' ?_;obtain⟨cells,h1,h2,h3⟩:=F;refine⟨cells,by simpa using h1,?_,h3⟩;have c:∀(m:List α) (k:Nat) (cells:List Value),(∀i y,m[i]? =some y->ls[k+i]? =some y)->
        Flat H (λ_ cs (k:Nat)=>cs.length=size/\YS cs/\∃y,ls[k]? =some y/\R HF cs y:Rep Nat) size cells (List.range' k m.length)->Flat HF R size cells m:=by
      intro m;induction m with
      |nil=>intro k cells _ h;exact h
      | cons y r g=>
        intro k cells e h;simp only[Ts,S1]at h;obtain⟨cs,a,rfl,h1,⟨_,_,G,q,h2⟩,h3⟩:=h;have:G=y:=(by have:=e 0 y rfl;rw[SI,q]at this;exact TB this);subst this;exact⟨cs,a,rfl,h1,h2,g (k+1) a (λi z j=>by have:=e (i+1) z (by simpa using j);rwa[show k+(i+1)=k+1+i by omega]at this) h3⟩
    exact c ls 0 cells (λi y o=>by simpa using o) h2
theorem ZQb{α:Type}{R:Rep α}{E:TypeId}{z:Value}{size bytes:Nat}{g i:IntKind}{n:Int}{y:α}{r:List α}(j:x.P.underlying t=some (.slice E))(o:eInfo x.P E=some (z,size,bytes))(h1:evo l p=some (.int g n))(h2:evo l q=some (.int i n))
    (e:∀H,R H z.cells.toList y)(a:R.One)(b:r=List.replicate n.toNat y)(hn:0<=n/\n.toNat<=LIM)(hb:Nat.ble bytes 128=true)(s:Nat.blt d x.n=true)
    (h:∀v' K',RowOf HF R x.w0.heap.size E size v' r K'->JL x ops Q rest ((d,v')::l) (K'::own) H):JL x ops Q (⟨some d,.makeSlice t p q,ty,pos,aft,none⟩::rest) l own H:=by
  subst b;obtain⟨N,rfl⟩:=SQ hn.1;have f:N<=LIM:=by simpa using hn.2
  refine ZSc (R:=(λ_ cs (k:Unit)=>R HF cs y/\YS cs:Rep Unit)) (y:=()) j o h1 h2 ⟨e _,a _ _ _<|e HF⟩ (λ_ _ _ h=>h.2) ?_ (QO f) s ?_
  . have:=XY f hb;rw[Nat.mul_comm];omega
  . intro ao cap K' u;refine h _ K' ?_;obtain⟨cells,h1,h2,h3⟩:=u;refine⟨cells,by simpa using h1,?_,h3⟩;have c:∀(k:Nat) (cells:List Value),Flat H (λ_ cs (k:Unit)=>R HF cs y/\YS cs:Rep Unit) size cells (List.replicate k ())->Flat HF R size cells (List.replicate k y):=by
      intro k;induction k with
      |zero=>intro cells h;exact h
      | succ k v=>
        intro cells h;obtain⟨cs,m,rfl,h1,h2,h3⟩:=h;exact⟨cs,m,rfl,h1,h2.1,v m h3⟩
    simpa using c N cells h2
theorem ZEb{α:Type}{R:Rep α}(i:Nat){T E:TypeId}{g:Bool}{size B b o:Nat}{k:Int}{v u:Value}{m m':List α}{K:Own}{y:α}(hs:ZE x.P T=some (g,size))(hi:own[i]? =some K)(z:RowOf HF R B E size v m K)
 (h1:evo l p=some (.pointer<|some ⟨b,o,none⟩))(A:ElemAt v size k b o)(h2:evo l q=some u)(j:u.cells.size=size)(n:R HF u.cells.toList y)(f:R.One)(C:m'=m.set k.toNat y)
 (h:∀K',RowOf HF R B E size v m' K'->m'.length=m.length->JL x ops Q rest l (own.set i K') H):JL x ops Q (⟨none,.store T p q,ty,pos,aft,none⟩::rest) l own H:=by
 obtain⟨cells,⟨h0,h3⟩,D,r⟩:=z;obtain⟨F,M,len,s,ev,rfl,d⟩:=A;rcases h3 with⟨rfl,h3,rfl⟩|⟨G,cap,cur,rfl,rfl,e3,e4,e5,e6,e7⟩
 . simp only[Value.slice.injEq]at ev;obtain⟨ev,_⟩:=ev;cases ev
 . simp only[Value.slice.injEq,SE,Addr.mk.injEq]at ev;obtain⟨⟨rfl,rfl,-⟩,rfl,rfl⟩:=ev;have t:k.toNat<m.length:=d;have hone:=f _ _ _ n;have I:k.toNat*size+size<=m.length*size:=(by rw[<-Nat.succ_mul];exact TN _ t);have J:m.length*size<=cap*size:=TN _ e4;subst C;refine ZAL i hs h1 h2 hi j (Ti.2 hone) (by omega)<|h _ ?_<|Sx ..;have a:u.cells.toList.length=size:=(by simpa using j);have L:cap*size<=cur.toList.length:=(by simpa using e6);have e:=Flat.set (y:=y) a n D t;refine⟨_,⟨by rw[e.length],.inr ⟨G,cap,_,by rw[Sx],rfl,e3,by rw[Sx];exact e4,e5,?_,?_⟩⟩,e,?_⟩
   . simp only[Tm,TG,TH,Td,a];omega
   . rw[Sx,<-e7,Te];simp only[];rw[SK,SK,SU,SU,Re (by omega),Tr<|by omega];rw[TZ (l:=u.cells.toList) (by simp only[TH,a];omega)];congr 1;rw[List.take_drop];congr 2;simp only[TG,TH,a];omega
   . intro w c;rcases TR.1 c with c|c
     . rcases TR.1 c with c|c
       . exact r w<|SX c
       . exact hone w c
     . exact r w<|RD c
theorem WZ{α:Type}{R:Rep α}{n B:Nat}{E:TypeId}{v:Value}{m:List α}{K:Own}{i:Int}(a:RowOf HF R B E n v m K)(hi:0<=i/\i.toNat<m.length):∃b o,ElemAt v n i b o:=by
 obtain⟨b,o,cs,cur,_,h,_⟩:=a.elem (i:=i) (y:=m[i.toNat]'hi.2) ⟨hi.1,by simp[hi.2]⟩;exact⟨b,o,h⟩
theorem ZP:own.flatten.Perm (([]:List Own).flatten++own.flatten):=by simp
theorem ZD{s:Own}{K rst:List Own}(i:Nat)(hi:own[i]? =some s)(h:(own.eraseIdx i).flatten.Perm (K.flatten++rst.flatten)):own.flatten.Perm ((s::K).flatten++rst.flatten):=by
 refine(XJ hi).trans ?_;simp only[TP,TE];exact h.append_left s
theorem IsSlice.old{α:Type}{R:Rep α}{size:Nat}{v:Value}{m:List α}{H0:Heaplet}(a:R.Mono)(h:IsSlice (New H0 H) R size v m):IsSlice H R size v m:=h.mono a<|New.le _ _
theorem RowOf.old{α:Type}{R:Rep α}{B:Nat}{E:TypeId}{size:Nat}{v:Value}{ls:List α}{K:Own}{H0:Heaplet}(a:R.Mono)(h:RowOf (New H0 H) R B E size v ls K):RowOf H R B E size v ls K:=h.mono a<|New.le _ _
theorem RowOf.ge{α:Type}{R:Rep α}{B:Nat}{E:TypeId}{size:Nat}{v:Value}{ls:List α}{K:Own}(h:RowOf HF R B E size v ls K):∀p∈K,B<=p.1:=by
 obtain⟨cells,⟨h0,h1⟩,h2,h3⟩:=h;rcases h1 with⟨_,_,rfl⟩|⟨g,cap,cur,e1,rfl,e3,r⟩
 . intro p a;cases a
 . intro p a;simp at a;subst a;exact e3
theorem ZRK{N:Nat}:∀i∈ids ([]:List Own).flatten,N<=i:=λi h=>by simp[ids]at h
theorem Dj{N:Nat}{K:Own}{r:List Own}(h:∀p∈K,N<=p.1)(k:∀i∈ids r.flatten,N<=i):∀i∈ids (K::r).flatten,N<=i:=λi hi=>by
 simp only[ids,TP,SJ,TR]at hi;rcases hi with hi|hi
 . obtain⟨p,a,rfl⟩:=T7.1 hi;exact h p a
 . exact k i hi
theorem ZDO{N b:Nat}{o:Obj}(h:N<=b):∀p∈([(b,o)]:Own),N<=p.1:=λp a=>by simp at a;subst a;exact h
theorem Yc{K:Own}{p:Nat×Obj}(i:Nat)(h:own[i]? =some K)(a:p∈K):p∈own.flatten:=Sd.2 ⟨K,Tq h,a⟩
theorem ZQP{α:Type}{R:Rep α}{B N:Nat}{E:TypeId}{size:Nat}{v:Value}{ls:List α}{K:Own}{S:List Nat}(h:RowOf HF R B E size v ls K)(a:∀p∈K,p.1∈S\/N<=p.1)(b:∀i∈S,N<=i):RowOf HF R N E size v ls K:=
 h.base λp c=>(a p c).elim (b _) id
theorem OF{α:Type}{R:Rep α}(a:R.Const)(b:R.One){size:Nat}{t e:TypeId}{y:Value}{ls:List α}(c:x.P.underlying t=some (.slice e))(hs:IsSlice H R size y ls):SrcF x H HF own R size t y ls:=by
 obtain⟨cells,d,f,h⟩:=SrcF.slice (own:=own) b c (Rz _) hs;exact⟨cells,d.conv λcs y h=>a _ _ _ _ h,f,h⟩
def RStr:Rep (List UInt8):=λ_ cs s=>cs= [.string<|bs s]
theorem RStr.mono:RStr.Mono:=λ_ _ _ _ _ h=>h
def R_Write:Rep Write:=λH cs x=>∃v:Value,cs= [.int .i64 x.At,v]/\IsSlice H RU8 1 v x.Data
theorem R_Write.mono:R_Write.Mono:=λ_ _ _ _ h ⟨v,e,h1⟩=>⟨v,e,h1.mono RU8.mono h⟩
theorem R_Write.one:R_Write.One:=λ_ _ _ ⟨v,e,h1⟩=>by
 subst e;intro u h;simp only[Ta,List.not_mem_nil,or_false]at h;rcases h with rfl|rfl<;>first|rfl|exact h1.one1
def R_Disk:Rep Disk:=λH cs x=>∃v a:Value,cs= [v,a]/\IsSlice H (RSl RU8 1) 1 v x.Blocks/\IsSlice H R_Write 2 a x.Waits
theorem R_Disk.mono:R_Disk.Mono:=λ_ _ _ _ h ⟨v,a,e,h0,h1⟩=>⟨v,a,e,h0.mono (RSl.mono RU8.mono) h,h1.mono R_Write.mono h⟩
def R_Ptr:Rep Ptr:=λH cs x=>cs= [.int .i64 x.At,.int .u32 (x.Birth.toNat:Int),.int .u32 (x.Iv.toNat:Int),.int .u32 (x.Tag.toNat:Int),.int .u32 (x.Sum.toNat:Int)]
theorem R_Ptr.mono:R_Ptr.Mono:=λ_ _ _ _ _ h=>h
theorem R_Ptr.const:R_Ptr.Const:=λ_ _ _ _ h=>h
def JP (x:Ptr):List Value:=[.int .i64 x.At,.int .u32 (x.Birth.toNat:Int),.int .u32 (x.Iv.toNat:Int),.int .u32 (x.Tag.toNat:Int),.int .u32 (x.Sum.toNat:Int)]
theorem R_Ptr.one:R_Ptr.One:=λ_ cs x h=>by
 rw[show cs=_ from h];intro u a;simp only[Ta,List.not_mem_nil,or_false]at a;rcases a with rfl|rfl|rfl|rfl|rfl<;>rfl
theorem ZLp (x:Ptr):∀v∈JP x,v.oneCell'=true:=R_Ptr.one (λ_ _=>none) (JP x) x rfl
def R_Label:Rep Label:=λH cs x=>cs= [.int .u32 (x.Gen.toNat:Int),.int .u32 (x.Epoch.toNat:Int),.int .i64 x.Root.At,.int .u32 (x.Root.Birth.toNat:Int),.int .u32 (x.Root.Iv.toNat:Int),.int .u32 (x.Root.Tag.toNat:Int),.int .u32 (x.Root.Sum.toNat:Int)]
theorem R_Label.mono:R_Label.Mono:=λ_ _ _ _ _ h=>h
def R_Object:Rep Object:=λH cs x=>∃v:Value,cs= [.int .u8 (x.Kind.toNat:Int),.int .i64 x.Links,.int .i64 x.Size,v]/\IsSlice H R_Ptr 5 v x.Data
theorem R_Object.mono:R_Object.Mono:=λ_ _ _ _ h ⟨v,e,h3⟩=>⟨v,e,h3.mono R_Ptr.mono h⟩
def R_Line:Rep Line:=λH cs x=>∃v:Value,cs= [.int .i64 x.Id,.int .u8 (x.Kind.toNat:Int),.int .i64 x.Owner,.int .i64 x.Prev,.int .u32 (x.Txg.toNat:Int),.int .u32 (x.Guid.toNat:Int),.int .i64 x.Key,.int .i64 x.Root.At,.int .u32 (x.Root.Birth.toNat:Int),.int .u32 (x.Root.Iv.toNat:Int),.int .u32 (x.Root.Tag.toNat:Int),.int .u32 (x.Root.Sum.toNat:Int),v]/\IsSlice H R_Ptr 5 v x.Dead
theorem R_Line.mono:R_Line.Mono:=λ_ _ _ _ h ⟨v,e,a⟩=>⟨v,e,a.mono R_Ptr.mono h⟩
def R_Store:Rep Store:=λH cs x=>∃v a b:Value,cs= [v,a,b,.int .u32 (x.Epoch.toNat:Int),.int .u32 (x.Count.toNat:Int)]/\IsSlice H (RSl RU8 1) 1 v x.Disk.Blocks/\IsSlice H R_Write 2 a x.Disk.Waits/\IsSlice H RU8 1 b x.Space
theorem R_Store.mono:R_Store.Mono:=λ_ _ _ _ h ⟨v,a,b,e,h0,h1,h2⟩=>⟨v,a,b,e,h0.mono (RSl.mono RU8.mono) h,h1.mono R_Write.mono h,h2.mono RU8.mono h⟩
def R_Change:Rep Change:=λH cs x=>∃v:Value,cs= [.int .i64 x.Set,.int .i64 x.Obj,.int .i64 x.Index,.int .u8 (x.Kind.toNat:Int),.int .i64 x.Links,.int .i64 x.Size,v,.int .i64 x.Laid.At,.int .u32 (x.Laid.Birth.toNat:Int),.int .u32 (x.Laid.Iv.toNat:Int),.int .u32 (x.Laid.Tag.toNat:Int),.int .u32 (x.Laid.Sum.toNat:Int)]/\IsSlice H RU8 1 v x.Data
theorem R_Change.mono:R_Change.Mono:=λ_ _ _ _ h ⟨v,e,a⟩=>⟨v,e,a.mono RU8.mono h⟩
def R_Pool:Rep Pool:=λH cs x=>∃e f g v a b c d:Value,cs= [e,f,g,.int .u32 (x.Store.Epoch.toNat:Int),.int .u32 (x.Store.Count.toNat:Int),.int .u32 (x.Gen.toNat:Int),.int .i64 x.Root.At,.int .u32 (x.Root.Birth.toNat:Int),.int .u32 (x.Root.Iv.toNat:Int),.int .u32 (x.Root.Tag.toNat:Int),.int .u32 (x.Root.Sum.toNat:Int),v,a,b,c,d,.int .i64 x.Logged,.int .i64 x.NextId,.int .u32 (x.NextGuid.toNat:Int)]/\IsSlice H (RSl RU8 1) 1 e x.Store.Disk.Blocks/\IsSlice H R_Write 2 f x.Store.Disk.Waits/\IsSlice H RU8 1 g x.Store.Space/\IsSlice H RInt 1 v x.MetaL/\IsSlice H R_Line 13 a x.Lines/\IsSlice H (RSl RU8 1) 1 b x.Keys/\IsSlice H (RSl RU8 1) 1 c x.Loaded/\IsSlice H R_Change 12 d x.Changes
theorem R_Pool.mono:R_Pool.Mono:=λ_ _ _ _ h ⟨l,m,n,v,a,b,c,d,e,h0,h1,h2,f,g,i,j,k⟩=>⟨l,m,n,v,a,b,c,d,e,h0.mono (RSl.mono RU8.mono) h,h1.mono R_Write.mono h,h2.mono RU8.mono h,f.mono RInt.mono h,g.mono R_Line.mono h,i.mono (RSl.mono RU8.mono) h,j.mono (RSl.mono RU8.mono) h,k.mono R_Change.mono h⟩
def R_Signer:Rep Signer:=λH cs x=>∃v:Value,cs= [v,.int .i64 x.Spent]/\IsSlice H RU8 1 v x.Seed
theorem R_Signer.mono:R_Signer.Mono:=λ_ _ _ _ h ⟨v,e,h0⟩=>⟨v,e,h0.mono RU8.mono h⟩
def R_Entry:Rep Entry:=λH cs x=>cs= [.string<|bs x.Name,.int .i64 x.Obj]
theorem R_Entry.mono:R_Entry.Mono:=λ_ _ _ _ _ h=>h
def R_Info:Rep Info:=λH cs x=>cs= [.int .i64 x.Obj,.int .u8 (x.Kind.toNat:Int),.int .i64 x.Links,.int .i64 x.Size,.string<|bs x.To]
theorem R_Info.mono:R_Info.Mono:=λ_ _ _ _ _ h=>h
def R_Call:Rep Call:=λH cs x=>∃v:Value,cs= [.int .u8 (x.Kind.toNat:Int),.int .i64 x.A,.int .i64 x.B,.int .i64 x.C,.string<|bs x.Name,.string<|bs x.As,.string<|bs x.Text,v]/\IsSlice H RU8 1 v x.Data
theorem R_Call.mono:R_Call.Mono:=λ_ _ _ _ h ⟨v,e,a⟩=>⟨v,e,a.mono RU8.mono h⟩
def R_Reply:Rep Reply:=λH cs x=>∃v a b:Value,cs= [.int .i64 x.Error,.int .i64 x.Id,v,a,.int .i64 x.Info.Obj,.int .u8 (x.Info.Kind.toNat:Int),.int .i64 x.Info.Links,.int .i64 x.Info.Size,.string<|bs x.Info.To,b]/\IsSlice H RU8 1 v x.Data/\IsSlice H RStr 1 a x.Names/\IsSlice H RInt 1 b x.Lines
theorem R_Reply.mono:R_Reply.Mono:=λ_ _ _ _ h ⟨v,a,b,e,h2,h3,c⟩=>⟨v,a,b,e,h2.mono RU8.mono h,h3.mono RStr.mono h,c.mono RInt.mono h⟩
def R_Part:Rep Part:=λH cs x=>∃v:Value,cs= [.int .i64 x.Obj,.int .i64 x.Index,.int .u32 (x.Iv.toNat:Int),.int .u32 (x.Tag.toNat:Int),v]/\IsSlice H RU8 1 v x.Data
theorem R_Part.mono:R_Part.Mono:=λ_ _ _ _ h ⟨v,e,a⟩=>⟨v,e,a.mono RU8.mono h⟩
def R_Stream:Rep Stream:=λH cs x=>∃v a b:Value,cs= [.int .u32 (x.Guid.toNat:Int),.int .u32 (x.Base.toNat:Int),v,a,b]/\IsSlice H RU8 1 v x.Key/\IsSlice H R_Part 5 a x.Parts/\IsSlice H RU8 1 b x.Sign
theorem R_Stream.mono:R_Stream.Mono:=λ_ _ _ _ h ⟨v,a,b,e,h2,h3,c⟩=>⟨v,a,b,e,h2.mono RU8.mono h,h3.mono R_Part.mono h,c.mono RU8.mono h⟩
def R_Deed:Rep Deed:=λH cs x=>∃v a:Value,cs= [.int .u8 (x.Kind.toNat:Int),.int .i64 x.At,.int .i64 x.A,.int .i64 x.B,.int .u8 (x.Call.Kind.toNat:Int),.int .i64 x.Call.A,.int .i64 x.Call.B,.int .i64 x.Call.C,.string<|bs x.Call.Name,.string<|bs x.Call.As,.string<|bs x.Call.Text,v,a]/\IsSlice H RU8 1 v x.Call.Data/\IsSlice H RBool 1 a x.Keep
theorem R_Deed.mono:R_Deed.Mono:=λ_ _ _ _ h ⟨v,a,e,b,c⟩=>⟨v,a,e,b.mono RU8.mono h,c.mono RBool.mono h⟩
def R_Pair:Rep Pair:=λH cs x=>∃v a b:Value,cs= [v,a,b,.int .i64 x.Signer.Spent]/\IsSlice H R_Pool 19 v x.Pools/\IsSlice H RU8 1 a x.Stream/\IsSlice H RU8 1 b x.Signer.Seed
theorem R_Pair.mono:R_Pair.Mono:=λ_ _ _ _ h ⟨v,a,b,e,h0,h1,h2⟩=>⟨v,a,b,e,h0.mono R_Pool.mono h,h1.mono RU8.mono h,h2.mono RU8.mono h⟩
variable{x:Cx}{ops:Array Oper}{Q:Exit->Act->World->Prop}{rest:List Oper}{l:Slots}{own:List Own}{H HF:Heaplet}
variable{ty:TypeId}{d:Nat}{pos:String}{aft:Array Edge}{v:Value}{p q:Operand}{t u:TypeId}
def EqF (P:Program)(d:Nat)(xs ys:Array Value):List Field->Bool->Prop
  |[],b=>b=true
  | f :: fs, b => f.name ≠ "_" /\ ∃ (p q : Value) (b1 b2 : Bool), (∀ w, (part f.type xs f.offset).run P w = .ok p w) /\ (∀ w, (part f.type ys f.offset).run P w = .ok q w) /\
      (∀w,(Op.equalIn d f.type p q).run P w=.ok b1 w)/\EqF P d xs ys fs b2/\b=(b1&&b2)
theorem EqF.run{P:Program}{d:Nat}{xs ys:Array Value}:∀{fs:List Field} {b:Bool},EqF P d xs ys fs b->∀w,(Op.eqFields d xs ys fs).run P w=.ok b w
  |[],b,h,w=>by simp only[EqF]at h;subst h;rfl
  | f::fs,b,h,w=>by
    obtain⟨hn,p,q,a,e,h1,h2,h3,c,rfl⟩:=h;simp only[Op.eqFields,hn,ne_eq,not_false_eq_true,if_true,Sem.run_bind,h1,h2,h3,Result.andThen,Sem.run_ite];cases a with
    |true=>simpa using EqF.run c w
    |false=>simp[Sem.run_pure]
theorem ZAR{P:Program}{T n:Nat}{cs:Array Value}{off:Nat}{v:Value}(hs:ZE P T=some (false,n))(h:cs.toList[off]? =some v)(w:World):(part T cs off).run P w=.ok v w:=by
 have a:cs[off]? =some v:=by simpa using h
 simp only[part,Sem.run_bind,GF hs,Result.andThen,Rf,if_false,a,Sem.run_pure]
theorem ZIn{P:Program}{T n:Nat}{cs vs:Array Value}{off:Nat}(hs:ZE P T=some (true,n))(h:cs.extract off (off+n)=vs)(w:World):(part T cs off).run P w=.ok (.agg vs) w:=by
 simp only[part,Sem.run_bind,GF hs,run_sizeOf hs,Result.andThen,if_true,h,Sem.run_pure]
section eqf
variable{P:Program}{xs ys:Array Value}{f:Field}{fs:List Field}{bb:Bool}{k:Nat}
theorem EqF.nil:EqF P k xs ys [] true:=rfl
theorem EqF.i {kk k' : IntKind} {n : Nat} {a b : Int} (hn : f.name ≠ "_") (hs : ZE P f.type = some (false, n)) (hu : P.underlying f.type = some (.int k')) (h1 : xs.toList[f.offset]? = some (.int kk a)) (h2 : ys.toList[f.offset]? = some (.int kk b)) (h : EqF P (k + 1) xs ys fs bb) :
    EqF P (k+1) xs ys (f::fs) (decide (a=b)&&bb):=
  ⟨hn,_,_,_,_,ZAR hs h1,ZAR hs h2,λw=>by rw[run_equalIn_int w k f.type kk k' a b hu,show(a==b)=decide (a=b) by rw[Sm];simp],h,rfl⟩
theorem EqF.u32 {k' : IntKind} {n : Nat} {a b : UInt32} (hn : f.name ≠ "_") (hs : ZE P f.type = some (false, n)) (hu : P.underlying f.type = some (.int k')) (h1 : xs.toList[f.offset]? = some (.int .u32 (a.toNat : Int))) (h2 : ys.toList[f.offset]? = some (.int .u32 (b.toNat : Int))) (h : EqF P (k + 1) xs ys fs bb) :
    EqF P (k+1) xs ys (f::fs) (decide (a=b)&&bb):=by
  have:=EqF.i hn hs hu h1 h2 h;rw[show decide ((a.toNat:Int)=(b.toNat:Int))=decide (a=b) by rw[Sm];simp only[SL,<-Ru];omega]at this;exact this
theorem EqF.u8 {k' : IntKind} {n : Nat} {a b : UInt8} (hn : f.name ≠ "_") (hs : ZE P f.type = some (false, n)) (hu : P.underlying f.type = some (.int k')) (h1 : xs.toList[f.offset]? = some (.int .u8 (a.toNat : Int))) (h2 : ys.toList[f.offset]? = some (.int .u8 (b.toNat : Int))) (h : EqF P (k + 1) xs ys fs bb) :
    EqF P (k+1) xs ys (f::fs) (decide (a=b)&&bb):=by
  have:=EqF.i hn hs hu h1 h2 h;rw[show decide ((a.toNat:Int)=(b.toNat:Int))=decide (a=b) by rw[Sm];simp only[SL,<-Rr];omega]at this;exact this
theorem EqF.s {n : Nat} {xs' ys' : Array Value} {fs' : List Field} {b : Bool} (hn : f.name ≠ "_") (hs : ZE P f.type = some (true, n)) (hu : P.underlying f.type = some (.struct<|P.fieldsOf f.type)) (hp : P.stoodInHeld f.type = false) (hf : (P.fieldsOf f.type).toList = fs') (h1 : xs.extract f.offset (f.offset + n) = xs') (h2 : ys.extract f.offset (f.offset + n) = ys')
    (hi:EqF P k xs' ys' fs' b) (h:EqF P (k+1) xs ys fs bb):EqF P (k+1) xs ys (f::fs) (b&&bb):=
  ⟨hn,_,_,_,_,ZIn hs h1,ZIn hs h2,λw=>by rw[run_equalIn_struct w k f.type xs' ys' hu hp,hf];exact hi.run w,h,rfl⟩
end eqf
theorem ZMD{xs ys:Array Value}{fs:List Field}{b:Bool}(c:x.P.underlying t=some (.struct<|x.P.fieldsOf t))(d:x.P.stoodInHeld t=false)(e:x.P.eqGuardType x.P.depth t=false)(f:(x.P.fieldsOf t).toList=fs)
 (h1:evo l p=some (.agg xs))(h2:evo l q=some (.agg ys))(h:EqF x.P 9999 xs ys fs b):Runs x (.binOp .eql t p q u) ty l own H (.bool b):=λρ w _ _ _ _ a g=>by
 simp only[execOp,a _ _ h1,a _ _ h2];refine YQ ?_;rw[Sem.run_bind,run_eqGuard_agg w .eql t p q xs ys e];simp only[Result.andThen,run_eql_struct,run_equalIn_struct w 9999 t xs ys c d,f,h.run w]
theorem ZMB{xs ys:Array Value}{fs:List Field}{b:Bool}(c:x.P.underlying t=some (.struct<|x.P.fieldsOf t))(d:x.P.stoodInHeld t=false)(e:x.P.eqGuardType x.P.depth t=false)(f:(x.P.fieldsOf t).toList=fs)
 (h1:evo l p=some (.agg xs))(h2:evo l q=some (.agg ys))(h:EqF x.P 9999 xs ys fs b):Runs x (.binOp .neq t p q u) ty l own H (.bool (!b)):=λρ w _ _ _ _ a g=>by
 simp only[execOp,a _ _ h1,a _ _ h2];refine YQ ?_;rw[Sem.run_bind,run_eqGuard_agg w .neq t p q xs ys e];simp only[Result.andThen,run_neq_struct,run_equalIn_struct w 9999 t xs ys c d,f,h.run w]
theorem ZFd{α:Type}(l:List α)(k m n o:Nat)(h:k+m<=n)(b:o+n<=l.length)(cs:List α)(a:cs=(l.drop o).take n)(u:List α)(c:u.length=m):
 l.take (o+k)++u++l.drop (o+k+m)=l.take o++(cs.take k++u++cs.drop (k+m))++l.drop (o+n):=by
 subst a;have e1:l.take (o+k)=l.take o++((l.drop o).take n).take k:=by
  rw[SU,Tr (by omega),List.take_add]
 have e2:l.drop (o+k+m)=((l.drop o).take n).drop (k+m)++l.drop (o+n):=by
  rw[List.drop_take];have:l.drop (o+n)=(l.drop (o+k+m)).drop (n-(k+m)):=by rw[S2];congr 1;omega
  rw[this,S2,show o+(k+m)=o+k+m by omega,RO]
 rw[e1,e2];simp
theorem ZTg{α:Type}{R:Rep α}(i:Nat)(k:Nat){T E:TypeId}{g:Bool}{size m B b o:Nat}{j:Int}{v u:Value}{f ms':List α}{z:α}{cs:List Value}{cur:Array Value}(hs:ZE x.P T=some (g,m))(hi:own[i]? =some [(b,.cells cur E (0,0))])(M:RowOf HF R B E size v f [(b,.cells cur E (0,0))])
 (h1:evo l p=some (.pointer<|some ⟨b,o+k,none⟩))(N:ElemAt v size j b o)(h2:evo l q=some u)(F:u.cells.size=m)(O:∀j u,cs[j]? =some u->cur.toList[o+j]? =some u)(S:cs.length=size)
 (G:R HF (cs.take k++u.cells.toList++cs.drop (k+m)) z)(A:R.One)(U:k+m<=size)(V:ms'=f.set j.toNat z)
 (h:∀K',RowOf HF R B E size v ms' K'->ms'.length=f.length->JL x ops Q rest l (own.set i K') H):JL x ops Q (⟨none,.store T p q,ty,pos,aft,none⟩::rest) l own H:=by
 obtain⟨cells,⟨h0,h3⟩,W,I⟩:=M;obtain⟨X,o0,len,J,ev,rfl,r⟩:=N;rcases h3 with⟨rfl,h3,Y⟩|⟨b',cap,K,rfl,e2,e3,e4,e5,e6,e7⟩
 . cases Y
 . simp only[SS,Si,Obj.cells.injEq,and_true]at e2;obtain⟨rfl,rfl⟩:=e2;simp only[Value.slice.injEq,SE,Addr.mk.injEq]at ev;obtain⟨⟨-,rfl,-⟩,rfl,rfl⟩:=ev;have L:j.toNat<f.length:=r;subst V;have hone:=A _ _ _ G;have Z:j.toNat*size+size<=f.length*size:=(by rw[<-Nat.succ_mul];exact TN _ L);have hms:f.length*size<=cap*size:=TN _ e4;have d:u.cells.toList.length=m:=(by simpa using F);have s:cap*size<=cur.toList.length:=(by simpa using e6);have e:∀w∈u.cells.toList,w.oneCell'=true:=λw c=>hone w (by simp[c]);refine ZAL i hs h1 h2 hi F (Ti.2 e) (by omega)<|h _ ?_<|Sx ..;have D:cs=(cur.toList.drop (0+j.toNat*size)).take size:=by
    apply Tl;intro n;rw[TX];by_cases hn:n<size
    . rw[TJ hn,SF];have:cs[n]? =some cs[n]:=(by simp);rw[this,O n _ this]
    . rw[TK hn,Tz<|by omega]
   have a:(cs.take k++u.cells.toList++cs.drop (k+m)).length=size:=(by simp only[TG,TH,Td,S,d];omega);have t:=Flat.set (y:=z) a G W L;have es:=ZFd cur.toList k m size (0+j.toNat*size) U (by omega) cs D u.cells.toList d;refine⟨_,⟨by rw[t.length],.inr ⟨b,cap,_,by rw[Sx],rfl,e3,by rw[Sx];exact e4,e5,?_,?_⟩⟩,t,?_⟩
   . simp only[Tm,TG,TH,Td,d];omega
   . simp only[Sx,Tf];rw[es,<-e7];generalize cs.take k++u.cells.toList++cs.drop (k+m)=C at a;rw[Te];rw[SK,SK,SU,SU,Re (by omega),Tr<|by omega];rw[TZ (l:=C) (by simp only[TH,a,s];omega)];congr 1;rw[List.take_drop];congr 2;simp only[TG,TH,a,s];omega
   . intro w c;rcases TR.1 c with c|c
     . rcases TR.1 c with c|c
       . exact I w<|SX c
       . exact hone w c
     . exact I w<|RD c
variable{x:Cx}{ops:Array Oper}{Q:Exit->Act->World->Prop}{rest:List Oper}{l:Slots}{own:List Own}{H HF:Heaplet}
variable{ty:TypeId}{d:Nat}{pos:String}{aft:Array Edge}{v:Value}{p q:Operand}{t u:TypeId}
theorem ZQU{a:List UInt8}(b:x.P.underlying t=some .string)(h1:evo l p=some (.string<|bs a)):Runs x (.call ⟨.builtin .len,#[p],#[t]⟩) ty l own H (.int .i64 (a.length:Int)):=
 λρ w _ _ _ _ h c=>by
  have e:(bs a).size=a.length:=by show a.toArray.size=_;simp
  simp[execOp,resolve,invoke,h _ _ h1,run_underlying b,go_sem,Builtin.len_,goInt,e]
def IterL{α:Type}(P:Program)(f:FuncId)(cap:Array Value)(H:Heaplet)(RA:Heaplet->Array Value->α->Prop)(xs:List α):Prop:=
 Iter P f cap H (λpre a args y=>RA a args y/\∃t,pre++y::t=xs) (λys=>ys=xs) λys=>∃t,ys++t=xs
def RoundS{c d:Type}(I:c->List Own->Heaplet->Prop)(X:d->Code->List Own->Heaplet->Prop)(o:c ⊕ d)(a:World)(b:Heaplet)(S:List Nat):Exit->Act->World->Prop
 | .normal,_,w=>∃s' o' H,o=.inl s'/\Mem a b S o'.flatten H w/\I s' o' H
 | .ret,_,w=>∃t o' H,o=.inr t/\Mem a b S o'.flatten H w/\X t .ret o' H
 | .exit id,_,w=>∃t o' H,o=.inr t/\Mem a b S o'.flatten H w/\X t (.exit id) o' H
 |_,_,_=>False
theorem ZQY{b c:Type}{I:b->List Own->Heaplet->Prop}{X:c->Code->List Own->Heaplet->Prop}{s:b}(h:I s own H):JN x (RoundS I X (.inl s) x.w0 x.H0 x.S .normal) l own H:=
 λa w d=>⟨s,own,H,rfl,d.mem,h⟩
theorem JN.rR{c b:Type}{I:c->List Own->Heaplet->Prop}{X:b->Code->List Own->Heaplet->Prop}{e:b}(h:X e .ret own H):JN x (RoundS I X (.inr e) x.w0 x.H0 x.S .ret) l own H:=
 λa w d=>⟨e,own,H,rfl,d.mem,h⟩
theorem JN.rX{c b:Type}{I:c->List Own->Heaplet->Prop}{X:b->Code->List Own->Heaplet->Prop}{e:b}{id:Nat}(h:X e (.exit id) own H):JN x (RoundS I X (.inr e) x.w0 x.H0 x.S<|.exit id) l own H:=
 λa w d=>⟨e,own,H,rfl,d.mem,h⟩
theorem ZA3{P:Program}{fn:Func}{tmps:Array Value}{w0:World}{H0 H:Heaplet}{S:List Nat}{R:Ending->World->Prop}{v:Value}{rst:Own}
    (h:∀w,Mem w0 H0 S rst H w->(results fn tmps).run P w=.ok v w)(d:∀w,Mem w0 H0 S rst H w->R (.returned v) w):∀(b:List Nat) (w:World),
    Mem w0 H0 S ((b.map λD=>(D,Obj.deferred<|some []))++rst) H w->LeavesInM Fence.wide 0 P fn tmps R (b.map mark) .returning w
  |[],w,a=>⟨v,h w (by simpa using a),d w<|by simpa using a⟩
  | D::b,w,a=>by
    have e:w.heap[D]? =some (.deferred<|some []):=a.ok.here (D,Obj.deferred<|some []) (by simp);have c:∀k,H D k=none:=λk=>a.ok.apart (D,Obj.deferred<|some []) (by simp) k;refine⟨by simp,.inl ⟨D,_,rfl,run_takeDeferred e,?_⟩⟩;refine ZA3 h d b _ ?_;have:=a.go (K:=[(D,Obj.deferred<|some [])]) (rst:=(b.map λD=>(D,Obj.deferred<|some []))++rst) (by simp) (Mem.putObj a.agr e c<|.deferred none);exact this.sub<|RU _ _
def ZEF (a:List Nat):List Own:=a.map λD=> [(D,Obj.deferred<|some [])]
theorem ZLD (a:List Nat):(ZEF a).flatten=a.map λD=>(D,Obj.deferred<|some []):=by
 induction a with
 |nil=>rfl
 |cons D a i=>simp only[ZEF,Tp,TP]at i|-;rw[i];rfl
theorem ZH2{b:Cx}{fn:Func}{R:Value->List Own->Heaplet->Prop}{e:Exit}{r:List ResultVar}{vs:List Value}{K rst own2:List Own}(D:List Nat)(g:e=.ret\/e=.normal)
 (i:x.P=b.P/\x.w0=b.w0/\x.H0=b.H0/\x.S=b.S)(j:x.ds=D.map mark)(k:fn.results=r.toArray)(m:own.flatten.Perm ((ZEF D).flatten++own2.flatten))(n:Res x.P l own2 r vs)
 (d:own2.flatten.Perm (K.flatten++rst.flatten))(h:R (pack vs) K H):JN x (RetM b fn R e) l own H:=λa w c=>by
 have:RetM b fn R .ret a w:=by
  show LeavesInM Fence.wide 0 b.P fn a.tmps _ a.defers .returning w;rw[c.ds,j];obtain⟨e1,e2,e3,e4⟩:=i;refine ZA3 (rst:=own2.flatten) (w0:=x.w0) (H0:=x.H0) (S:=x.S) (H:=H) (v:=pack vs) (λo f=> ?_) (λo f=>⟨pack vs,K,H,rfl,h,by rw[<-e2,<-e3,<-e4];exact(f.perm d).sub<|Sv _ _⟩) D w ?_
  . rw[<-e1];exact ZNW (x:=x) (l:=l) (own:=own2) (H:=H) (a:=a) ⟨c.size,c.ds,c.slots,f⟩ k n
  . have:=c.mem.perm m;rw[ZLD]at this;exact this
 rcases g with rfl|rfl<;>exact this
theorem R7{P:Program}{f:FuncId}{fn:Func}{c:Code}{vs:List Value}{K:List Own}{H:Heaplet}{R:Value->List Own->Heaplet->Prop}{l:Slots}
 (j:P.funcs[f]? =some fn)(hb:fn.body=some c)(hn:Nat.ble vs.length fn.ntmps=true)(k:Sub l ((List.range' 0 vs.length).zip vs))
 (h:∀w,(∀i∈ids K.flatten,i<w.heap.size)->JC {P:=P,r:=none,n:=fn.ntmps,w0:=w,H0:=H,S:=ids K.flatten,ds:=[]} c
  (Ret {P:=P,r:=none,n:=fn.ntmps,w0:=w,H0:=H,S:=ids K.flatten,ds:=[]} fn R) l K H):Does P f vs.toArray K H R:=λw m g=>by
 have a:∀i∈ids K.flatten,i<w.heap.size:=λi hi=>by
  obtain⟨p,b,rfl⟩:=T7.1 hi;exact g.lt p b
 have hn:=TI hn;refine callsIn_of_wp j hb trivial ?_;refine h w a _ w ⟨?_,rfl,?_,⟨m,g,PO _ _,λp b=>.inl<|Sb b,Rz _,λ_ _ _=>rfl,PF⟩⟩
 . simp;omega
 . intro i v e;obtain⟨_,h2⟩:=ZC8 vs 0 i v<|ZJs k i v e;have hi:i<vs.length:=by
    rcases SZ i vs.length with d|d
    . exact d
    . simp[Tz d]at h2
   have h3:vs[i]=v:=(by simpa[TL hi]using h2);have:i<(vs.toArray++Array.replicate (fn.ntmps-vs.toArray.size) undef).size:=(by simp;omega);simp only[Sj,T9 this,Rb];rw[S8<|by simpa using hi];simpa using h3
theorem Pe{P:Program}{f:FuncId}{fn:Func}{c:Code}{vs:List Value}{K:List Own}{H:Heaplet}{R:Value->List Own->Heaplet->Prop}{l:Slots}
 (j:P.funcs[f]? =some fn)(hb:fn.body=some c)(hn:Nat.ble vs.length fn.ntmps=true)(k:Sub l ((List.range' 0 vs.length).zip vs))
 (h:∀w,(∀i∈ids K.flatten,i<w.heap.size)->JC {P:=P,r:=none,n:=fn.ntmps,w0:=w,H0:=H,S:=ids K.flatten,ds:=[]} c
  (RetM {P:=P,r:=none,n:=fn.ntmps,w0:=w,H0:=H,S:=ids K.flatten,ds:=[]} fn R) l K H):Does P f vs.toArray K H R:=λw m g=>by
 have a:∀i∈ids K.flatten,i<w.heap.size:=λi hi=>by
  obtain⟨p,b,rfl⟩:=T7.1 hi;exact g.lt p b
 have hn:=TI hn;refine callsIn_of_wp_marks j hb trivial ?_;refine h w a _ w ⟨?_,rfl,?_,⟨m,g,PO _ _,λp b=>.inl<|Sb b,Rz _,λ_ _ _=>rfl,PF⟩⟩
 . simp;omega
 . intro i v e;obtain⟨_,h2⟩:=ZC8 vs 0 i v<|ZJs k i v e;have hi:i<vs.length:=by
    rcases SZ i vs.length with d|d
    . exact d
    . simp[Tz d]at h2
   have h3:vs[i]=v:=(by simpa[TL hi]using h2);have:i<(vs.toArray++Array.replicate (fn.ntmps-vs.toArray.size) undef).size:=(by simp;omega);simp only[T9 this,Rb];rw[S8<|by simpa using hi];simpa using h3
theorem Qk{α:Type}{R:Rep α}{N:Nat}{E:TypeId}{size:Nat}{v:Value}{ls:List α}{K:Own}{S:List Nat}(h:RowOf HF R N E size v ls K)(a:∀i∈S,i<N):∀p∈K,p.1∉S:=λp b c=>by
 have h1:=h.ge p b;have h2:=a _ c;omega
variable{x:Cx}{ops:Array Oper}{Q:Exit->Act->World->Prop}{rest:List Oper}{l:Slots}{own:List Own}{H HF:Heaplet}
variable{ty:TypeId}{d:Nat}{pos:String}{aft:Array Edge}{v:Value}{p q:Operand}{t u:TypeId}
def SubV (size:Nat)(v v':Value)(lo len:Nat):Prop:=
 (∃ao cap,v'=.slice ao len cap)/\(len=0\/∃b o n cap c,v=.slice (some ⟨b,o,none⟩) n cap/\v'=.slice (some ⟨b,o+lo*size,none⟩) len c/\lo+len<=n)
def LongI (v:Value)(e:Int):Prop:=∃n:Nat,Long v n/\(n:Int)=e
theorem ZND{e:Int}{a:TypeId}(b:x.P.underlying t=some (.slice a))(h1:evo l p=some v)(c:LongI v e):Runs x (.call ⟨.builtin .len,#[p],#[t]⟩) ty l own H (.int .i64 e):=by
 obtain⟨n,h,rfl⟩:=c;exact Zt b h1 h
theorem ElemAt.sub{size lo len:Nat}{v v':Value}{i j:Int}{b o:Nat}(hs:SubV size v v' lo len)(h:ElemAt v size j b o)(g:j=(lo:Int)+i)(hi:0<=i/\i<len):ElemAt v' size i b o:=by
 obtain⟨_,hs⟩:=hs;rcases hs with h0|⟨k,o',n,cap,c,rfl,rfl,d⟩
 . omega
 . obtain⟨h0,m,l,a,e,rfl,f⟩:=h;simp only[Value.slice.injEq,SE,Addr.mk.injEq]at e;obtain⟨⟨rfl,rfl,-⟩,rfl,rfl⟩:=e;refine⟨hi.1,_,len,c,rfl,?_,by omega⟩;have:j.toNat=lo+i.toNat:=(by omega);rw[this,TU];omega
theorem X1{α:Type}{R:Rep α}{B size:Nat}{E:TypeId}{v:Value}{m:List α}{K:Own}{a b:Int}(h:RowOf HF R B E size v m K)(c:0<=a/\a<=b/\b<=m.length):
    ∃ v' cap,(∃ao n,v=.slice ao n cap/\(cap:Int)=cap)/\b<=cap/\(∃ao,v=.slice ao m.length cap/\(cap:Int)<=cap/\v'=sliced ao a.toNat b.toNat (cap:Int).toNat size)/\
      SubV size v v' a.toNat (b.toNat-a.toNat)/\LongI v' (b-a):=by
  obtain⟨cells,⟨h0,h1⟩,j,k⟩:=h;rcases h1 with⟨rfl,h3,rfl⟩|⟨g,cap,cur,rfl,rfl,e3,e4,e5,e6,e7⟩
  . have e:m= []:=TT.1 h3;subst e;have f:a=0:=(by simp at c;omega);have hb:b=0:=(by simp at c;omega);subst f hb;exact⟨_,0,⟨none,0,rfl,rfl⟩,by omega,⟨none,rfl,SA _,rfl⟩,⟨⟨_,_,rfl⟩,.inl rfl⟩,0,⟨_,_,rfl⟩,rfl⟩
  . refine⟨_,cap,⟨_,_,rfl,rfl⟩,by omega,⟨_,rfl,SA _,rfl⟩,⟨⟨_,_,rfl⟩,?_⟩,b.toNat-a.toNat,⟨_,_,rfl⟩,by omega⟩;by_cases i:b.toNat-a.toNat=0
    . exact .inl i
    . refine .inr ⟨g,0,_,cap,cap-a.toNat,rfl,?_,by omega⟩;have d:¬cap=a.toNat:=(by omega);simp only[sliced,T4,TK d,S7,add_lit]
theorem RowOf.pre{α:Type}{R:Rep α}{B size:Nat}{E:TypeId}{v:Value}{m m':List α}{K:Own}{b:Int}(h:RowOf HF R B E size v m K)(e:m'=cut m 0 b)(f:(0:Int)<=0/\0<=b/\b<=m.length):
    ∃v' cap,(∃ao n,v=.slice ao n cap/\(cap:Int)=cap)/\b<=cap/\(∃ao,v=.slice ao m.length cap/\(cap:Int)<=cap/\v'=sliced ao (0:Int).toNat b.toNat (cap:Int).toNat size)/\RowOf HF R B E size v' m' K:=by
  subst e;obtain⟨cells,⟨h0,h1⟩,p,q⟩:=h;rcases h1 with⟨rfl,h3,rfl⟩|⟨g,cap,cur,rfl,rfl,e3,e4,e5,e6,e7⟩
  . have e:m= []:=TT.1 h3;subst e;have hb:b=0:=(by simp at f;omega);subst hb;refine⟨_,0,⟨none,0,rfl,rfl⟩,by omega,⟨none,rfl,SA _,rfl⟩,?_⟩;have:sliced (none:Option Addr) (0:Int).toNat (0:Int).toNat ((0:Nat):Int).toNat size=.slice none 0 0:=(by simp[sliced]);rw[this,show cut ([]:List α) 0 0= [] by simp[cut]];exact RowOf.nil _ _ _ _ _
  . have a:(cut m 0 b).length=b.toNat:=(by simp only[cut,TH,Td];omega);have i:=p.length;have j:∀(k:Nat) (m:List α) (cells:List Value),Flat HF R size cells m->Flat HF R size (cells.take (k*size)) (m.take k):=by
      intro k;induction k with
      |zero=>intro m cells _;simp[Flat]
      | succ k s=>
        intro m cells l;cases m with
        |nil=>simp only[Flat]at l;subst l;simp[Flat]
        | cons y r=>
          obtain⟨cs,c,rfl,o,t,u⟩:=l;refine⟨cs,c.take (k*size),?_,o,t,s r c u⟩;rw[SK,TZ (by rw[o,TU];omega),o];congr 2;rw[TU];omega
    have d:cut m 0 b=m.take b.toNat:=(by simp[cut]);refine⟨_,cap,⟨_,_,rfl,rfl⟩,by omega,⟨_,rfl,SA _,rfl⟩,?_⟩;have x:sliced (some (⟨g,0,none⟩:Addr)) (0:Int).toNat b.toNat (cap:Int).toNat size=.slice (some ⟨g,0,none⟩) b.toNat cap:=by
      simp[sliced]
    rw[x];refine⟨cells.take (b.toNat*size),⟨?_,.inr ⟨g,cap,cur,by rw[a],rfl,e3,by omega,e5,e6,?_⟩⟩,by rw[d];exact j _ _ _ p,λw z=>q w<|SX z⟩
    . rw[TH,a,i,Tr<|TN _<|by omega]
    . rw[a,<-e7,SU,Tr<|TN _<|by omega]
theorem ZOr {α:Type}{R:Rep α}(i:Nat){E:TypeId}{z:Value}{size bytes B lo len:Nat}{v':Value}{I ms':List α}{K:Own}{y:α}(hu:x.P.underlying t=some (.slice E))(he:eInfo x.P E=some (z,size,bytes))(hi:own[i]? =some K)(hS:RowOf HF R B E size v I K)
    (h1:evo l p=some v')(hs:SubV size v v' lo len)(hR:∀H,R H z.cells.toList y)(hR1:R.One)(hm:ms'=clr I lo (lo+len) y)
    (h:∀K',RowOf HF R B E size v ms' K'->ms'.length=I.length->JL x ops Q rest l (own.set i K') H):JL x ops Q (⟨none,.call ⟨.builtin .clear,#[p],#[t]⟩,ty,pos,aft,none⟩::rest) l own H:=λa w u=>by
  obtain⟨c,S,hz,hsz,hby,L,T⟩:=Zn he;subst hsz;have e1:=ZM u h1;simp only[wpLs,ZO,if_true];refine⟨λ_ _=>trivial,?_⟩;obtain⟨⟨ao,q,rfl⟩,hs⟩:=hs;have base:∀w',(Builtin.clear_ #[t] ty #[.slice ao len q]).run x.P w=.ok (.tuple #[]) w'->
      (execOp a.eval ⟨none,.call ⟨.builtin .clear,#[p],#[t]⟩,ty,pos,aft,none⟩).run x.P w=.ok (.value<|.tuple #[]) w':=λw' M=>by
    generalize a.eval=ρ at e1;have e3:Array.map ρ #[p]= #[.slice ao len q]:=(by simp[e1]);simp only[execOp,resolve,e3,Sem.run_bind,Sem.run_pure,Result.andThen,invoke,builtin,M]
  rcases hs with rfl|⟨b,o,n,cap,cap',rfl,e2,hle⟩
  . have M:(Builtin.clear_ #[t] ty #[.slice ao 0 q]).run x.P w=.ok (.tuple #[]) w:=by
      cases ao<;>simp[Builtin.clear_,run_underlying hu,go_sem]
    rw[ZV rfl,base w M];have J:ms'=I:=(by rw[hm];simp[clr]);subst J;have:=h K hS rfl;have e4:own.set i K=own:=by
      apply Tl;intro j;rw[T3];split
      . rename_i hj;subst hj;rw[hi];split
        . rfl
        . rename_i hlt;have:=(TC.1 hi).1;omega
      . rfl
    rw[e4]at this;exact this _ _ ⟨u.size,u.ds,u.slots,u.mem⟩
  . simp only [Value.slice.injEq]at e2;obtain⟨rfl,-,rfl⟩:=e2;obtain⟨cells,⟨h0,h3⟩,hf,ho⟩:=hS;rcases h3 with⟨e,h3,rfl⟩|⟨g,capg,cur,e,rfl,e3,e4,e5,e6,e7⟩
    . simp only[Value.slice.injEq]at e;obtain⟨e,_⟩:=e;cases e
    . simp only [Value.slice.injEq,SE,Addr.mk.injEq]at e;obtain⟨⟨rfl,rfl,-⟩,rfl,rfl⟩:=e;by_cases hz0:len=0
      . subst hz0;have M:(Builtin.clear_ #[t] ty #[.slice (some ⟨b,0+lo*c.size,none⟩) 0 q]).run x.P w=.ok (.tuple #[]) w:=by
          simp[Builtin.clear_,run_underlying hu,go_sem]
        rw[ZV rfl,base w M];have J:ms'=I:=(by rw[hm];simp[clr]);subst J;have:=h [(b,.cells cur E (0,0))] ⟨cells,⟨h0,.inr ⟨b,cap,cur,rfl,rfl,e3,e4,e5,e6,e7⟩⟩,hf,ho⟩ rfl;have e8:own.set i [(b,.cells cur E (0,0))]=own:=by
          apply Tl;intro j;rw[T3];split
          . rename_i hj;subst hj;rw[hi];split
            . rfl
            . rename_i hlt;have:=(TC.1 hi).1;omega
          . rfl
        rw[e8]at this;exact this _ _ ⟨u.size,u.ds,u.slots,u.mem⟩
      . have U:(Builtin.zeroCells z.cells len).toList=(List.replicate len z.cells.toList).flatten:=by
          have:=Yu z.cells len (by rw[L];exact T);rw[<-this];simp[Builtin.zeroCells,madeCells]
        have hone:∀w∈(List.replicate len z.cells.toList).flatten,w.oneCell'=true:=by
          intro w A;obtain⟨s,hs,A⟩:=Sd.1 A;rw[List.eq_of_mem_replicate hs]at A;exact hR1 _ _ _ (hR H) w A
        have F:((List.replicate len z.cells.toList).flatten).length=len*c.size:=(by simp[L]);have V:=(Zm u.mem hi).here (b,.cells cur E (0,0)) (by simp);have hlc:lo*c.size+len*c.size<=cur.size:=by
          rw[<-TU];exact TS (TN _<|by omega) e6
        have N:=run_storeCells_at x.P b (0+lo*c.size) E ((List.replicate len z.cells.toList).flatten) 0 cur w V (by rw[F];omega) hone;simp only[SI]at N;have hzv:(zeroValue E).run x.P w=.ok z w:=QA (show YK x.P E=some z by simp[YK,S,hz]) w;obtain⟨C,hC⟩:∃C,C=(cur.toList.take (0+lo*c.size)++(List.replicate len z.cells.toList).flatten++cur.toList.drop (0+lo*c.size+((List.replicate len z.cells.toList).flatten).length)).toArray:=⟨_,rfl⟩;rw[<-hC]at N;have M:(Builtin.clear_ #[t] ty #[.slice (some ⟨b,0+lo*c.size,none⟩) len q]).run x.P w=.ok (.tuple #[]) (w.setRow b C):=by
          obtain⟨k,rfl⟩:∃k,len=k+1:=⟨len-1,by omega⟩;have G:=N;simp only[Te]at G|-;obtain⟨Z,hZ⟩:∃Z,Z=z.cells:=⟨_,rfl⟩;rw[<-hZ]at U G;simp[Builtin.clear_,run_underlying hu,hzv,<-hZ,U,G,Sem.run_bind,Sem.run_pure,Result.andThen]
        rw[ZV rfl,base _ M];have hap:∀o,H b o=none:=λo=>(Zm u.mem hi).apart (b,.cells cur E (0,0)) (by simp) o;have hm2:=u.mem.go1 hi (by simpa[ids]using Mem.setRow u.mem.agr V hap C);have O:cap*c.size<=cur.toList.length:=(by simpa using e6);have D:∀(k:Nat) (m:List α) (cells:List Value),Flat HF R c.size cells m->Flat HF R c.size (cells.take (k*c.size)) (m.take k)/\Flat HF R c.size (cells.drop (k*c.size)) (m.drop k):=by
          intro k;induction k with
          |zero=>intro m cells W;simpa[Flat]using W
          | succ k ih=>
            intro m cells W;cases m with
            |nil=>simp only[Flat]at W;subst W;simp[Flat]
            | cons y r=>
              obtain⟨cs,d,rfl,X,f2,f3⟩:=W;obtain⟨g1,g2⟩:=ih r d f3;have et:(cs++d).take ((k+1)*c.size)=cs++d.take (k*c.size):=by
                rw[SK,TZ (by rw[X,TU];omega),X];congr 2;rw[TU];omega
              have ed:(cs++d).drop ((k+1)*c.size)=d.drop (k*c.size):=by
                rw[RL,T2 (by rw[X,TU];omega),X,Sy];congr 1;rw[TU];omega
              rw[et,ed];exact⟨⟨cs,d.take (k*c.size),rfl,X,f2,g1⟩,g2⟩
        have Y:Flat HF R c.size (cells.take (lo*c.size)++(List.replicate len z.cells.toList).flatten++cells.drop ((lo+len)*c.size)) ms':=by
          rw[hm];unfold clr;rw[show lo+len-lo=len by omega];exact Flat.append ((D (lo+len) I cells hf).2)<|Flat.append (Xa (hR HF) (by simpa using L) len) (D lo I cells hf).1
        have f:ms'.length=I.length:=(by rw[hm];simp only[clr,TG,TH,SG,Td];omega);have hfl:=hf.length;have J:I.length*c.size<=cap*c.size:=TN _ e4;have hll:(lo+len)*c.size<=I.length*c.size:=TN _ (by omega);have hadd:(lo+len)*c.size=lo*c.size+len*c.size:=TU ..;refine h [(b,.cells C E (0,0))] ⟨_,⟨by rw[Y.length],.inr ⟨b,cap,C,by rw[f],rfl,e3,by rw[f];exact e4,e5,?_,?_⟩⟩,Y,?_⟩ f _ _ ⟨u.size,u.ds,u.slots,hm2⟩
        . rw[hC];simp only[Tm,TG,TH,Td,F,O];omega
        . rw[hC,f];simp only[Te,F];rw[<-e7];rw[SK,SK,SU,SU,Re (by omega),Tr<|by omega];rw[TZ (l:=(List.replicate len z.cells.toList).flatten) (by simp only[TH,F,O];omega)];congr 1;rw[List.take_drop];rw[hadd];congr 2;simp only[TG,TH,F,O];omega
        . intro w A;rcases TR.1 A with A|A
          . rcases TR.1 A with A|A
            . exact ho w<|SX A
            . exact hone w A
          . exact ho w<|RD A
theorem ZKZ (h:∃e,x.P.underlying t=some (.slice e))(h1:evo l p=some (.slice none 0 0)):Runs x (.call ⟨.builtin .cap,#[p],#[t]⟩) ty l own H (.int .i64 0):=by
 obtain⟨e,h⟩:=h;exact λρ w _ _ _ _ a b=>by simp[execOp,resolve,invoke,a _ _ h1,run_underlying h,go_sem,Builtin.cap_,goInt]
theorem ZNC{e:TypeId}{g:Bool}{size:Nat}{lo hi mx:Option Operand}(d:x.P.underlying t=some (.slice e))(hs:ZE x.P e=some (g,size))(h0:evo l p=some (.slice none 0 0))
 (h1:match lo with|none=>True|some o=>∃k,evo l o=some (.int k 0))(h2:match hi with|none=>True|some o=>∃k,evo l o=some (.int k 0))(h:mx=none):
 Runs x (.slice t p lo hi mx) ty l own H (.slice none 0 0):=by
 subst h;have:=R.slc (x:=x) (own:=own) (H:=H) (ty:=ty) (α:=UInt8) (R:=RU8) (m:=[]) (a:=0) (b:=0) (c:=0) (cap:=0) (v':=.slice none 0 0) (lo:=lo) (hi:=hi) (mx:=none) d hs h0
  (by cases lo<;>simp_all) (by cases hi<;>simp_all) ⟨none,0,rfl,rfl⟩ ⟨by omega,by omega,by omega⟩ ⟨none,rfl,by simp,by simp[sliced]⟩ (.inl rfl)
 exact this
theorem ZOA{α:Type}{R:Rep α}{m E:TypeId}{z:Value}{size bytes:Nat}{kn:IntKind}{n:Int}{y:α}{S:List α}(T:x.P.underlying t=some (.slice E))(s:x.P.underlying m=some (.int kn))(V:eInfo x.P E=some (z,size,bytes))(h1:evo l p=some (.slice none 0 0))(h2:evo l q=some (.int .i64 n))
 (W:∀H,R H z.cells.toList y)(u:R.One)(A:S=List.replicate n.toNat y)(hn:0<=n/\n.toNat<=LIM)(hb:Nat.ble bytes 128=true)(U:Nat.blt d x.n=true)
 (h:∀v' K',RowOf HF R x.w0.heap.size E size v' S K'->JL x ops Q rest ((d,v')::l) (K'::own) H):JL x ops Q (⟨some d,.call ⟨.builtin .append,#[p,q],#[t,m]⟩,ty,pos,aft,none⟩::rest) l own H:=λa w c=>by
 subst A;obtain⟨N,rfl⟩:=SQ hn.1;have B:N<=LIM:=by simpa using hn.2
 simp only[T4]at h;obtain⟨i,hi,X,D,F,k,j⟩:=Zn V;subst D;subst F
 have e1:=ZM c h1;have e2:=ZM c h2;simp only[wpLs,ZO,if_true];refine⟨λ_ _=>trivial,?_⟩;have base:∀v' G,(Builtin.append_ #[t,m] ty #[.slice none 0 0,.int .i64 (N:Int)]).run x.P w=.ok v' G->
  (execOp a.eval ⟨some d,.call ⟨.builtin .append,#[p,q],#[t,m]⟩,ty,pos,aft,none⟩).run x.P w=.ok (.value v') G:=λv' G r=>by
  generalize a.eval=ρ at e1 e2;have e3:Array.map ρ #[p,q]= #[.slice none 0 0,.int .i64 (N:Int)]:=by simp[e1,e2]
  simp only[execOp,resolve,e3,Sem.run_bind,Sem.run_pure,Result.andThen,invoke,builtin,r]
 by_cases h0:N=0
 . subst h0;have r:(Builtin.append_ #[t,m] ty #[.slice none 0 0,.int .i64 ((0:Nat):Int)]).run x.P w=.ok (.slice none 0 0) w:=by
    have I:IntKind.i64.wrap 0=0:=(by decide);simp[Builtin.append_,run_underlying T,run_underlying s,sizeOf,typeInfo,hi,asInt,asIntOf,I,go_sem]
   rw[ZV rfl,base _ _ r];exact h _ [] (RowOf.nil _ _ _ _ _) _ _<|Holds.put (x:=x) (l:=l) ⟨c.size,c.ds,c.slots,by simpa using c.mem⟩ U _
 . have J:=XY B hb;have r:=Lib.run_append_grow_zeros (P:=x.P) w t m ty E i z .i64 kn T s hi X none 0 0 [] (by simp[Builtin.firstCells,go_sem]) N (by omega) j (by omega) (by unfold LIM at B;omega) (by omega) (growslice_fits (by omega) (by rw[Te];exact J));simp only[Te]at r;rw[ZV rfl,base _ _<|by simpa using r];obtain⟨C,K⟩:∃C,C=Builtin.zeroCells z.cells N++Builtin.zeroCells z.cells (grownCap w N 0 E-N):=⟨_,rfl⟩;have L:(Builtin.zeroCells z.cells N).toList=(List.replicate N z.cells.toList).flatten:=by
    have:=Yu z.cells N (by rw[k];exact j);rw[<-this];simp[Builtin.zeroCells,madeCells]
   have g:=Xa (R:=R) (H:=HF) (size:=i.size) (W HF) (by simpa using k) N;have M:=grownCap_ge w N 0 E;refine h _ [(w.heap.size,.cells C E (0,0))] ⟨(List.replicate N z.cells.toList).flatten,⟨by rw[g.length],.inr ⟨w.heap.size,_,C,by simp,rfl,c.mem.kept.size,by simpa using M,grownCap_le_maxLen w N 0 E<|QO B,?_,?_⟩⟩,g,g.one' u⟩ _ _<|Holds.put (x:=x) (l:=l) ?_ U _
   . rw[K];simp only[RX,size_zeroCells,k,<-TU];refine TN _ ?_;omega
   . rw[K,SG,S4,L];exact List.take_left' (by rw[g.length];simp)
   . have f:=Mem.alloc (w:=w.drew) (H:=H) (λb o v e=>c.mem.agr b o v e) (.cells C E (0,0));have O:Mem w H [] [(w.heap.size,.cells C E (0,0))] H (w.drew.alloc<|.cells C E (0,0)):=⟨f.agr,f.ok,⟨f.kept.os,f.kept.tape,f.kept.output,f.kept.size,TS (RJ _) f.kept.drawn,f.kept.block⟩,f.fresh,f.le,f.grow,f.soft⟩;refine⟨c.size,c.ds,c.slots,?_⟩;have:=c.mem.go0 (K':=[[(w.heap.size,.cells C E (0,0))]]) (by simpa using O);rw[K]at this|-;simpa using this
variable{x:Cx}{ops:Array Oper}{Q:Exit->Act->World->Prop}{rest:List Oper}{l:Slots}{own:List Own}{H HF:Heaplet}
variable{ty:TypeId}{d:Nat}{pos:String}{aft:Array Edge}{v:Value}{p q:Operand}{t u:TypeId}
theorem R.ixA{T e len:Nat}{g:Bool}{n b o:Nat}{a:IntKind}(k:Nat)(c:x.P.underlying T=some (.array len e))(hs:ZE x.P e=some (g,n))(h1:evo l p=some (.pointer<|some ⟨b,o,none⟩))(h2:evo l q=some (.int a (k:Int)))(d:Nat.blt k len=true):
 Runs x (.indexAddr T p q) ty l own H (.pointer<|some ⟨b,o+k*n,none⟩):=by
 have f:k<len:=by simpa using d
 refine λρ w _ _ _ _ h i=> ?_;simp only[execOp,h _ _ h1,h _ _ h2];refine YQ ?_;have h0:(0:Int)<=(k:Int)/\(k:Int)<(len:Int):=⟨by omega,by omega⟩;simp only[Instr.indexAt,asIntOf,Instr.sureAddr,Sem.run_bind,Sem.run_pure,Result.andThen,run_underlying c,TJ h0,run_sizeOf hs,T4,add_lit]
theorem ZR5{T e len n:Nat}{a:IntKind}(k:Nat){cs:Array Value}(b:x.P.underlying T=some (.array len e))(hs:ZE x.P e=some (false,n))(hn:n=1)(h1:evo l p=some (.agg cs))(h2:evo l q=some (.int a (k:Int)))
 (c:Nat.blt k len=true)(d:cs[k]? =some v):Runs x (.index T p q) ty l own H v:=by
 have f:k<len:=by simpa using c
 subst hn;refine λρ w _ _ _ _ h g=> ?_;simp only[execOp,h _ _ h1,h _ _ h2];refine YQ ?_;have h0:(0:Int)<=(k:Int)/\(k:Int)<(len:Int):=⟨by omega,by omega⟩;simp only[Instr.index,asIntOf,Sem.run_bind,Sem.run_pure,Result.andThen,run_underlying b,TJ h0,run_sizeOf hs,SY,T4,part,GF hs,Rf,if_false,d]
def ZJf (P:Program)(T n:Nat):Option (List (Nat×Nat)):=match P.underlying T with
 |some (.array _ e)=>(ZE P e).map (λs=>(List.range n).map λi=>(i*s.2,s.2))
 |_=>none
theorem ZHa{f g:Nat->Option (Nat×Nat)}:∀{vs:List (Nat×Value)} {cells:Array Value},(∀p∈vs,f p.1=g p.1)->Instr.fill f cells vs=Instr.fill g cells vs
  |[],_,_=>rfl
  | (i,v)::r,cells,h=>by
    have h0:f i=g i:=h (i,v) (by simp);simp only[Instr.fill,h0];cases b:g i with
    |none=>rfl
    | some s=>
      obtain⟨off,size⟩:=s;simp only[];split
      . rfl
      . exact ZHa λp a=>h p<|by simp[a]
theorem IsSlice.cutv3{α:Type}{R:Rep α}{size:Nat}{v:Value}{m m':List α}{a b c:Int}{HF:Heaplet}(h:IsSlice HF R size v m)(e:m'=cut m a b)(f:0<=a/\a<=b/\b<=c/\c<=m.length):
 ∃v' cap,(∃ao,v=.slice ao m.length cap/\c<=cap/\v'=sliced ao a.toNat b.toNat c.toNat size)/\IsSlice HF R size v' m'/\∃d,v'=.slice d m'.length (c.toNat-a.toNat):=by
 subst e;obtain⟨ao,cap,rfl,e1,r⟩:=h;have hs:=IsSlice.sub (ao:=ao) (n:=m.length) (cap:=cap) ⟨ao,cap,rfl,e1,r⟩ a.toNat b.toNat c.toNat (by omega) (by omega) (by omega) (by omega);refine⟨_,cap,⟨ao,rfl,by omega,rfl⟩,by simpa[cut]using hs,?_⟩;have g:(cut m a b).length=b.toNat-a.toNat:=by have:=Vn (l:=m) (a:=a) (b:=b) (by omega) (by omega) (by omega);omega
 unfold sliced;exact⟨_,by rw[g]⟩
theorem PZ{α:Type}{R:Rep α}{size:Nat}{v:Value}{m m':List α}{a b:Int}{HF:Heaplet}(h:IsSlice HF R size v m)(g:m'=cut m a b)(d:0<=a/\a<=b/\b<=m.length):
 ∃v' cap f,(∃ao,v=.slice ao m.length cap/\b<=cap/\v'=sliced ao a.toNat b.toNat b.toNat size)/\v'=.slice f m'.length m'.length/\IsSlice HF R size v' m':=by
 obtain⟨v',cap,⟨ao,e,i,j⟩,hs,f,e2⟩:=h.cutv3 (c:=b) g ⟨d.1,d.2.1,SA _,d.2.2⟩;refine⟨v',cap,f,⟨ao,e,i,j⟩,?_,hs⟩;have k:m'.length=b.toNat-a.toNat:=by subst g;have:=Vn (l:=m) (a:=a) (b:=b) (by omega) (by omega) (by omega);omega
 rw[e2,k]
theorem ZH1{m n:Int}{ts:Array TypeId}(h1:evo l p=some (.int .i64 m))(h2:evo l q=some (.int .i64 n)):Runs x (.call ⟨.builtin .min,#[p,q],ts⟩) ty l own H (.int .i64<|min m n):=λρ w _ _ _ _ h a=>by
 have e3:Array.map ρ #[p,q]= #[.int .i64 m,.int .i64 n]:=by simp[h _ _ h1,h _ _ h2]
 have e:(if n<m then n else m)=min m n:=by omega
 simp only[execOp,resolve,e3,Sem.run_bind,Sem.run_pure,Result.andThen,invoke,builtin,Builtin.min_,List.foldlM_cons,List.foldlM_nil,Builtin.min2,e]
theorem ZTW{m n:Int}{ts:Array TypeId}(h1:evo l p=some (.int .i64 m))(h2:evo l q=some (.int .i64 n)):Runs x (.call ⟨.builtin .max,#[p,q],ts⟩) ty l own H (.int .i64<|max m n):=λρ w _ _ _ _ h b=>by
 have e3:Array.map ρ #[p,q]= #[.int .i64 m,.int .i64 n]:=by simp[h _ _ h1,h _ _ h2]
 have e:(if n>m then n else m)=max m n:=by omega
 have a:(if m<n then n else m)=max m n:=by omega
 simp only[execOp,resolve,e3,Sem.run_bind,Sem.run_pure,Result.andThen,invoke,builtin,Builtin.max_,List.foldlM_cons,List.foldlM_nil,Builtin.max2]
 first|rw[a]|rw[e]
theorem Pr{α:Type}{R:Rep α}{H0 H2:Heaplet}{B:Nat}{K:Own}{E:TypeId}{size:Nat}{v:Value}{ls:List α}(i:Nat)(a:Lent own H2)(b:R.Mono)(h:Hle H0 H2)(hi:own[i]? =some K)(c:RowOf H0 R B E size v ls K):IsSlice H2 R size v ls:=
 Lent.row a b h hi c
theorem ZFV{P:Program}{w:World}{H:Heaplet}{t k ty E:TypeId}{z:Value}{size bytes:Nat}(F:P.underlying t=some (.slice E))(G:eInfo P E=some (z,size,bytes))
 {n m:Nat}{base:Option Addr}{y:Value}{cells a:List Value}(I:Agrees H w)(h0:cells.length=n*size)(f:(Builtin.firstCells size n<|.slice base n n).run P w.drew=.ok cells.toArray w.drew)(hs:Src P size k y m a w)(L:0<m)
 (g:n+m<=maxLen)(hb:(n+m)*bytes<=140737488355328){B:Nat}(J:B<=w.heap.size):
 ∃v' K' x,(Builtin.append_ #[t,k] ty #[.slice base n n,y]).run P w=.ok v' x/\Row B E size v' (cells++a) (n+m) K'/\Mem w H [] K' H x:=by
 obtain⟨i,hi,K,l,p,q,A⟩:=Zn G;subst l;subst p
 have c:(cells++a).length=(n+m)*i.size:=by rw[TG,h0,hs.newsLen,TU]
 have D:n<n+m:=by omega
 have j:n+m<=9223372036854775807:=by simp only[maxLen]at g;omega
 have d:=run_append_grow_src (P:=P) w t k ty E i z F hi K base n n cells f y m a hs D (by omega) (growslice_fits D hb);have r:=grownCap_ge w (n+m) n E;have s:grownCap w (n+m) n E<=maxLen:=grownCap_le_maxLen w (n+m) n E g;obtain⟨C,u⟩:∃C,C=(cells++a).toArray++Builtin.zeroCells z.cells (grownCap w (n+m) n E-(n+m)):=⟨_,rfl⟩;rw[<-u]at d;refine⟨_,[(w.heap.size,.cells C E (0,0))],_,d,⟨c,.inr ⟨w.heap.size,_,C,rfl,rfl,J,r,s,?_,?_⟩⟩,?_⟩
 . rw[u];simp only[RX,Tm,size_zeroCells,q,c,<-TU];refine TN _ ?_;omega
 . rw[u];simp only[S4,TE,Tf];rw[<-TE,<-c];exact T6
 . have h:=Mem.alloc (w:=w.drew) (H:=H) (λb o v e=>I b o v e) (.cells C E (0,0));exact⟨h.agr,h.ok,⟨h.kept.os,h.kept.tape,h.kept.output,h.kept.size,TS (RJ _) h.kept.drawn,h.kept.block⟩,h.fresh,h.le,h.grow,h.soft⟩
theorem ZSL{α:Type}{R:Rep α}{k E:TypeId}{z y:Value}{size bytes n:Nat}{ao:Option Addr}{ls m S:List α}{H1:Heaplet}(F:x.P.underlying t=some (.slice E))(V:eInfo x.P E=some (z,size,bytes))
 (h1:evo l p=some (.slice ao n n))(G:R.One)(I:Hle H1 H)(hs:IsSlice H1 R size (.slice ao n n) ls)(W:∀cs y,R H1 cs y->R HF cs y)(h2:evo l q=some y)(s:SrcF x H HF own R size k y m)
 (X:m≠[])(J:S=ls++m)(T:ls.length+m.length<=LIM)(hb:Nat.ble bytes 128=true)(Y:Nat.blt d x.n=true)
 (h:∀v' K',RowOf HF R x.w0.heap.size E size v' S K'->JL x ops Q rest ((d,v')::l) (K'::own) H):
 JL x ops Q (⟨some d,.call ⟨.builtin .append,#[p,q],#[t,k]⟩,ty,pos,aft,none⟩::rest) l own H:=λa w c=>by
 subst J;simp only[wpLs,ZO,if_true];refine⟨λ_ _=>trivial,?_⟩;obtain⟨cells,v,Z,U,ev,K⟩:=hs.cells;simp only[Value.slice.injEq]at ev;obtain⟨rfl,rfl,-⟩:=ev;obtain⟨A,L,f,M⟩:=s;have e:cells.length=ls.length*size:=v.length;have B:(Builtin.firstCells size ls.length<|.slice ao ls.length ls.length).run x.P w.drew=.ok cells.toArray w.drew:=by
  rcases K with rfl|⟨b,o,rfl,K⟩
  . simp only[Flat]at v;subst v;cases ao with
    |none=>simp[Builtin.firstCells,go_sem]
    |some a=>exact run_firstCells_some (P:=x.P) w.drew size 0 a 0 0 [] (by simp) λj u h=>by simp at h
  . exact run_firstCells_some (P:=x.P) w.drew size ls.length ⟨b,o,none⟩ ls.length ls.length cells e (λj u h=>by
     rw[add_lit];exact c.mem.agr _ _ _<|I _ _ _<|K j u h)
 have N:0<m.length:=List.length_pos_iff.2 X;obtain⟨v',K',w',C,g,D⟩:=ZFV (ty:=ty) F V c.mem.agr e B (M w c.mem) N (QO T) (XY T hb) c.mem.kept.size;have i:(execOp a.eval ⟨some d,.call ⟨.builtin .append,#[p,q],#[t,k]⟩,ty,pos,aft,none⟩).run x.P w=.ok (.value v') w':=by
  have e1:=ZM c h1;have e2:=ZM c h2;have:(execOp a.eval ⟨some d,.call ⟨.builtin .append,#[p,q],#[t,k]⟩,ty,pos,aft,none⟩).run x.P w=((Builtin.append_ #[t,k] ty #[.slice ao ls.length ls.length,y]).run x.P w).andThen (λr O=>.ok (.value r) O):=by
   generalize a.eval=ρ at e1 e2;have e3:Array.map ρ #[p,q]= #[.slice ao ls.length ls.length,y]:=(by simp[e1,e2]);simp only[execOp,resolve,e3,Sem.run_bind,Sem.run_pure,Result.andThen,invoke,builtin]
  rw[this,C];rfl
 rw[ZV rfl,i];refine h v' K' ⟨cells++A,by simpa using g,Flat.append L<|v.conv W,λu F=>(TR.1 F).elim (v.one' G u) (f u)⟩ _ _<|Holds.put (x:=x) (l:=l) ⟨c.size,c.ds,c.slots,?_⟩ Y v';simpa using c.mem.go0 (K':=[K']) (by simpa using D)
theorem ZL8{P:Program}{w:World}{H:Heaplet}{t L ty E:TypeId}{kn:IntKind}{z:Value}{size bytes:Nat}(m:P.underlying t=some (.slice E))(q:P.underlying L=some (.int kn))(he:eInfo P E=some (z,size,bytes))
 {B n N:Nat}{v:Value}{cells:List Value}{K:Own}(ha:Agrees H w)(hk:OwnOk H K w)(hr:Row B E size v cells n K)(hone:YS z.cells.toList)
 (Y:n+N<=LIM)(hbb:Nat.ble bytes 128=true)(hB:B<=w.heap.size):
 ∃v' K' x,(Builtin.append_ #[t,L] ty #[v,.int .i64 (N:Int)]).run P w=.ok v' x/\Row B E size v' (cells++(List.replicate N z.cells.toList).flatten) (n+N) K'/\Mem w H (ids K) K' H x:=by
 obtain⟨i,hi,hz,hsz,hby,F,A⟩:=Zn he;subst hsz;subst hby
 obtain⟨h0,h1⟩:=hr;have M:((List.replicate N z.cells.toList).flatten).length=N*i.size:=by simp[F]
 have d:(cells++(List.replicate N z.cells.toList).flatten).length=(n+N)*i.size:=by rw[TG,h0,M,TU]
 have hw:IntKind.i64.wrap (N:Int)=N:=ZPC (by omega) (by unfold LIM at Y;omega);have O:¬((N:Int)<0):=by omega
 have Q:=XY Y hbb;have hlb2:N*i.bytes<=140737488355328:=TS (TN _<|by omega) Q;have R:¬(281474976710656<(N:Int)*(i.bytes:Int)):=by rw[<-S6];omega
 by_cases S:N=0
 . subst S;have T:IntKind.i64.wrap 0=0:=(by decide);refine⟨v,K,w,?_,⟨by simpa using d,by simpa using h1⟩,Mem.same ha hk⟩;rcases h1 with⟨rfl,rfl,rfl⟩|⟨g,cap,cur,rfl,rfl,e3,e4,e5,e6,e7⟩
   . simp[Builtin.append_,run_underlying m,run_underlying q,sizeOf,typeInfo,hi,asInt,asIntOf,T,go_sem]
   . have y:(storeCells ((⟨g,0,none⟩:Addr).add (n*i.size)) []).run P w=.ok () w:=rfl;simp[Builtin.append_,run_underlying m,run_underlying q,sizeOf,typeInfo,hi,asInt,asIntOf,T,e4,y,go_sem]
 . have U:(Builtin.zeroCells z.cells N).toList=(List.replicate N z.cells.toList).flatten:=by
    have:=Yu z.cells N (by rw[F];exact A);rw[<-this];simp[Builtin.zeroCells,madeCells]
   have hns:¬(N*i.size=0):=Nat.mul_ne_zero S (by omega);have l:∀(base:Option Addr) (a:Nat),(Builtin.firstCells i.size n<|.slice base n a).run P w.drew=.ok cells.toArray w.drew->a<n+N->
    ∃v' K' x,(Builtin.append_ #[t,L] ty #[.slice base n a,.int .i64 (N:Int)]).run P w=.ok v' x/\Row B E i.size v' (cells++(List.replicate N z.cells.toList).flatten) (n+N) K'/\Mem w H [] K' H x:=by
    intro base a V J;have c:=Lib.run_append_grow_zeros (P:=P) w t L ty E i z .i64 kn m q hi hz base n a cells V N (by omega) A J (by unfold LIM at Y;omega) (by omega) (growslice_fits J Q);have hge:=grownCap_ge w (n+N) a E;have hcm:grownCap w (n+N) a E<=maxLen:=grownCap_le_maxLen w (n+N) a E<|QO Y;obtain⟨C,G⟩:∃C,C=cells.toArray++Builtin.zeroCells z.cells N++Builtin.zeroCells z.cells (grownCap w (n+N) a E-(n+N)):=⟨_,rfl⟩;rw[<-G]at c;refine⟨_,[(w.heap.size,.cells C E (0,0))],_,c,⟨d,.inr ⟨w.heap.size,_,C,rfl,rfl,hB,hge,hcm,?_,?_⟩⟩,?_⟩
    . rw[G];simp only[RX,Tm,size_zeroCells,F,h0,<-TU];refine TN _ ?_;omega
    . rw[G];simp only[S4,TE,Tf,U];rw[<-TE,<-d];exact T6
    . have h:=Mem.alloc (w:=w.drew) (H:=H) (λb o v e=>ha b o v e) (.cells C E (0,0));exact⟨h.agr,h.ok,⟨h.kept.os,h.kept.tape,h.kept.output,h.kept.size,TS (RJ _) h.kept.drawn,h.kept.block⟩,h.fresh,h.le,h.grow,h.soft⟩
   rcases h1 with⟨rfl,rfl,rfl⟩|⟨g,cap,cur,rfl,rfl,e3,e4,e5,e6,e7⟩
   . have hc:cells= []:=TT.1 (by rw[h0];simp);subst hc;obtain⟨v',K',x,r1,r2,r⟩:=l none 0 (by simp[Builtin.firstCells,go_sem]) (by omega);exact⟨v',K',x,r1,r2,by simpa[ids]using r⟩
   . have J:=hk.here (g,.cells cur E (0,0)) (by simp);have hgd:∀j u,cells[j]? =some u->w.cell? ((⟨g,0,none⟩:Addr).add j)=some u:=λj u Z=>by
      rw[add_lit,Te,cell_of_row w g j cur E (0,0) J];rw[<-e7,TX]at Z;split at Z
      . simpa using Z
      . cases Z
     by_cases f:n+N<=cap
     . have W:n*i.size+((List.replicate N z.cells.toList).flatten).length<=cur.size:=by
        rw[M,<-TU];exact TS (TN _ f) e6
       have I:∀u∈(List.replicate N z.cells.toList).flatten,u.oneCell'=true:=λu m=>by
        obtain⟨s,hs,m⟩:=Sd.1 m;rw[(List.mem_replicate.1 hs).2]at m;exact hone u m
       have y:=run_storeCells_at P g (n*i.size) E (List.replicate N z.cells.toList).flatten 0 cur w J (by simpa using W) I;simp only[SI]at y;have D:(storeCells (⟨g,n*i.size,none⟩:Addr) (Builtin.zeroCells z.cells N).toList).run P w=.ok () (w.setRow g (cur.toList.take (n*i.size)++(List.replicate N z.cells.toList).flatten++cur.toList.drop (n*i.size+((List.replicate N z.cells.toList).flatten).length)).toArray):=by
        rw[U];exact y
       obtain⟨W2,X⟩:∃W2,W2=w.setRow g (cur.toList.take (n*i.size)++(List.replicate N z.cells.toList).flatten++cur.toList.drop (n*i.size+((List.replicate N z.cells.toList).flatten).length)).toArray:=⟨_,rfl⟩;rw[<-X]at D;have c:(Builtin.append_ #[t,L] ty #[.slice (some ⟨g,0,none⟩) n cap,.int .i64 (N:Int)]).run P w=.ok (.slice (some ⟨g,0,none⟩) (n+N) cap) W2:=by
        simp[Builtin.append_,run_underlying m,run_underlying q,sizeOf,typeInfo,zeroValue,hi,hz,asInt,asIntOf,hw,O,R,f,hns,go_sem];show((storeCells (⟨g,n*i.size,none⟩:Addr) (Builtin.zeroCells z.cells N).toList).run P w).andThen _=_;rw[D];rfl
       rw[X]at c;obtain⟨C,G⟩:∃C,C=(cur.toList.take (n*i.size)++(List.replicate N z.cells.toList).flatten++cur.toList.drop (n*i.size+((List.replicate N z.cells.toList).flatten).length)).toArray:=⟨_,rfl⟩;rw[<-G]at c;refine⟨_,[(g,.cells C E (0,0))],_,c,⟨d,.inr ⟨g,cap,C,rfl,rfl,e3,f,e5,?_,?_⟩⟩,by simpa[ids]using Mem.setRow ha J (λo=>hk.apart (g,.cells cur E (0,0)) (by simp) o) _⟩
       . rw[G];simp only[Tm,TG,TH,Td,TM];omega
       . rw[G,e7,<-d];exact T6
     . have hf:=run_firstCells_some (P:=P) w.drew i.size n ⟨g,0,none⟩ n cap cells h0 (by simpa using hgd);obtain⟨v',K',x,r1,r2,r⟩:=l (some ⟨g,0,none⟩) cap hf (by omega);refine⟨v',K',x,r1,r2,⟨r.agr,r.ok,⟨r.kept.os,r.kept.tape,r.kept.output,r.kept.size,r.kept.drawn,λk hk' _=>r.kept.block k hk'<|by simp⟩,λp hp=>.inr ((r.fresh p hp).resolve_left<|by simp),r.le,λb o hb=>r.grow b o ⟨hb.1,by simp⟩,r.soft⟩⟩
theorem ZML{α:Type}{R:Rep α}(i:Nat){g E:TypeId}{z:Value}{size bytes B:Nat}{kn:IntKind}{n:Int}{y:α}{ls I s:List α}{K:Own}(A:x.P.underlying t=some (.slice E))(C:x.P.underlying g=some (.int kn))(J:eInfo x.P E=some (z,size,bytes))
 (h1:evo l p=some v)(hi:own[i]? =some K)(S:RowOf HF R B E size v ls K)(h2:evo l q=some (.int .i64 n))(L:∀H,R H z.cells.toList y)(j:R.One)(c:s=List.replicate n.toNat y)(hn:0<=n/\n.toNat<=LIM)
 (D:I=ls++s)(M:ls.length+s.length<=LIM)(hb:Nat.ble bytes 128=true)(T:B<=x.w0.heap.size)(U:Nat.blt d x.n=true)
 (h:∀v' K',RowOf HF R B E size v' I K'->JL x ops Q rest ((d,v')::l) (own.set i K') H):
 JL x ops Q (⟨some d,.call ⟨.builtin .append,#[p,q],#[t,g]⟩,ty,pos,aft,none⟩::rest) l own H:=λa w b=>by
 subst D;subst c;obtain⟨N,rfl⟩:=SQ hn.1;simp only[T4,SG]at h M;simp only[wpLs,ZO,if_true];refine⟨λ_ _=>trivial,?_⟩;obtain⟨cells,k,V,hone⟩:=S;obtain⟨v',K',W,m,e,X⟩:=ZL8 (ty:=ty) A C J b.mem.agr (Zm b.mem hi) k (j _ _ _<|L HF) M hb (TS T b.mem.kept.size);have f:(execOp a.eval ⟨some d,.call ⟨.builtin .append,#[p,q],#[t,g]⟩,ty,pos,aft,none⟩).run x.P w=.ok (.value v') W:=by
  have e1:=ZM b h1;have e2:=ZM b h2;have:(execOp a.eval ⟨some d,.call ⟨.builtin .append,#[p,q],#[t,g]⟩,ty,pos,aft,none⟩).run x.P w=((Builtin.append_ #[t,g] ty #[v,.int .i64 (N:Int)]).run x.P w).andThen (λr F=>.ok (.value r) F):=by
   generalize a.eval=ρ at e1 e2;have e3:Array.map ρ #[p,q]= #[v,.int .i64 (N:Int)]:=(by simp[e1,e2]);simp only[execOp,resolve,e3,Sem.run_bind,Sem.run_pure,Result.andThen,invoke,builtin]
  rw[this,m];rfl
 rw[ZV rfl,f];have G:z.cells.toList.length=size:=by
  obtain⟨i,hi,hz,Y,Z,c,O⟩:=Zn J;simpa using c
 have o:=Xa (R:=R) (H:=HF) (size:=size) (L HF) G N;exact h v' K' ⟨cells++(List.replicate N z.cells.toList).flatten,by simpa using e,Flat.append o V,λu A=>(TR.1 A).elim (hone u) (o.one' j u)⟩ _ _
 <|Holds.put (x:=x) (l:=l) ⟨b.size,b.ds,b.slots,b.mem.go1 hi X⟩ U v'
def putP (l:List Value)(o:Nat)(cs:List Value):List Value:=l.take o++cs++l.drop (o+cs.length)
def setP (a:List (Nat×Nat)):List Value->List (Nat×Value)->List Value
 |l,[]=>l
 |l,(i,v)::r=>setP a (match a[i]? with|some p=>putP l p.1 v.cells.toList|none=>l) r
def fitsP (a:List (Nat×Nat))(n:Nat)(p:Nat×Value):Bool:=match a[p.1]? with|some q=>Nat.beq q.2 p.2.cells.toList.length&&Nat.ble (q.1+p.2.cells.toList.length) n|none=>false
theorem ZLg (off:Nat):∀(cs:List Value) (k:Nat) (a:Array Value),off+k+cs.length<=a.size->
    (cs.zipIdx k).foldl (λa p=>a.setIfInBounds (off+p.2) p.1) a=(putP a.toList (off+k) cs).toArray
  |[],k,a,_=>by simp[putP]
  | c ::cs,k,a,h=>by
    simp only[Ts]at h;rw[List.zipIdx_cons,RH,ZLg off cs (k+1) _ (by simp;omega)];apply Sr.1;have b:off+k<a.toList.length:=(by simp;omega);simp only[putP,Array.toList_setIfInBounds,Tf,Ts];rw[RI,TJ b];have d:(a.toList.take (off+k)).length=off+k:=(by rw[TH];omega);rw[show off+(k+1)=(off+k)+1 by omega];have e1:(a.toList.take (off+k)++c::a.toList.drop (off+k+1)).take (off+k+1)=a.toList.take (off+k)++ [c]:=by
      rw[SK,d,TZ<|by omega];simp
    have e2:(a.toList.take (off+k)++c::a.toList.drop (off+k+1)).drop (off+k+1+cs.length)=a.toList.drop (off+k+(cs.length+1)):=by
      rw[RL,d,T2 (by omega),Sy,show off+k+1+cs.length-(off+k)=cs.length+1 by omega,List.drop_succ_cons,S2];congr 1;omega
    rw[e1,e2];simp
theorem ZEp{l:List Value}{o:Nat}{cs:List Value}(h:o+cs.length<=l.length):(putP l o cs).length=l.length:=by
 simp only[putP,TG,TH,Td];omega
theorem ZEQ (p:List (Nat×Nat)):∀(vs:List (Nat×Value)) (cells:Array Value),vs.all (fitsP p cells.size)=true->Instr.fill (p.toArray[·]?) cells vs=some (setP p cells.toList vs).toArray
  |[],cells,_=>by simp[Instr.fill,setP]
  | (i,v)::r,cells,h=>by
    simp only[RY,TD,fitsP]at h;obtain⟨h1,h3⟩:=h;cases a:p[i]? with
    |none=>rw[a]at h1;cases h1
    | some q=>
      obtain⟨off,size⟩:=q;rw[a]at h1;simp only[TD]at h1;have e1:size=v.cells.toList.length:=TA h1.1;have e2:off+v.cells.toList.length<=cells.size:=TI h1.2;have e3:¬(v.cells.size≠size\/off+v.cells.size>cells.size):=(by simp only[TM]at e1 e2;omega);have e4:v.cells.zipIdx.foldl (λcs (x:Value×Nat)=>cs.setIfInBounds (off+x.2) x.1) cells=(putP cells.toList off v.cells.toList).toArray:=by
        rw[<-Array.foldl_toList,Array.toList_zipIdx];exact ZLg off v.cells.toList 0 cells<|by simpa using e2
      have b:(putP cells.toList off v.cells.toList).toArray.size=cells.size:=by
        rw[Tm,ZEp<|by simpa using e2];simp
      have e:=ZEQ p r (putP cells.toList off v.cells.toList).toArray (by rw[b];exact h3);have d:p.toArray[i]? =some (off,size):=(by simpa using a);simp only[Instr.fill,d,setP,a];simp only[SL,Bool.or_eq_true,ne_eq,gt_iff_lt]at e3|-;rw[TK<|by simpa using e3];rw[show(v.cells.zipIdx.foldl (λcs x=>match x with|(c,j)=>cs.setIfInBounds (off+j) c) cells)=(putP cells.toList off v.cells.toList).toArray from e4];exact e
theorem ZKa{T:TypeId}{b:Array (Nat×Operand)}{vs:List (Nat×Value)}{z:Value}{a:List (Nat×Nat)}{cs:List Value}(h:YK x.P T=some z)(c:QW x.P T=some a)
 (d:b.toList.mapM (λp=>(evo l p.2).map λu=>(p.1,u))=some vs)(e:vs.all (fitsP a z.cells.toList.length)=true)(f:setP a z.cells.toList vs=cs):Runs x (.build T b) ty l own H (.agg cs.toArray):=by
 subst f;exact R.bld h c d<|ZEQ a vs z.cells<|by simpa using e
def OSl{α:Type}(H:Heaplet)(R:Rep α)(size:Nat)(v:Value):Option (List α)->Prop
 |none=>v=.slice none 0 0
 |some m=>IsSlice H R size v m
theorem OSl.mono{α:Type}{R:Rep α}(c:R.Mono){size:Nat}{v:Value}{y:Option (List α)}{b:Heaplet}(h:OSl H R size v y)(a:Hle H b):OSl b R size v y:=by
 cases y with
 |none=>exact h
 |some m=>exact IsSlice.mono c a h
def R_WriteO:Rep WriteO:=λH cs y=>∃v:Value,cs= [.int .i64 y.At,v]/\OSl H RU8 1 v y.Data
theorem R_WriteO.mono:R_WriteO.Mono:=λ_ _ _ _ a ⟨v,e,h⟩=>⟨v,e,OSl.mono RU8.mono h a⟩
theorem Gh{c:Operand}{as:Array Operand}{ts:Array TypeId}{f:FuncId}{vs:List Value}{R:Heaplet->Value->List Own->Heaplet->Prop}
 (t:Enters x.P f)(y:evo l c=some (.func (.func f) #[] #[]))(z:as.toList.mapM (evo l)=some vs)
 (C:∀H2,Hle H H2->Lent own H2->Does x.P f vs.toArray [] H2 (R H2))(A:Nat.blt d x.n=true)
 (h:∀H2 v K' s,R H2 v K' s->(∀p∈K'.flatten,x.w0.heap.size<=p.1)->JL x ops Q rest ((d,v)::l) (K'++own) H):
 JL x ops Q (⟨some d,.call ⟨.value c,as,ts⟩,ty,pos,aft,none⟩::rest) l own H:=λa w b=>by
 simp only[wpLs,ZO,if_true];refine⟨λ_ _=>trivial,?_⟩;have k:(execOp a.eval ⟨some d,.call ⟨.value c,as,ts⟩,ty,pos,aft,none⟩).run x.P w=.ok (.enter f vs.toArray) w:=by
  have e1:=ZM b y;have e2:=UE (λo u e=>ZM b e) z;simp only[execOp,resolve,e1,e2,Deferred.ofValue,Sem.run_bind,Sem.run_pure,Result.andThen,invoke];simpa using t _ _
 rw[ZV rfl,k];have m:=ZNh b.mem.ok;show(_->_)/\CallsIn _ _ _ _ _ _ _;refine⟨λe=>by simp[Fw]at e,?_⟩;refine CallsIn.mono (show CallsIn (Fw x.r) (0-1) x.P f _ w _ from C _ m (ZIz b.mem.ok) w (Da b.mem.agr b.mem.ok) ⟨λp j=>by simp at j,by simp[ids],λp j=>by simp at j⟩) ?_;rintro e B ⟨v',K',s,rfl,D,g⟩;have i:=m.trans g.le;have q:Mem w H (ids []) K'.flatten H B:=⟨g.agr.le i,⟨g.ok.here,g.ok.nodup,λp j o=>by
  cases e:H p.1 o with
  |none=>rfl
  |some u=>have:=i _ _ _ e;rw[g.ok.apart p j o]at this;cases this⟩,g.kept,g.fresh,Rz _,λ_ _ _=>rfl,PF⟩
 refine h _ _ _ _ D (λp j=>TS b.mem.kept.size<|(g.fresh p j).resolve_left<|by simp[ids]) _ _<|Holds.put (x:=x) (l:=l) ⟨b.size,b.ds,b.slots,?_⟩ A _;rw[TW];exact b.mem.go (K:=[]) (rst:=own.flatten) (by simp) q
variable{x:Cx}{ops:Array Oper}{Q:Exit->Act->World->Prop}{rest:List Oper}{l:Slots}{own:List Own}{H HF:Heaplet}
variable{ty:TypeId}{d:Nat}{pos:String}{aft:Array Edge}{v:Value}{p q:Operand}{t u:TypeId}
def RPc (hb:Nat):Rep (Nat×Nat):=λ_ cs y=>∃s,cs= [.slice (some ⟨hb,s,none⟩) y.2 y.2]/\(y.2=0\/s=y.1)
theorem RPc.one (hb:Nat):(RPc hb).One:=λ_ _ _ ⟨s,e,_⟩=>by subst e;intro u h;simp at h;subst h;rfl
def offs:Nat->List Nat->List (Nat×Nat)
 |_,[]=> []
 |s,n::r=>(s,n)::offs (s+n) r
theorem DS:∀(s:Nat) (a:List Nat),(offs s a).length=a.length
 |_,[]=>rfl
 |s,n::r=>by simp[offs,DS (s+n) r]
theorem ZEr:∀(s:Nat) (a b:List Nat),offs s (a++b)=offs s a++offs (s+a.sum) b
 |s,[],b=>by simp[offs]
 |s,n::r,b=>by simp[offs,ZEr (s+n) r b,Su]
def lens (bs:List (List UInt8)):List Nat:=bs.map List.length
theorem ZNb:∀(bs:List (List UInt8)) (s i:Nat) (b:List UInt8),bs[i]? =some b->(offs s<|lens bs)[i]? =some (s+(bs.take i).flatten.length,b.length)
  |[],s,i,b,h=>by simp at h
  |c::r,s,0,b,h=>by simp at h;subst h;simp[lens,offs]
  | c::r,s,i+1,b,h=>by
    have:=ZNb r (s+c.length) i b (by simpa using h);simp only[lens,Tp,offs,Ro,List.take_succ_cons,TP,TG]at this|-;rw[this,Su]
theorem G7:∀(bs:List (List UInt8)) (i:Nat) (b:List UInt8),bs[i]? =some b->bs.flatten=(bs.take i).flatten++b++(bs.drop (i+1)).flatten
  |[],i,b,h=>by simp at h
  |c::r,0,b,h=>by simp at h;subst h;simp
  | c::r,i+1,b,h=>by
    have:=G7 r i b (by simpa using h);simp[this]
theorem ZD0:∀(bs:List (List UInt8)) (i:Nat) (b c:List UInt8),bs[i]? =some b->bs.set i c=bs.take i++c::bs.drop (i+1)
 |[],i,b,c,h=>by simp at h
 |a::r,0,b,c,h=>by simp
 |a::r,i+1,b,c,h=>by simp[ZD0 r i b c<|by simpa using h]
theorem ZPg{bs:List (List UInt8)}{i:Nat}{b c:List UInt8}(h:bs[i]? =some b)(d:c.length=b.length):lens (bs.set i c)=lens bs:=by
 unfold lens;rw[List.map_set];apply Tl;intro j;rw[T3];split
 . rename_i e;subst e;split
   . simp[h,d]
   . rename_i a;have:=(TC.1 h).1;simp at a;omega
 . rfl
def Pcs (B E a:Nat)(v:Value)(bs:List (List UInt8))(K:Own):Prop:=
 ∃hb Kt,K=Kt++ [(hb,.cells (bvs bs.flatten).toArray E (0,0))]/\B<=hb/\bs.flatten.length<=maxLen/\RowOf (λ_ _=>none) (RPc hb) B a 1 v (offs 0<|lens bs) Kt
theorem Zr (l:List UInt8):(bvs l).length=l.length:=by simp[bvs]
theorem Pcs.weak{B a E b:Nat}(c:a<=B){bs:List (List UInt8)}{K:Own}(h:Pcs B E b v bs K):Pcs a E b v bs K:=by
 obtain⟨hb,Kt,e,h1,h2,d⟩:=h;exact⟨hb,Kt,e,TS c h1,h2,RowOf.weak c d⟩
theorem Pcs.base{B a E b:Nat}{bs:List (List UInt8)}{K:Own}(h:Pcs B E b v bs K)(c:∀p∈K,a<=p.1):Pcs a E b v bs K:=by
 obtain⟨hb,Kt,rfl,h1,h2,d⟩:=h;exact⟨hb,Kt,rfl,c (hb,.cells (bvs bs.flatten).toArray E (0,0)) (by simp),h2,d.base λp e=>c p<|by simp[e]⟩
theorem Pcs.ge{B E b:Nat}{bs:List (List UInt8)}{K:Own}(h:Pcs B E b v bs K):∀p∈K,B<=p.1:=by
 obtain⟨hb,Kt,rfl,h1,h2,c⟩:=h;intro p a;rcases TR.1 a with a|a
 . exact c.ge p a
 . simp at a;subst a;exact h1
theorem ZGw{N E a:Nat}{bs:List (List UInt8)}{K:Own}{S:List Nat}(h:Pcs N E a v bs K)(b:∀i∈S,i<N):∀p∈K,p.1∉S:=λp c d=>by
 have h1:=h.ge p c;have h2:=b _ d;omega
theorem Pcs.elem{B E c:Nat}{bs:List (List UInt8)}{K:Own}{b:List UInt8}{n:Int}(h:Pcs B E c v bs K)(d:Nth bs n b):
    ∃ g o cur K',K= [(g,.cells cur c (0,0))]++K'/\ElemAt v 1 n g o/\∃hb s,cur.toList[o]? =some (.slice (some ⟨hb,s,none⟩) b.length b.length)/\(b.length=0\/s=(bs.take n.toNat).flatten.length)/\
      K'= [(hb,.cells (bvs bs.flatten).toArray E (0,0))]:=by
  obtain⟨hb,Kt,rfl,h1,h2,e⟩:=h;have a:=ZNb bs 0 n.toNat b d.2;obtain⟨g,o,cs,cur,f,j,k,m,l⟩:=e.elem (i:=n) ⟨d.1,a⟩;obtain⟨s,rfl,hs⟩:=k;subst f;refine⟨g,o,cur,_,rfl,j,hb,s,?_,by simpa using hs,rfl⟩;have:=l 0 _ rfl;simpa using this
theorem ZQV (i:Nat){T n b o:Nat}{cur:Array Value}{t:TypeId}{f:Nat×Nat}{K:Own}(hs:ZE x.P T=some (false,n))(h1:evo l p=some (.pointer<|some ⟨b,o,none⟩))
 (hi:own[i]? =some K)(c:(b,Obj.cells cur t f)∈K)(d:cur.toList[o]? =some v):Runs x (.load T p) ty l own H v:=
 λρ w _ _ _ _ h a=>by
  simp only[execOp,h _ _ h1];refine YQ<|ZAS hs ?_;rw[cell_of_row w b o cur t f<|a.2 (b,.cells cur t f)<|Sd.2 ⟨_,Tq hi,c⟩];simpa using d
def PcAt (K:Own)(E:Nat)(bs:List (List UInt8))(n:Int)(b:List UInt8)(p:Value):Prop:=
 ∃hb s,p=.slice (some ⟨hb,s,none⟩) b.length b.length/\(b.length=0\/s=(bs.take n.toNat).flatten.length)/\∃Kt,K=Kt++ [(hb,Obj.cells (bvs bs.flatten).toArray E (0,0))]
theorem Pcs.at{B E a:Nat}{bs:List (List UInt8)}{K:Own}{b:List UInt8}{n:Int}(h:Pcs B E a v bs K)(c:Nth bs n b):
 ∃g o cur p,ElemAt v 1 n g o/\(g,Obj.cells cur a (0,0))∈K/\cur.toList[o]? =some p/\PcAt K E bs n b p:=by
 obtain⟨g,o,cur,K',rfl,d,hb,s,e,hs,rfl⟩:=h.elem c;exact⟨g,o,cur,_,d,by simp,e,hb,s,rfl,hs,_,rfl⟩
theorem Mem.goM{w0:World}{H0 H b:Heaplet}{S:List Nat}{own:List Own}{Kt a K:Own}{i:Nat}{w c:World}(d:Mem w0 H0 S own.flatten H w)(hi:own[i]? =some (Kt++a))
 (h:Mem w H (ids a) K b c):Mem w0 H0 S (own.set i (Kt++K)).flatten b c:=by
 have p:own.flatten.Perm (a++(Kt++(own.eraseIdx i).flatten)):=by
  refine(XJ hi).trans ?_;rw[<-TE];exact List.perm_append_comm.append_right _
 refine(d.go p h).perm ?_;refine List.Perm.trans ?_ (XZ (seg':=Kt++K) hi).symm;rw[<-TE];exact List.perm_append_comm.append_right _
theorem Vq (a b:List UInt8):bvs (a++b)=bvs a++bvs b:=by simp[bvs]
theorem ZRb (l:List UInt8):∀u∈bvs l,u.oneCell'=true:=λu h=>by
 obtain⟨_,_,rfl⟩:=T7.1 h;rfl
theorem ZRI{Kt K:Own}{a b:Nat×Obj}(h:Kt++ [a]=K++ [b]):Kt=K/\a=b:=by
 have:=List.append_inj' h rfl;exact⟨this.1,by simpa using this.2⟩
theorem Pcs.turned{B E f:Nat}{bs:List (List UInt8)}{K:Own}{b c:List UInt8}{n:Int}{p:Value}(h:Pcs B E f v bs K)(a:Nth bs n b)(g:PcAt K E bs n b p)(i:c.length=b.length):
    ∃ Kt hb,K=Kt++ [(hb,.cells (bvs bs.flatten).toArray E (0,0))]/\Pcs B E f v (bs.set n.toNat c) (Kt++ [(hb,.cells (bvs (bs.set n.toNat c).flatten).toArray E (0,0))])/\
      (b.length=0\/p=.slice (some ⟨hb,(bs.take n.toNat).flatten.length,none⟩) b.length b.length)/\∃s,p=.slice (some ⟨hb,s,none⟩) b.length b.length:=by
  obtain⟨hb,Kt,rfl,h1,h2,j⟩:=h;obtain⟨k,s,rfl,hs,l,e⟩:=g;obtain⟨rfl,e2⟩:=ZRI e;simp only[Si]at e2;obtain⟨rfl,-⟩:=e2;have d:(bs.set n.toNat c).flatten.length=bs.flatten.length:=by
    rw[ZD0 bs n.toNat b c a.2,G7 bs n.toNat b a.2];simp;omega
  refine⟨Kt,hb,rfl,⟨hb,Kt,rfl,h1,by rw[d];exact h2,by rw[ZPg a.2 i];exact j⟩,?_,s,rfl⟩;rcases hs with h0|rfl
  . exact .inl h0
  . exact .inr rfl
theorem ZLh{bs:List (List UInt8)}{i:Nat}{b c:List UInt8}(h:bs[i]? =some b)(a:c.length=b.length):
 bvs (bs.set i c).flatten=(bvs bs.flatten).take (bs.take i).flatten.length++bvs c++(bvs bs.flatten).drop ((bs.take i).flatten.length+c.length):=by
 rw[ZD0 bs i b c h,G7 bs i b h];simp only[TW,TP,Vq];have e0:(bvs (bs.take i).flatten).length=(bs.take i).flatten.length:=Zr _;generalize bvs (bs.take i).flatten=A at e0;generalize (bs.take i).flatten.length=k at e0;subst e0;generalize bvs (bs.drop (i+1)).flatten=C;rw[TE A,T6,RL,T2 (as:=A) (by omega),Sy,show A.length+c.length-A.length=(bvs b).length by rw[Zr];omega,RP];simp
theorem ZQd (i:Nat){A E Eb B:Nat}{g:Bool}{K:Own}{bs:List (List UInt8)}{b m:List UInt8}{n:Int}{vp T y:Value}{H1:Heaplet}(hu:x.P.underlying t=some (.slice E))(V:ZE x.P E=some (g,1))(hi:own[i]? =some K)(hP:Pcs B E Eb vp bs K)(C:Nth bs n b)(hA:PcAt K E bs n b T)
 (h1:evo l p=some T)(h2:evo l q=some y)(W:Hle H1 H)(hs:IsSlice H1 RU8 1 y m)(U:m.length=b.length)(hd:Nat.blt d x.n=true)
 (h:∀K',Pcs B E Eb vp (bs.set n.toNat m) K'->JL x ops Q rest ((d,.int .i64 (m.length:Int))::l) (own.set i K') H):
 JL x ops Q (⟨some d,.call ⟨.builtin .copy,#[p,q],#[t,A]⟩,ty,pos,aft,none⟩::rest) l own H:=λa w f=>by
 have e1:=ZM f h1;have e2:=ZM f h2;simp only[wpLs,ZO,if_true];refine⟨λ_ _=>trivial,?_⟩;have base:∀v' X,(Builtin.copy_ #[t,A] ty #[T,y]).run x.P w=.ok v' X->
  (execOp a.eval ⟨some d,.call ⟨.builtin .copy,#[p,q],#[t,A]⟩,ty,pos,aft,none⟩).run x.P w=.ok (.value v') X:=λv' X z=>by
  generalize a.eval=ρ at e1 e2;have e3:Array.map ρ #[p,q]= #[T,y]:=by simp[e1,e2]
  simp only[execOp,resolve,e3,Sem.run_bind,Sem.run_pure,Result.andThen,invoke,builtin,z]
 obtain⟨Kt,hb,rfl,D,r,s,rfl⟩:=hP.turned C hA U;obtain⟨cells,hf,ao,cap,rfl,Y⟩:=hs.cells;have Z:cells=bvs m:=hf.of_u8;subst Z;have v:(Builtin.firstCells 1 m.length<|.slice ao m.length cap).run x.P w=.ok (bvs m).toArray w:=by
  rcases Y with rfl|⟨b',o,rfl,Y⟩
  . cases ao with
    |none=>simp[Builtin.firstCells,go_sem,bvs]
    |some a=>exact run_firstCells_some (P:=x.P) w 1 0 a 0 cap [] (by simp) λj u h=>by simp at h
  . exact run_firstCells_some (P:=x.P) w 1 m.length ⟨b',o,none⟩ m.length cap (bvs m) (by simp[bvs]) λj u h=>by rw[add_lit];exact f.mem.agr _ _ _<|W _ _ _<|Y j u h
 have F:=Zm f.mem hi;have G:=F.here (hb,.cells (bvs bs.flatten).toArray E (0,0)) (by simp);have hap:∀o,H hb o=none:=λo=>F.apart (hb,.cells (bvs bs.flatten).toArray E (0,0)) (by simp) o;have I:(Go.sizeOf E).run x.P w=.ok 1 w:=run_sizeOf V w;by_cases h0:m.length=0
 . have hm0:m= []:=TT.1 h0;subst hm0;have hb0:b= []:=TT.1 (by simpa using U.symm);subst hb0;have J:bs.set n.toNat []=bs:=by
    apply Tl;intro j;rw[T3];split
    . rename_i hj;subst hj;split
      . exact C.2.symm
      . rename_i hlt;have:=(TC.1 C.2).1;omega
    . rfl
   have z:(Builtin.copy_ #[t,A] ty #[.slice (some ⟨hb,s,none⟩) 0 0,.slice ao 0 cap]).run x.P w=.ok (.int .i64 0) w:=by
    have L:(Builtin.firstCells 1 0<|.slice ao 0 cap).run x.P w=.ok #[] w:=v;have c:(storeCells ⟨hb,s,none⟩ []).run x.P w=.ok () w:=rfl;have hmn:Nat.min 0 0=0:=rfl;simp[Builtin.copy_,run_underlying hu,Builtin.lenOf,I,L,c,hmn,goInt,Sem.run_bind,Sem.run_pure,Result.andThen]
   rw[ZV rfl,base _ _ z];have hx:=h _ D;rw[J]at hx;have e8:own.set i (Kt++ [(hb,.cells (bvs bs.flatten).toArray E (0,0))])=own:=by
    apply Tl;intro j;rw[T3];split
    . rename_i hj;subst hj;rw[hi];split
      . rfl
      . rename_i hlt;have:=(TC.1 hi).1;omega
    . rfl
   rw[e8]at hx;exact hx _ _<|Holds.put (x:=x) (l:=l) ⟨f.size,f.ds,f.slots,f.mem⟩ hd _
 . have hpv:(⟨hb,s,none⟩:Addr)=⟨hb,(bs.take n.toNat).flatten.length,none⟩:=by
    rcases r with h'|h'
    . omega
    . simp only[Value.slice.injEq,SE]at h';exact h'.1
   have O:(bs.take n.toNat).flatten.length+0+(bvs m).length<=(bvs bs.flatten).toArray.size:=by
    rw[Tm,Zr,Zr,G7 bs n.toNat b C.2];simp;omega
   have c:=run_storeCells_at x.P hb (bs.take n.toNat).flatten.length E (bvs m) 0 (bvs bs.flatten).toArray w G O<|ZRb m;simp only[SI]at c;have R:((bvs bs.flatten).toArray.toList.take (bs.take n.toNat).flatten.length++bvs m++(bvs bs.flatten).toArray.toList.drop ((bs.take n.toNat).flatten.length+(bvs m).length)).toArray=(bvs (bs.set n.toNat m).flatten).toArray:=by
    rw[ZLh C.2 U,Zr,Tf]
   rw[R]at c;obtain⟨W2,S⟩:∃W2,W2=w.setRow hb (bvs (bs.set n.toNat m).flatten).toArray:=⟨_,rfl⟩;rw[<-S]at c;have z:(Builtin.copy_ #[t,A] ty #[.slice (some ⟨hb,s,none⟩) b.length b.length,.slice ao m.length cap]).run x.P w=.ok (.int .i64 (m.length:Int)) W2:=by
    rw[hpv];generalize (bs.take n.toNat).flatten.length=k at c;have e:Nat.min m.length b.length=m.length:=(by rw[U];exact Nat.min_self _);generalize m.length=N at v e|-;generalize b.length=M at e|-;simp[Builtin.copy_,run_underlying hu,Builtin.lenOf,I,v,c,goInt,e,Sem.run_bind,Sem.run_pure,Result.andThen]
   rw[S]at z;rw[ZV rfl,base _ _ z];refine h _ D _ _<|Holds.put (x:=x) (l:=l) ⟨f.size,f.ds,f.slots,?_⟩ hd _;exact f.mem.goM hi<|by simpa[ids]using Mem.setRow f.mem.agr G hap (bvs (bs.set n.toNat m).flatten).toArray
theorem ElemAt.slc{g hb s o len cap:Nat}{k:Int}(h:ElemAt (.slice (some ⟨hb,s,none⟩) len cap) 1 k g o):g=hb/\o=s+k.toNat/\k.toNat<len/\0<=k:=by
 obtain⟨h0,b,l,c,e,rfl,a⟩:=h;simp only[Value.slice.injEq,SE,Addr.mk.injEq]at e;obtain⟨⟨rfl,rfl,-⟩,rfl,rfl⟩:=e;exact⟨rfl,by omega,a,h0⟩
theorem PcAt.elem{K:Own}{E:Nat}{bs:List (List UInt8)}{n k:Int}{b:List UInt8}{p:Value}(h:PcAt K E bs n b p)(a:0<=k/\k.toNat<b.length):∃g o,ElemAt p 1 k g o:=by
 obtain⟨hb,s,rfl,_⟩:=h;exact⟨hb,_,a.1,s,_,_,rfl,rfl,a.2⟩
theorem PcAt.cell{K:Own}{E g o:Nat}{bs:List (List UInt8)}{n k:Int}{b:List UInt8}{y:UInt8}{p:Value}(h:PcAt K E bs n b p)(d:Nth bs n b)(e:Nth b k y)(f:ElemAt p 1 k g o):
 (g,Obj.cells (bvs bs.flatten).toArray E (0,0))∈K/\(bvs bs.flatten).toArray.toList[o]? =some (.int .u8 (y.toNat:Int)):=by
 obtain⟨hb,s,rfl,hs,Kt,rfl⟩:=h;obtain⟨rfl,rfl,a,h0⟩:=f.slc;refine⟨by simp,?_⟩;have c:s=(bs.take n.toNat).flatten.length:=by rcases hs with h|h<;>omega
 rw[Tf,G7 bs n.toNat b d.2,Vq,Vq,TE,Sc (by rw[Zr];omega),Zr,c,
  show(bs.take n.toNat).flatten.length+k.toNat-(bs.take n.toNat).flatten.length=k.toNat by omega,SH (by rw[Zr];exact a)]
 simp[bvs,e.2]
theorem ZSD (i:Nat){T E R B g o:Nat}{K:Own}{bs:List (List UInt8)}{b:List UInt8}{n k:Int}{y:UInt8}{S U:Value}(hs:ZE x.P T=some (false,1))(hi:own[i]? =some K)(V:Pcs B E R S bs K)(I:Nth bs n b)(W:PcAt K E bs n b U)
 (h1:evo l p=some (.pointer<|some ⟨g,o,none⟩))(X:ElemAt U 1 k g o)(h2:evo l q=some (.int .u8 (y.toNat:Int)))
 (h:∀K',Pcs B E R S (bs.set n.toNat<|b.set k.toNat y) K'->JL x ops Q rest l (own.set i K') H):
 JL x ops Q (⟨none,.store T p q,ty,pos,aft,none⟩::rest) l own H:=λa w e=>by
 have e1:=ZM e h1;have e2:=ZM e h2;simp only[wpLs,ZO,if_true];refine⟨λ_ _=>trivial,?_⟩;obtain⟨Kt,hb,rfl,J,f,s,rfl⟩:=V.turned (c:=b.set k.toNat y) I W (Sx ..);obtain⟨rfl,rfl,d,h0⟩:=X.slc;have r:=Zm e.mem hi;have t:=r.here (g,.cells (bvs bs.flatten).toArray E (0,0)) (by simp);have L:∀o,H g o=none:=λo=>r.apart (g,.cells (bvs bs.flatten).toArray E (0,0)) (by simp) o;have u:s=(bs.take n.toNat).flatten.length:=by
  rcases f with M|M
  . omega
  . simp only[Value.slice.injEq,SE,Addr.mk.injEq]at M;exact M.1.2.1
 have N:s+k.toNat+1<=(bvs bs.flatten).toArray.size:=by
  rw[Tm,Zr,G7 bs n.toNat b I.2,u];simp;omega
 have z:=ZEn (P:=x.P) (T:=T) (w:=w) (b:=g) (o:=s+k.toNat) (v:=.int .u8 (y.toNat:Int)) hs rfl rfl t N;have F:((bvs bs.flatten).toArray.toList.take (s+k.toNat)++(Value.int .u8 (y.toNat:Int)).cells.toList++(bvs bs.flatten).toArray.toList.drop (s+k.toNat+1)).toArray=(bvs (bs.set n.toNat<|b.set k.toNat y).flatten).toArray:=by
  congr 1;rw[ZLh I.2 (by simp),Tf,u,G7 bs n.toNat b I.2,Vq,Vq];have O:=Zr b;have e0:(bvs (bs.take n.toNat).flatten).length=(bs.take n.toNat).flatten.length:=Zr _;have G:bvs (b.set k.toNat y)=(bvs b).take k.toNat++Value.int .u8 (y.toNat:Int)::(bvs b).drop (k.toNat+1):=by
   unfold bvs;rw[List.map_set,RI,TJ<|by simpa using d]
  rw[G];generalize bvs (bs.take n.toNat).flatten=A at e0;generalize (bs.take n.toNat).flatten.length=j at e0;subst e0;generalize bvs (bs.drop (n.toNat+1)).flatten=C;rw[Sx];rw[<-O]at d|-;generalize bvs b=D at d;generalize k.toNat=m at d;have t1:(A++D++C).take (A.length+m)=A++D.take m:=by
   rw[TE,SK,TZ (by omega),SK,show A.length+m-A.length-D.length=0 by omega];simp
  have Y:(A++D++C).drop (A.length+m+1)=D.drop (m+1)++C:=by
   rw[TE,RL,T2 (as:=A) (by omega),RL,show A.length+m+1-A.length-D.length=0 by omega,show A.length+m+1-A.length=m+1 by omega];simp
  have Z:(A++D++C).take A.length=A:=by rw[TE,T6]
  have t4:(A++D++C).drop (A.length+D.length)=C:=by rw[<-TG,RP]
  rw[t1,Y,Z,t4];simp[Value.cells]
 rw[F]at z;have hr:(execOp a.eval ⟨none,.store T p q,ty,pos,aft,none⟩).run x.P w=.ok .skip (w.setRow g (bvs (bs.set n.toNat<|b.set k.toNat y).flatten).toArray):=by
  generalize a.eval=ρ at e1 e2;simp only[execOp,e1,e2];exact ZNU z
 rw[ZV rfl,hr];refine h _ J _ _ ⟨e.size,e.ds,e.slots,?_⟩;exact e.mem.goM hi<|by simpa[ids]using Mem.setRow e.mem.agr t L (bvs (bs.set n.toNat<|b.set k.toNat y).flatten).toArray
theorem Flat.mapM{α a:Type}{R:Rep α}{R':Rep a}{H1 H2:Heaplet}(f:α->a){size:Nat}:∀{l:List α} {cells:List Value},(∀y∈l,∀cs,R H1 cs y->R' H2 cs (f y))->Flat H1 R size cells l->Flat H2 R' size cells (l.map f)
  |[],cells,_,h=>h
  | y::r,cells,b,h=>by
    obtain⟨cs,m,rfl,h1,h2,h3⟩:=h;exact⟨cs,m,rfl,h1,b y (by simp) _ h2,Flat.mapM f (λz c=>b z<|by simp[c]) h3⟩
theorem ZK5:∀(bs:List (List UInt8)) (s:Nat) (y:Nat×Nat),y∈offs s (lens bs)->s<=y.1/\y.1+y.2<=s+bs.flatten.length
  |[],s,y,h=>by simp[lens,offs]at h
  | b::r,s,y,h=>by
    simp only[lens,Tp,offs,Ta]at h;simp only[TP,TG];rcases h with rfl|h
    . exact⟨TF _,by simp only;omega⟩
    . have:=ZK5 r (s+b.length) y h;omega
theorem ZK6:∀(bs:List (List UInt8)) (pre:List UInt8),(offs pre.length<|lens bs).map (λy=>((pre++bs.flatten).drop y.1).take y.2)=bs
  |[],pre=>rfl
  | b::r,pre=>by
    have i:=ZK6 r (pre++b);simp only[lens,Tp,offs,TP];rw[TG]at i;rw[show pre++(b++r.flatten)=pre++b++r.flatten by simp];simp only[lens]at i;rw[i];congr 1;rw[TE,RP,T6]
theorem Holds.pubPcs{i E I B:Nat}{K:Own}{bs:List (List UInt8)}(hi:own[i]? =some K)(O:Pcs B E I v bs K)(J:x.w0.heap.size<=B){a:Act}{w:World}(c:Holds x l own H a w):
 ∃g,Hle H g/\IsSlice (New x.H0 g) (RSl RU8 1) 1 v bs/\Holds x l (own.set i []) g a w:=by
 obtain⟨hb,Kt,rfl,h1,h2,P⟩:=O
 -- in two
 have k:Holds x l ([(hb,.cells (bvs bs.flatten).toArray E (0,0))]::own.set i Kt) H a w:=⟨c.size,c.ds,c.slots,c.mem.perm (by
  simp only[TP];refine(XJ hi).trans ?_;refine List.Perm.trans ?_<|(XZ (seg':=Kt) hi).symm.append_left _;rw[<-TE];exact(Tc).append_right _)⟩
 have L:=Mem.pub (i:=0) k.mem rfl (TS J h1);obtain⟨H1,f⟩:∃H1:Heaplet,H1=(λb o=>if b=hb then(bvs bs.flatten).toArray[o]? else H b o):=⟨_,rfl⟩;rw[<-f]at L;have m:∀o,H hb o=none:=λo=>(Zm k.mem (i:=0) rfl).apart (hb,.cells (bvs bs.flatten).toArray E (0,0)) (by simp) o;have t:∀o,x.H0 hb o=none:=λo=>by
  cases h:x.H0 hb o with
  |none=>rfl
  |some v=>have:=c.mem.le _ _ _ h;rw[m]at this;cases this
 have n:Hle H H1:=λb o v e=>by
  rw[f];by_cases p:b=hb
  . subst p;rw[m]at e;cases e
  . simp[p,e]
 have q:=(TC.1 hi).1;have z:Holds x l (own.set i Kt) H1 a w:=⟨c.size,c.ds,c.slots,by simpa using L⟩;have A:(own.set i Kt)[i]? =some Kt:=by simp[q]
 have C:RowOf (New x.H0 H1) (RSl RU8 1) B I 1 v bs Kt:=by
  obtain⟨cells,M,Q,S⟩:=P;have d:=ZK6 bs [];simp only[RF,Sy]at d;refine⟨cells,by rw[DS]at M;simpa[lens]using M,?_,S⟩;have:=Flat.mapM (R':=RSl RU8 1) (H2:=New x.H0 H1) (λy:Nat×Nat=>(bs.flatten.drop y.1).take y.2) (λy T cs U=>by
   obtain⟨s,rfl,hs⟩:=U;have V:=ZK5 bs 0 y T;have D:((bs.flatten.drop y.1).take y.2).length=y.2:=(by rw[TH,Td];omega);refine⟨_,rfl,?_⟩;have hsl:=PL (H:=New x.H0 H1) (R:=RU8) (size:=1) (b:=hb) (o:=s) (cap:=y.2) (Flat.bytes<|(bs.flatten.drop y.1).take y.2) (by rw[D];exact TF _) (by omega) (λj u r=>by
    have F:j<y.2:=(by have:=(TC.1 r).1;rw[Zr,D]at this;exact this);have G:s=y.1:=by rcases hs with h|h<;>omega
    subst G;unfold New;rw[t,f];simp only[if_true];unfold bvs at r|-;rw[SN,TX,TJ F,SF]at r;rw[List.getElem?_toArray,SN];exact r)
   rw[D]at hsl;exact hsl) Q
  rw[d]at this;exact this
 obtain⟨g,h3,W,N⟩:=z.pubN (RSl.mono RU8.mono) A C J;refine⟨g,n.trans h3,W,?_⟩;have e:(own.set i Kt).set i []=own.set i []:=by simp
 rw[e]at N;exact N
theorem JN.pubPcs{C:Act->World->Prop}(i:Nat){E c B:Nat}{K:Own}{bs:List (List UInt8)}(hi:own[i]? =some K)(d:Pcs B E c v bs K)(e:x.w0.heap.size<=B)
 (h:∀b,Hle H b->IsSlice (New x.H0 b) (RSl RU8 1) 1 v bs->JN x C l (own.set i []) b):JN x C l own H:=λa w f=>by
 obtain⟨b,h1,h2,h3⟩:=f.pubPcs hi d e;exact h b h1 h2 a w h3
theorem ZJB:∀(N:Nat),(List.replicate N (Value.int .u8 0).cells.toList).flatten=List.replicate N (Value.int .u8 ((0:UInt8).toNat:Int))
 |0=>rfl
 |k+1=>by rw[List.replicate_succ,List.replicate_succ,TP,ZJB k];rfl
theorem ZTj{E:TypeId}{bytes N:Nat}{r s:IntKind}(y:x.P.underlying t=some (.slice E))(z:eInfo x.P E=some (.int .u8 0,1,bytes))(h1:evo l p=some (.int r (N:Int)))(h2:evo l q=some (.int s (N:Int)))(u:N<=LIM)(hb:Nat.ble bytes 128=true)(A:Nat.blt d x.n=true)
 (h:∀g,x.w0.heap.size<=g->JL x ops Q rest ((d,.slice (some ⟨g,0,none⟩) N N)::l) ([(g,.cells (bvs<|List.replicate N 0).toArray E (0,0))]::own) H):JL x ops Q (⟨some d,.makeSlice t p q,ty,pos,aft,none⟩::rest) l own H:=λa w b=>by
 simp only[wpLs,ZO,if_true];refine⟨λ_ _=>trivial,?_⟩;obtain⟨i,hi,B,j,k,C,v⟩:=Zn z;subst k
 have D:=XY u hb;have m:(i.bytes:Int)*(N:Int)<=281474976710656:=by
  have h:((i.bytes*N:Nat):Int)<=281474976710656:=by rw[Nat.mul_comm];omega
  rwa[S6]at h
 have c:=run_make (P:=x.P) w t E i (.int .u8 0) y hi B r s N N (by omega) (SA _) m (by have:=QO u;simp only[maxLen]at this;omega);simp only[T4,j,SY]at c;have e1:=ZM b h1;have e2:=ZM b h2;generalize a.eval=ρ at e1 e2;have o:madeCells (Value.int .u8 0).cells N=(bvs<|List.replicate N 0).toArray:=by
  apply Sr.1;have:=Yu (Value.int .u8 0).cells N (by decide);have e:(Value.int .u8 0).cells.size=1:=rfl;rw[e,SY]at this;rw[this];simp only[bvs,List.map_replicate,Tf];exact ZJB N
 have f:(execOp ρ ⟨some d,.makeSlice t p q,ty,pos,aft,none⟩).run x.P w=.ok (.value<|.slice (some ⟨w.heap.size,0,none⟩) N N) (w.alloc<|.cells (bvs<|List.replicate N 0).toArray E):=by
  simp only[execOp,e1,e2];rw[<-o];exact YQ c
 rw[ZV rfl,f];refine h w.heap.size b.mem.kept.size _ _<|Holds.put (x:=x) (l:=l) ?_ A _;exact⟨b.size,b.ds,b.slots,by simpa using b.mem.go0 (K':=[[(w.heap.size,.cells (bvs<|List.replicate N 0).toArray E (0,0))]]) (by simpa using Mem.alloc b.mem.agr (.cells (bvs<|List.replicate N 0).toArray E (0,0)))⟩
theorem PN{α:Type}{R:Rep α}{HF:Heaplet}{size:Nat}:∀(k:Nat) {m:List α} {cells:List Value},Flat HF R size cells m->Flat HF R size (cells.take (k*size)) (m.take k)/\Flat HF R size (cells.drop (k*size)) (m.drop k)
  |0,m,cells,h=>by simp only[Nat.zero_mul,List.take_zero,List.drop_zero];exact⟨rfl,h⟩
  | k+1,[],cells,h=>by
    simp only[Flat]at h;subst h;simp only[List.take_nil,List.drop_nil];exact⟨rfl,rfl⟩
  | k +1,y::r,cells,h=>by
    obtain⟨cs,a,rfl,h1,h2,h3⟩:=h;have i:=PN k h3;have e1:(cs++a).take ((k+1)*size)=cs++a.take (k*size):=by
      rw[SK,TZ (by rw[h1,TU];omega),h1];congr 2;rw[TU];omega
    have e2:(cs++a).drop ((k+1)*size)=a.drop (k*size):=by
      rw[RL,T2 (by rw[h1,TU];omega),Sy,h1];congr 1;rw[TU];omega
    rw[e1,e2];exact⟨⟨cs,_,rfl,h1,h2,i.1⟩,i.2⟩
theorem ZFW{α:Type}{R:Rep α}{B size:Nat}{E:TypeId}{v:Value}{ls:List α}{K:Own}(h:RowOf HF R B E size v ls K):SubV size v v (0:Int).toNat ((ls.length:Int).toNat-(0:Int).toNat):=by
 obtain⟨cells,⟨h0,h1⟩,a,b⟩:=h;rcases h1 with⟨rfl,h3,rfl⟩|⟨g,cap,cur,rfl,rfl,e3,e4,e5,e6,e7⟩
 . refine⟨⟨none,0,?_⟩,.inl ?_⟩<;>simp[h3]
 . exact⟨⟨some ⟨g,0,none⟩,cap,by simp⟩,.inr ⟨g,0,_,cap,cap,rfl,by simp,by simp⟩⟩
def CSrc{α:Type}(x:Cx)(H HF:Heaplet)(own:List Own)(R:Rep α)(size:Nat)(y:Value)(a:List α):Prop:=
 ∃ao cap,y=.slice ao a.length cap/\∃cells,Flat HF R size cells a/\YS cells/\∀w,Mem x.w0 x.H0 x.S own.flatten H w->∀n,n<=a.length->(Builtin.firstCells size n y).run x.P w=.ok (cells.take (n*size)).toArray w
theorem ZIp{P:Program}{w:World}{size n len cap:Nat}{ao:Option Addr}{cells:List Value}(d:cells.length=len*size)(hn:n<=len)(b:len=0\/∃a:Addr,ao=some a/\∀j u,cells[j]? =some u->w.cell? (a.add j)=some u):
    (Builtin.firstCells size n<|.slice ao len cap).run P w=.ok (cells.take (n*size)).toArray w:=by
  rcases b with h0|⟨a,rfl,b⟩
  . have c:n=0:=(by omega);subst c;cases ao with
    |none=>simp[Builtin.firstCells,go_sem]
    | some a=>
      have:=run_firstCells_some (P:=P) w size 0 a len cap [] (by simp) (λj u h=>by simp at h);simpa using this
  . exact run_firstCells_some (P:=P) w size n a len cap (cells.take (n*size)) (by rw[TH,d];exact Tr<|TN _ hn) (λj u h=>by
      rw[TX]at h;split at h
      . exact b j u h
      . cases h)
theorem CSrc.slice{α:Type}{R:Rep α}(f:R.One){size:Nat}{y:Value}{e:List α}{H1:Heaplet}(a:Hle H1 H)(hs:IsSlice H1 R size y e)(g:∀cs z,R H1 cs z->R HF cs z):CSrc x H HF own R size y e:=by
 obtain⟨cells,c,ao,cap,rfl,d⟩:=hs.cells;refine⟨ao,cap,rfl,cells,c.conv g,c.one' f,λw i n hn=>ZIp c.length hn ?_⟩;rcases d with rfl|⟨b,o,rfl,d⟩
 . exact .inl rfl
 . exact .inr ⟨_,rfl,λj u h=>by rw[add_lit];exact i.agr _ _ _<|a _ _ _<|d j u h⟩
theorem Pb{α:Type}{R:Rep α}{size B:Nat}{E:TypeId}{v y:Value}{ls p:List α}{K:Own}{lo hi:Int}(i:Nat)(m:own[i]? =some K)(t:RowOf HF R B E size v ls K)(hs:SubV size v y lo.toNat (hi.toNat-lo.toNat))(hb:0<=lo/\lo<=hi/\hi<=ls.length)(hn:p=cut ls lo hi):CSrc x H HF own R size y p:=by
 subst hn;have c:(cut ls lo hi).length=hi.toNat-lo.toNat:=by have:=Vn (l:=ls) hb.1 hb.2.1 hb.2.2;omega
 obtain⟨⟨ao,cap,rfl⟩,hs⟩:=hs;obtain⟨cells,⟨h0,h1⟩,z,A⟩:=t;have f:=(PN (hi.toNat-lo.toNat) (PN lo.toNat z).2).1;refine⟨ao,cap,by rw[c],(cells.drop (lo.toNat*size)).take<|(hi.toNat-lo.toNat)*size,f,λu C=>A u<|RD<|SX C,λw D n k=> ?_⟩;have a:=f.length;rw[show((ls.drop lo.toNat).take (hi.toNat-lo.toNat)).length=hi.toNat-lo.toNat from c]at a;rw[c]at k;refine ZIp a k ?_;rcases hs with h|⟨b,o,I,q,r,e1,e2,F⟩
 . exact .inl h
 . right;simp only[Value.slice.injEq]at e2;obtain⟨rfl,-,rfl⟩:=e2;refine⟨_,rfl,λj u d=> ?_⟩;rcases h1 with⟨e,h3,rfl⟩|⟨g,s,cur,e,rfl,e3,e4,e5,e6,e7⟩
   . rw[e]at e1;simp at e1
   . rw[e]at e1;simp only[Value.slice.injEq,SE,Addr.mk.injEq]at e1;obtain⟨⟨rfl,rfl,-⟩,rfl,rfl⟩:=e1;have G:=(Zm D m).here (g,.cells cur E (0,0)) (by simp);rw[add_lit,cell_of_row w g _ cur E (0,0) G,Te];rw[TX]at d;split at d
     . rw[SF,<-e7,TX]at d;split at d
       . simpa using d
       . cases d
     . cases d
theorem ZPH{b:Type}{cur D:List b}{a d T:Nat}(h:D.length=d)(h1:a+d<=T)(h2:T<=cur.length):(cur.take a++D++cur.drop (a+d)).take T=(cur.take T).take a++D++(cur.take T).drop (a+d):=by
 have k:(cur.take a).length=a:=by rw[TH];omega
 rw[SK,SK,SU,SU,Re (by omega),Tr (by omega),TZ (l:=D) (by rw[k,h];omega),List.drop_take];congr 2;rw[TG,k,h]
theorem Wb{α:Type}{R:Rep α}(i:Nat){Y E B e:Nat}{g:Bool}{size:Nat}{K:Own}{ls c ms:List α}{lo hi:Int}{v v' y:Value}(f:x.P.underlying t=some (.slice e))(hsz:ZE x.P e=some (g,size))(O:own[i]? =some K)(hr:RowOf HF R B E size v ls K)
 (h1:evo l p=some v')(hs:SubV size v v' lo.toNat (hi.toNat-lo.toNat))(h2:evo l q=some y)(hc:CSrc x H HF own R size y c)(hb:0<=lo/\lo<=hi/\hi<=ls.length)(hm:ms=cpy ls lo.toNat (c.take (hi.toNat-lo.toNat)))(hd:Nat.blt d x.n=true)
 (h:∀K',RowOf HF R B E size v ms K'->JL x ops Q rest ((d,.int .i64<|min (c.length:Int) (hi-lo))::l) (own.set i K') H):
 JL x ops Q (⟨some d,.call ⟨.builtin .copy,#[p,q],#[t,Y]⟩,ty,pos,aft,none⟩::rest) l own H:=λa w s=>by
 have e1:=ZM s h1;have e2:=ZM s h2;simp only[wpLs,ZO,if_true];refine⟨λ_ _=>trivial,?_⟩;obtain⟨⟨S,m,rfl⟩,hs⟩:=hs;obtain⟨ao,cap,rfl,cells,hf,hone,Z⟩:=hc;have base:∀u w',(Builtin.copy_ #[t,Y] ty #[.slice S (hi.toNat-lo.toNat) m,.slice ao c.length cap]).run x.P w=.ok u w'->
  (execOp a.eval ⟨some d,.call ⟨.builtin .copy,#[p,q],#[t,Y]⟩,ty,pos,aft,none⟩).run x.P w=.ok (.value u) w':=λu w' hr=>by
  generalize a.eval=ρ at e1 e2;have e3:Array.map ρ #[p,q]= #[.slice S (hi.toNat-lo.toNat) m,.slice ao c.length cap]:=by simp[e1,e2]
  simp only[execOp,resolve,e3,Sem.run_bind,Sem.run_pure,Result.andThen,invoke,builtin,hr]
 obtain⟨N,z⟩:∃N,N=Nat.min c.length (hi.toNat-lo.toNat):=⟨_,rfl⟩;have hN1:N<=c.length:=by rw[z];exact Nat.min_le_left _ _
 have hN2:N<=hi.toNat-lo.toNat:=by rw[z];exact Nat.min_le_right _ _
 have hN3:(N:Int)=min (c.length:Int) (hi-lo):=by rw[z];show((min c.length (hi.toNat-lo.toNat):Nat):Int)=_;omega
 have hNt:c.take (hi.toNat-lo.toNat)=c.take N:=by
  by_cases h':c.length<=hi.toNat-lo.toNat
  . have:N=c.length:=(by rw[z];exact Tr h');rw[this,RN,TZ h']
  . have:N=hi.toNat-lo.toNat:=(by rw[z];exact Re<|by omega);rw[this]
 have A:=Z w s.mem N hN1;have W:(Go.sizeOf e).run x.P w=.ok size w:=run_sizeOf hsz w;have hfn:=(PN N hf).1;have F:(c.take N).length=N:=by rw[TH,Tr hN1]
 have T:(cells.take (N*size)).length=N*size:=by have:=hfn.length;rw[F]at this;exact this
 subst hm;rw[hNt]at h;have hin:=Zm s.mem O;rw[<-hN3]at h
 -- nothing to copy
 by_cases h0:N=0
 . have k:∀ad:Addr,(storeCells ad []).run x.P w=.ok () w:=λ_=>rfl;have X:(Builtin.copy_ #[t,Y] ty #[.slice S (hi.toNat-lo.toNat) m,.slice ao c.length cap]).run x.P w=.ok (.int .i64 (N:Int)) w:=by
    rw[h0]at A z|-;have G:(Builtin.firstCells size 0<|.slice ao c.length cap).run x.P w=.ok #[] w:=(by simpa using A);generalize hi.toNat-lo.toNat=M at z|-;generalize c.length=L at z G|-;cases S with
    |none=>simp[Builtin.copy_,run_underlying f,Builtin.lenOf,W,<-z,G,goInt,Sem.run_bind,Sem.run_pure,Result.andThen]
    |some ad=>simp[Builtin.copy_,run_underlying f,Builtin.lenOf,W,<-z,G,k,goInt,Sem.run_bind,Sem.run_pure,Result.andThen]
   rw[ZV rfl,base _ _ X];have hx:=h K (by rw[h0];simpa[cpy]using hr);have e8:own.set i K=own:=by
    apply Tl;intro j;rw[T3];split
    . rename_i hj;subst hj;rw[O];split
      . rfl
      . rename_i hlt;have:=(TC.1 O).1;omega
    . rfl
   rw[e8]at hx;exact hx _ _<|Holds.put (x:=x) (l:=l) ⟨s.size,s.ds,s.slots,s.mem⟩ hd _
 . rcases hs with h'|⟨b,o,n',cap2,cap',ev,e2',hle⟩
   . omega
   simp only[Value.slice.injEq]at e2';obtain⟨rfl,-,rfl⟩:=e2';obtain⟨cs,⟨g0,g1⟩,gf,go⟩:=hr;rcases g1 with⟨e',h3,rfl⟩|⟨V,r,cur,e',rfl,e3,e4,e5,e6,e7⟩
   . rw[e']at ev;simp at ev
   rw[e']at ev;simp only[Value.slice.injEq,SE,Addr.mk.injEq]at ev;obtain⟨⟨rfl,rfl,-⟩,rfl,rfl⟩:=ev;have hbk:=hin.here (V,.cells cur E (0,0)) (by simp);have hap:∀o,H V o=none:=λo=>hin.apart (V,.cells cur E (0,0)) (by simp) o;have hcl:r*size<=cur.toList.length:=(by simpa using e6);have I:(lo.toNat+N)*size<=ls.length*size:=TN _ (by omega);have U:ls.length*size<=r*size:=TN _ e4;have hfit:lo.toNat*size+0+(cells.take (N*size)).length<=cur.size:=(by rw[T,SI,<-TU];omega);have k:=run_storeCells_at x.P V (lo.toNat*size) E (cells.take (N*size)) 0 cur w hbk hfit λu f=>hone u<|SX f;simp only[SI]at k;obtain⟨C,hC⟩:∃C,C=(cur.toList.take (lo.toNat*size)++cells.take (N*size)++cur.toList.drop (lo.toNat*size+(cells.take (N*size)).length)).toArray:=⟨_,rfl⟩;rw[<-hC]at k;have X:(Builtin.copy_ #[t,Y] ty #[.slice (some ⟨V,0+lo.toNat*size,none⟩) (hi.toNat-lo.toNat) m,.slice ao c.length cap]).run x.P w=.ok (.int .i64 (N:Int)) (w.setRow V C):=by
    rw[Te];generalize hi.toNat-lo.toNat=M at z|-;generalize c.length=L at z A|-;generalize cells.take (N*size)=D at A k;generalize lo.toNat*size=o at k|-;simp[Builtin.copy_,run_underlying f,Builtin.lenOf,W,<-z,A,k,goInt,Sem.run_bind,Sem.run_pure,Result.andThen]
   rw[ZV rfl,base _ _ X];have hm2:=s.mem.go1 O (by simpa[ids]using Mem.setRow s.mem.agr hbk hap C);refine h [(V,.cells C E (0,0))] ?_ _ _<|Holds.put (x:=x) (l:=l) ⟨s.size,s.ds,s.slots,hm2⟩ hd _;have hfl:Flat HF R size (cs.take (lo.toNat*size)++cells.take (N*size)++cs.drop ((lo.toNat+N)*size)) (cpy ls lo.toNat<|c.take N):=by
    unfold cpy;rw[F];exact Flat.append (PN (lo.toNat+N) gf).2<|Flat.append hfn (PN lo.toNat gf).1
   have J:(cpy ls lo.toNat<|c.take N).length=ls.length:=by
    unfold cpy;rw[TG,TG,F,TH,Td];omega
   refine⟨_,⟨hfl.length,.inr ⟨V,r,C,by rw[J];exact e',rfl,e3,by rw[J];exact e4,e5,?_,?_⟩⟩,hfl,?_⟩
   . have hs1:lo.toNat*size+N*size<=r*size:=(by rw[<-TU];omega);rw[hC,Tm,TG,TG,TH,Td,T];omega
   . rw[hC,J,<-e7,Tf,T,TU];exact ZPH T (by rw[TU]at I;exact I)<|TS U hcl
   . intro u f;rcases TR.1 f with f|f
     . rcases TR.1 f with f|f
       . exact go u<|SX f
       . exact hone u<|SX f
     . exact go u<|RD f
structure MapIs {α:Type} (R:Rep α) (H:Heaplet) (es:Array MapEntry) (M:List (Int×α)):Prop where
  size:es.size=M.length
  here:∀i k y,M[i]? =some (k,y)->∃cs:List Value,es[i]? =some (MapEntry.mk (.int .i64 k) (.agg cs.toArray) i)/\R H cs y
  nodup:(M.map (·.1)).Nodup
theorem ZKy{α:Type}:∀{M:List (Int×α)} {k:Int} {y:α},(∀p∈M,p.1≠k)->putM M k y=M++ [(k,y)]
  |[],_,_,_=>rfl
  | p::r,k,y,h=>by
    simp only[putM,TK (h p<|by simp),RB];rw[ZKy λq a=>h q<|by simp[a]]
theorem ZKx{α:Type}:∀{M:List (Int×α)} {k:Int} {y:α} {j:Nat} {z:α},(M.map (·.1)).Nodup->M[j]? =some (k,z)->putM M k y=M.set j (k,y)
  |[],_,_,_,_,_,h=>by simp at h
  |p::r,k,y,0,z,_,h=>by simp at h;subst h;simp[putM]
  | p::r,k,y,j+1,z,hn,h=>by
    simp only[Tp,SR]at hn;simp only[Ro]at h;have a:p.1≠k:=λe=>hn.1 (by rw[e];exact T7.2 ⟨(k,z),Tq h,rfl⟩);simp only[putM,TK a,List.set_cons_succ];rw[ZKx hn.2 h]
theorem MapIs.nil{α:Type}(R:Rep α)(H:Heaplet):MapIs R H #[] []:=⟨rfl,λi k y h=>by simp at h,by simp⟩
theorem MapIs.mono{α:Type}{R:Rep α}(d:R.Mono){H b:Heaplet}(a:Hle H b){c:Array MapEntry}{M:List (Int×α)}(h:MapIs R H c M):MapIs R b c M:=
 ⟨h.size,λi k y e=>by obtain⟨cs,h1,h2⟩:=h.here i k y e;exact⟨cs,h1,d _ _ _ _ a h2⟩,h.nodup⟩
theorem MapIs.entry{α:Type}{R:Rep α}{H:Heaplet}{c:Array MapEntry}{M:List (Int×α)}(h:MapIs R H c M){e:MapEntry}(d:e∈c.toList):
 ∃i k y,∃cs:List Value,M[i]? =some (k,y)/\c[i]? =some e/\e=MapEntry.mk (.int .i64 k) (.agg cs.toArray) i/\R H cs y:=by
 obtain⟨i,hi⟩:=List.mem_iff_getElem?.1 d;have a:c[i]? =some e:=by simpa using hi
 have b:i<M.length:=by rw[<-h.size];exact(TV.1 a).1
 obtain⟨cs,h1,h2⟩:=h.here i (M[i]).1 (M[i]).2 (by simp[b]);exact⟨i,(M[i]).1,(M[i]).2,cs,by simp[b],a,by rw[a]at h1;exact TB h1,h2⟩
theorem MapIs.keys{α:Type}{R:Rep α}{H:Heaplet}{a:Array MapEntry}{M:List (Int×α)}(h:MapIs R H a M):∀e∈a.toList,MapKept.IsKey (.int .i64) e.key:=λe b=>by
 obtain⟨i,k,y,cs,-,-,rfl,-⟩:=h.entry b;rfl
theorem MapIs.born{α:Type}{R:Rep α}{H:Heaplet}{a:Array MapEntry}{M:List (Int×α)}(h:MapIs R H a M):∀e∈a.toList,e.born<M.length:=λe b=>by
 obtain⟨i,k,y,cs,h1,-,rfl,-⟩:=h.entry b;exact(TC.1 h1).1
theorem MapIs.bornAt{α:Type}{R:Rep α}{H:Heaplet}{e:Array MapEntry}{M:List (Int×α)}(h:MapIs R H e M):e.toList.map (·.born)=List.range M.length:=by
 refine Tl λi=> ?_;rw[SN];by_cases hi:i<M.length
 . obtain⟨cs,h1,-⟩:=h.here i (M[i]).1 (M[i]).2 (by simp[hi]);rw[Sa,h1];simp[hi]
 . rw[Sa,Sh (by rw[h.size];omega)];simp[hi]
theorem MapIs.put{α:Type}{R:Rep α}{H:Heaplet}{d:Array MapEntry}{M:List (Int×α)}(h:MapIs R H d M){k:Int}{cs:List Value}{y:α}(j:R H cs y):
 (∀e∈d.toList,e.key≠.int .i64 k)->MapIs R H (d.push<|MapEntry.mk (.int .i64 k) (.agg cs.toArray) M.length) (putM M k y):=λhn=>by
 have g:∀p∈M,p.1≠k:=λp f e=>by
  obtain⟨i,hi⟩:=List.mem_iff_getElem?.1 f;obtain⟨c,h1,-⟩:=h.here i p.1 p.2 hi;exact hn _ (Array.mem_toList_iff.2<|Rh h1)<|by simp[e]
 rw[ZKy g];refine⟨by simp[h.size],λi l m e=> ?_,?_⟩
 . rw [List.getElem?_append]at e;split at e
   . obtain⟨c,h1,h2⟩:=h.here i l m e;refine⟨c,?_,h2⟩;have:=(TV.1 h1).1;rw[Array.getElem?_push_lt this,<-h1,T9 this]
   . rename_i hi;have:i=M.length:=by
      rcases SZ 0 (i-M.length)with n|n
      . rw[Tz (by simp only[Ts,RF];omega)]at e;cases e
      . omega
     subst this;simp at e;obtain⟨rfl,rfl⟩:=e;exact⟨cs,by rw[<-h.size];simp,j⟩
 . rw[SJ];refine Sf.2 ⟨h.nodup,by simp,λa o b hb=> ?_⟩;simp at hb;subst hb;obtain⟨p,f,rfl⟩:=T7.1 o;exact g p f
theorem MapIs.turn{α:Type}{R:Rep α}{H:Heaplet}{f:Array MapEntry}{M:List (Int×α)}(h:MapIs R H f M){k:Int}{cs:List Value}{y:α}(p:R H cs y){j:Nat}{e:MapEntry}
 (g:f[j]? =some e)(o:e.key=.int .i64 k):MapIs R H (f.modify j λe=>{e with key:=.int .i64 k,val:=.agg cs.toArray}) (putM M k y)/\(putM M k y).length=M.length:=by
 obtain⟨i,q,z,r,h1,h2,h3,-⟩:=h.entry<|Array.mem_toList_iff.2<|Rh g;subst h3;simp only[Value.int.injEq,Rj]at o;subst o;have l:i=j:=by
  have a:j<M.length:=by rw[<-h.size];exact(TV.1 g).1
  obtain⟨c,d,-⟩:=h.here j (M[j]).1 (M[j]).2 (by simp[a]);rw[g]at d;simp only[SE,MapEntry.mk.injEq]at d;exact d.2.2
 subst l;rw[ZKx h.nodup h1];have a:=(TC.1 h1).1;refine⟨⟨by simp[h.size],λs m t e=> ?_,?_⟩,by simp⟩
 . rw[T3]at e;split at e
   . rename_i b;subst b;simp only[a,if_true,SE,Si]at e;obtain⟨rfl,rfl⟩:=e;exact⟨cs,by rw[S9,TJ rfl,h2];rfl,p⟩
   . rename_i b;obtain⟨c,d,u⟩:=h.here s m t e;exact⟨c,by rw[S9,TK b];exact d,u⟩
 . rw [List.map_set];rw [show(M.map (·.1)).set i q=M.map (·.1)from by
    refine Tl λn=> ?_;rw[T3];split
    . rename_i hn;subst hn;simp[a];have:=(TC.1 h1).2;rw[this]
    . rfl]
   exact h.nodup
open Go.ChangeMaps (setBlock)
theorem P1{w:World}{H:Heaplet}{b:Nat}{o o':Obj}(g:Agrees H w)(hb:w.heap[b]? =some o)(a:∀q,H b q=none):
 Mem w H [b] [(b,o')] H (setBlock w b o'):=by
 have i:=(TV.1 hb).1;have c:∀k,k≠b->(setBlock w b o').heap[k]? =w.heap[k]?:=λk d=>(MapKept.heap_set (o':=o') hb).2 k d;refine⟨λf off v e=> ?_,⟨?_,by simp[ids],λp h off=> ?_⟩,⟨rfl,rfl,rfl,by simp[setBlock],TF _,λk d hn=>c k<|by simpa using hn⟩,λp h=>.inl (by simp at h;simp[h]),Rz _,λ_ _ _=>rfl,PF⟩
 . have:=g f off v e;rw[World.cell?_of_block (w:=w) (c f λj=>by subst j;rw[a]at e;cases e)];exact this
 . intro p h;simp at h;subst h;exact(MapKept.heap_set (o':=o') hb).1
 . simp at h;subst h;exact a off
variable{x:Cx}{ops:Array Oper}{Q:Exit->Act->World->Prop}{rest:List Oper}{l:Slots}{own:List Own}{H:Heaplet}
variable{ty:TypeId}{d:Nat}{pos:String}{aft:Array Edge}{v:Value}
theorem ZQa{t:TypeId}(a:Nat.blt d x.n=true)
 (h:∀b,x.w0.heap.size<=b->JL x ops Q rest ((d,.map<|some b)::l) ([(b,.map #[] 0)]::own) H):JL x ops Q (⟨some d,.makeMap t none,ty,pos,aft,none⟩::rest) l own H:=
 JL.new (v':=λb=>.map<|some b) a rfl (λρ w _ _ _ _ c=>by
  simp only[execOp];refine YQ ?_;simp only[Instr.makeMap,Sem.run_bind,Sem.run_pure,Option.map,run_newObj_alloc,Result.andThen]) h
theorem ZMK (i:Nat){p:Operand}{t k j:TypeId}{f c:Nat}{g:Array MapEntry}(m:x.P.underlying t=some (.map k j))(h1:evo l p=some (.map<|some f))
 (hi:own[i]? =some [(f,.map g c)])(o:Nat.blt d x.n=true)
 (h:∀b,x.w0.heap.size<=b->JL x ops Q rest ((d,.pointer<|some ⟨b,0,none⟩)::l) ([(b,.mapIter (some f) c #[] c)]::own) H):JL x ops Q (⟨some d,.range t p,ty,pos,aft,none⟩::rest) l own H:=λa w e=>by
 simp only[wpLs,ZO,if_true];refine⟨λ_ _=>trivial,?_⟩;have hb:=(Zm e.mem hi).here (f,.map g c) (by simp);have q:(execOp a.eval ⟨some d,.range t p,ty,pos,aft,none⟩).run x.P w=.ok (.value<|.pointer<|some ⟨w.heap.size,0,none⟩) (w.alloc<|.mapIter (some f) c #[] c):=by
  simp only[execOp,ZM e h1];exact YQ<|run_range_map w t k j f g c m hb
 rw[ZV rfl,q];refine h w.heap.size e.mem.kept.size _ _<|Holds.put (x:=x) (l:=l) ?_ o _;exact⟨e.size,e.ds,e.slots,by simpa using e.mem.go0 (K':=[[(w.heap.size,_)]]) (by simpa using Mem.alloc e.mem.agr _)⟩
theorem ZOq{α:Type}{R:Rep α}(i:Nat){HF:Heaplet}{p q s:Operand}{u D J:TypeId}{b:Nat}{n:Array MapEntry}{M:List (Int×α)}{k:Int}{cs:List Value}{y:α}
 (E:x.P.underlying u=some (.map D J))(r:x.P.underlying D=some (.int .i64))(h1:evo l p=some (.map<|some b))(h2:evo l q=some (.int .i64 k))(h3:evo l s=some (.agg cs.toArray))
 (hi:own[i]? =some [(b,.map n M.length)])(t:MapIs R HF n M)(F:R HF cs y)
 (h:∀c,MapIs R HF c (putM M k y)->JL x ops Q rest l (own.set i [(b,.map c (putM M k y).length)]) H):
 JL x ops Q (⟨none,.mapUpdate u p q s,ty,pos,aft,none⟩::rest) l own H:=λa w g=>by
 simp only[wpLs,ZO,if_true];refine⟨λ_ _=>trivial,?_⟩;have hb:=Zm g.mem hi;have f:=hb.here (b,.map n M.length) (by simp);have v:∀o,H b o=none:=λo=>hb.apart (b,.map n M.length) (by simp) o;have d:MapKept.IsKey (.int .i64) (.int .i64 k):=rfl;have z:∃c,MapIs R HF c (putM M k y)/\(execOp a.eval ⟨none,.mapUpdate u p q s,ty,pos,aft,none⟩).run x.P w=.ok .skip (setBlock w b<|.map c (putM M k y).length):=by
  simp only[execOp,ZM g h1,ZM g h2,ZM g h3];rcases MapKept.findNow_spec d n.toList 0 t.keys with⟨A,B⟩|⟨j,e,A,B,G⟩
  . have m:=t.put F B;refine⟨_,m,ZNU ?_⟩;simp only[Instr.mapUpdate,Sem.run_bind,run_underlying E,MapKept.run_getObj_map f,MapKept.run_checkKey r d,MapKept.run_findKey r A,MapKept.run_setObj_map _ f,Result.andThen,setBlock];rw[<-m.size];simp[t.size]
  . have I:n[j]? =some e:=(by simpa using B);obtain⟨ht,K⟩:=t.turn F I G;refine⟨_,ht,ZNU ?_⟩;simp[Instr.mapUpdate,run_underlying E,MapKept.run_getObj_map f,MapKept.run_checkKey r d,MapKept.run_findKey r A,I,G,MapKept.run_keyThatStays d,MapKept.run_setObj_map _ f,Result.andThen,setBlock,K]
 obtain⟨c,C,L⟩:=z;rw[ZV rfl,L];exact h c C _ _ ⟨g.size,g.ds,g.slots,g.mem.go1 hi<|by simpa[ids]using P1 g.mem.agr f v⟩
theorem ZCi{α:Type}{R:Rep α}(i j:Nat){HF:Heaplet}{p:Operand}{b c c0:Nat}{f:Array MapEntry}{M:List (Int×α)}{s:Array Nat}
 (h1:evo l p=some (.pointer<|some ⟨b,0,none⟩))(hi:own[i]? =some [(b,.mapIter (some c) M.length s c0)])(I:own[j]? =some [(c,.map f M.length)])(u:MapIs R HF f M)
 (J:M.length<=c0)(F:Nat.blt d x.n=true)
 (m:(∀k,k<M.length->k∈s.toList)->JL x ops Q rest ((d,.tuple #[.bool false])::l) own H)
 (v:∀n k y cs,M[n]? =some (k,y)->f[n]? =some (MapEntry.mk (.int .i64 k) (.agg cs.toArray) n)->n∉s.toList->R HF cs y->
  JL x ops Q rest ((d,.tuple #[.bool true,.int .i64 k,.agg cs.toArray])::l) (own.set i [(b,.mapIter (some c) M.length (s.push n) M.length)]) H):
 JL x ops Q (⟨some d,.next p false,ty,pos,aft,none⟩::rest) l own H:=λa w h=>by
 simp only[wpLs,ZO,if_true];refine⟨λ_ _=>trivial,?_⟩;have hb:=Zm h.mem hi;have g:=hb.here (b,.mapIter (some c) M.length s c0) (by simp);have z:=(Zm h.mem I).here (c,.map f M.length) (by simp);have A:∀o,H b o=none:=λo=>hb.apart (b,.mapIter (some c) M.length s c0) (by simp) o;rcases run_next_at (P:=x.P) w ty b c M.length c0 s f M.length g z u.born J with⟨B,t⟩|⟨e,B,C,t,K⟩
 . have D:(execOp a.eval ⟨some d,.next p false,ty,pos,aft,none⟩).run x.P w=.ok (.value<|.tuple #[.bool false]) w:=by
    simp only[execOp,ZM h h1];exact YQ t
   rw[ZV rfl,D];refine m (λk L=> ?_) _ _<|h.put F _;obtain⟨cs,E,-⟩:=u.here k (M[k]).1 (M[k]).2 (by simp[L]);have N:leftOf f s= #[]:=Array.eq_empty_of_size_eq_zero B;have:=Array.filter_eq_empty_iff.1 N _<|Rh E;simpa using this
 . have D:(execOp a.eval ⟨some d,.next p false,ty,pos,aft,none⟩).run x.P w=.ok (.value<|.tuple #[.bool true,e.key,e.val]) (setBlock C b<|.mapIter (some c) M.length (s.push e.born) M.length):=by
    simp only[execOp,ZM h h1];exact YQ K
   rw[ZV rfl,D];have G:e∈f.toList/\e.born∉s.toList:=by
    have:=B;simp[leftOf]at this;exact⟨by simpa using this.1,by simpa using this.2⟩
   obtain⟨n,k,y,cs,E,O,rfl,T⟩:=u.entry G.1;have q:Mem x.w0 x.H0 x.S own.flatten H C:=by
    rcases t with rfl|rfl
    . exact h.mem
    . exact h.mem.drew
   have r:C.heap[b]? =some (.mapIter (some c) M.length s c0):=by
    rcases t with rfl|rfl
    . exact g
    . exact g
   refine v n k y cs E O G.2 T _ _<|Holds.put (x:=x) (l:=l) ?_ F _;exact⟨h.size,h.ds,h.slots,q.go1 hi<|by simpa[ids]using P1 q.agr r A⟩
theorem ZAM{α:Type}{R:Rep α}(i j:Nat){HF:Heaplet}{p:Operand}{a b n:Nat}{e:Array MapEntry}{M:List (Int×α)}{s:Array Nat}{k:Int}{cs:List Value}
 (h1:evo l p=some (.pointer<|some ⟨a,0,none⟩))(hi:own[i]? =some [(a,.mapIter (some b) M.length (s.push n) M.length)])(o:own[j]? =some [(b,.map e M.length)])(q:MapIs R HF e M)
 (r:e[n]? =some (MapEntry.mk (.int .i64 k) (.agg cs.toArray) n))(t:Nat.blt d x.n=true)
 (h:JL x ops Q rest ((d,.tuple #[.int .i64 k,.agg cs.toArray])::l) own H):JL x ops Q (⟨some d,.entry p,ty,pos,aft,none⟩::rest) l own H:=
 ZA t rfl (λρ w _ _ _ _ c m=>by
  simp only[execOp,c _ _ h1];have f:=m.2 (a,.mapIter (some b) M.length (s.push n) M.length) (Sd.2 ⟨_,Tq hi,by simp⟩);have g:=m.2 (b,.map e M.length) (Sd.2 ⟨_,Tq o,by simp⟩);exact YQ<|run_entry_at w a b M.length s e M.length (MapEntry.mk (.int .i64 k) (.agg cs.toArray) n) f g (Array.mem_toList_iff.2<|Rh r) (by rw[q.bornAt];exact List.nodup_range)) h
def MapOf{α:Type}(HF:Heaplet)(R:Rep α)(B n:Nat)(M:List (Int×α))(K:Own):Prop:=B<=n/\∃e,K= [(n,.map e M.length)]/\MapIs R HF e M
section mapOf
variable{α:Type}{R:Rep α}{HF:Heaplet}{B n:Nat}{M:List (Int×α)}{K:Own}
theorem MapOf.weak{a:Nat}(b:a<=B)(h:MapOf HF R B n M K):MapOf HF R a n M K:=⟨TS b h.1,h.2⟩
theorem MapOf.ge (h:MapOf HF R B n M K):∀p∈K,B<=p.1:=by
 obtain⟨h1,e,rfl,-⟩:=h;intro p a;simp at a;subst a;exact h1
theorem MapOf.base{a:Nat}(h:MapOf HF R B n M K)(b:∀p∈K,a<=p.1):MapOf HF R a n M K:=by
 obtain⟨h1,e,rfl,h2⟩:=h;exact⟨b (n,.map e M.length) (by simp),e,rfl,h2⟩
theorem ZPZ{N:Nat}{S:List Nat}(h:MapOf HF R N n M K)(a:∀i∈S,i<N):∀p∈K,p.1∉S:=λp b c=>by
 have:=h.ge p b;have:=a _ c;omega
theorem MapOf.mono{H2:Heaplet}(h:MapOf HF R B n M K)(b:R.Mono)(a:Hle HF H2):MapOf H2 R B n M K:=by
 obtain⟨h1,e,rfl,h2⟩:=h;exact⟨h1,e,rfl,h2.mono b a⟩
end mapOf
theorem MapOf.old{α:Type}{R:Rep α}{H a:Heaplet}{B n:Nat}{M:List (Int×α)}{K:Own}(h:MapOf (New H a) R B n M K)(b:R.Mono):MapOf a R B n M K:=h.mono b<|New.le H a
theorem ZEc{α:Type}(HF:Heaplet)(R:Rep α){t:TypeId}(a:Nat.blt d x.n=true)
 (h:∀b K,MapOf HF R x.w0.heap.size b [] K->JL x ops Q rest ((d,.map<|some b)::l) (K::own) H):JL x ops Q (⟨some d,.makeMap t none,ty,pos,aft,none⟩::rest) l own H:=
 ZQa a λb hb=>h b _ ⟨hb,_,rfl,MapIs.nil R HF⟩
theorem ZCj{α:Type}{R:Rep α}(i:Nat){HF:Heaplet}{p q s:Operand}{m a b:TypeId}{B n:Nat}{K:Own}{M:List (Int×α)}{k:Int}{cs:List Value}{y:α}
 (c:x.P.underlying m=some (.map a b))(d:x.P.underlying a=some (.int .i64))(h1:evo l p=some (.map<|some n))(h2:evo l q=some (.int .i64 k))(h3:evo l s=some (.agg cs.toArray))
 (hi:own[i]? =some K)(f:MapOf HF R B n M K)(g:R HF cs y)
 (h:∀K',MapOf HF R B n (putM M k y) K'->JL x ops Q rest l (own.set i K') H):
 JL x ops Q (⟨none,.mapUpdate m p q s,ty,pos,aft,none⟩::rest) l own H:=by
 obtain⟨j,t,rfl,o⟩:=f;exact ZOq i c d h1 h2 h3 hi o g λe r=>h _ ⟨j,e,rfl,r⟩
theorem BV{α:Type}{R:Rep α}(i:Nat){HF:Heaplet}{p:Operand}{t k a:TypeId}{B n:Nat}{K:Own}{M:List (Int×α)}(c:x.P.underlying t=some (.map k a))(h1:evo l p=some (.map<|some n))
 (hi:own[i]? =some K)(f:MapOf HF R B n M K)(g:Nat.blt d x.n=true)
 (h:∀b e,K= [(n,.map e M.length)]->MapIs R HF e M->JL x ops Q rest ((d,.pointer<|some ⟨b,0,none⟩)::l) ([(b,.mapIter (some n) M.length #[] M.length)]::own) H):JL x ops Q (⟨some d,.range t p,ty,pos,aft,none⟩::rest) l own H:=by
 obtain⟨m,e,rfl,j⟩:=f;exact ZMK i c h1 hi g λb hb=>h b e rfl j
structure Laid {α β:Type} (f:α->β) (L:List β) (M:List (Int×α)) (S:List Nat) (B:List β):Prop where
  len:B.length=L.length
  laid:∀n k y,n∈S->M[n]? =some (k,y)->B[k.toNat]? =some (f y)
  same:∀j,(∀n k y,n∈S->M[n]? =some (k,y)->k.toNat≠j)->B[j]? =L[j]?
theorem Pn{α a:Type}(f:α->a)(L:List a)(M:List (Int×α)):Laid f L M [] L:=⟨rfl,λn k y h=>by simp at h,λj _=>rfl⟩
theorem ZHD{α:Type}{M:List (Int×α)}(hn:(M.map (·.1)).Nodup){i j:Nat}{k:Int}{y z:α}(h1:M[i]? =some (k,y))(h2:M[j]? =some (k,z)):i=j:=by
 have e1:(M.map (·.1))[i]? =some k:=by simp[h1]
 have e2:(M.map (·.1))[j]? =some k:=by simp[h2]
 exact(List.getElem?_inj (TC.1 e1).1 hn).1<|e1.trans e2.symm
theorem Laid.step{α g:Type}{f:α->g}{L:List g}{M:List (Int×α)}{S:List Nat}{B:List g}(h:Laid f L M S B)(hn:(M.map (·.1)).Nodup)(s:∀p∈M,0<=p.1/\p.1.toNat<L.length)
 {n:Nat}{k:Int}{y:α}(b:M[n]? =some (k,y))(t:List Nat)(i:∀q,q∈t↔q∈S\/q=n):Laid f L M t (B.set k.toNat<|f y):=by
 have u:=s _<|Tq b;refine⟨by simp[h.len],λc d l m a=> ?_,λj v=> ?_⟩
 . rw [T3];split
   . rename_i e;have o:=s _<|Tq a;have:k=d:=(by have:=u.1;have:=o.1;simp only at*;omega);subst this;have:=ZHD hn b a;subst this;rw[b]at a;simp at a;subst a;rw[TJ (by rw[h.len];exact u.2)]
   . rename_i e;rcases(i c).1 m with r|r
     . exact h.laid c d l r a
     . subst r;rw[b]at a;simp at a;exact absurd (by rw[a.1]) e
 . rw[T3,TK<|v n k y ((i n).2<|.inr rfl) b];exact h.same j λc d l h1 h2=>v c d l ((i c).2<|.inl h1) h2
theorem Laid.unique{α b:Type}{f:α->b}{L:List b}{M:List (Int×α)}{S g:List Nat}{B i:List b}(h:Laid f L M S B)(l:Laid f L M g i)(m:∀k,k<M.length->k∈S)(d:∀k,k<M.length->k∈g):B=i:=by
 refine Tl λj=> ?_;by_cases c:∃(n:Nat) (k:Int) (y:α),M[n]? =some (k,y)/\k.toNat=j
 . obtain⟨n,k,y,h1,rfl⟩:=c;have a:=(TC.1 h1).1;rw[h.laid n k y (m n a) h1,l.laid n k y (d n a) h1]
 . rw[h.same j λn k y _ h1 e=>c ⟨n,k,y,h1,e⟩,l.same j λn k y _ h1 e=>c ⟨n,k,y,h1,e⟩]
theorem OM{α a:Type}(f:α->a)(L:List a)(M:List (Int×α))(hn:(M.map (·.1)).Nodup)(c:∀p∈M,0<=p.1/\p.1.toNat<L.length):Laid f L M (List.range M.length) (layM f L M):=by
  have k:∀i,i<=M.length->Laid f L M (List.range i) ((M.take i).foldl (λL p=>L.set p.1.toNat<|f p.2) L):=by
    intro i;induction i with
    |zero=>intro _;simpa using Pn f L M
    | succ i d=>
      intro hi;have h:i<M.length:=hi;have b:M[i]? =some ((M[i]).1,(M[i]).2):=(by rw[TL h]);have:=(d<|by omega).step hn c b (List.range (i+1)) (λq=>by rw[Tx,Tx];omega);rw[List.take_add_one,b,List.foldl_append];exact this
  have:=k M.length<|TF _;rwa[RN]at this
theorem Laid.full{α a:Type}{f:α->a}{L:List a}{M:List (Int×α)}{S:List Nat}{B:List a}(h:Laid f L M S B)(hn:(M.map (·.1)).Nodup)(b:∀p∈M,0<=p.1/\p.1.toNat<L.length)(c:∀k,k<M.length->k∈S):
 B=Go.Ow.layM f L M:=h.unique (OM f L M hn b) c λk d=>by simpa using d
theorem ZED:∀(k:Nat) (l:List Nat),l.Nodup->(∀q∈l,q<k)->l.length<=k
  | 0,l,_,h=>by
    cases l with
    |nil=>simp
    |cons a l=>have:=h a (by simp);omega
  | k + 1,l,hn,h=>by
    by_cases c:k∈l
    . have h1:=ZED k (l.erase k) (hn.erase k) (λq b=>by
        have:=(hn.mem_erase_iff).1 b;have:=h q this.2;omega)
      rw[List.length_erase_of_mem c]at h1;omega
    . have:=ZED k l hn (λq b=>by
        have:=h q b;have:q≠k:=λe=>c (e▸b);omega)
      omega
theorem ZD1{k n:Nat}{l:List Nat}(hn:l.Nodup)(h:∀q∈l,q<k)(b:n<k)(c:n∉l):l.length<k:=by
 have:=ZED k (n::l) (SR.2 ⟨c,hn⟩) (λq a=>by
  rcases Ta.1 a with rfl|a
  . exact b
  . exact h q a)
 rw[Ts]at this;omega
theorem ZPi{a:Type}{B:List a}{k:Int}{v:a}(h:0<=k/\k.toNat<B.length):(chk (0<=k/\k.toNat<B.length)<|setI B k v λm=>some m)=some (B.set k.toNat v):=by
 unfold chk setI;rw[TJ h,TJ h]
theorem ZR2{p q:Operand}{a b:UInt8}{ts:Array TypeId}(h1:evo l p=some (.int .u8 (a.toNat:Int)))(h2:evo l q=some (.int .u8 (b.toNat:Int))):Runs x (.call ⟨.builtin .max,#[p,q],ts⟩) ty l own H (.int .u8 ((maxB a b).toNat:Int)):=λρ w _ _ _ _ c d=>by
 have e3:Array.map ρ #[p,q]= #[.int .u8 (a.toNat:Int),.int .u8 (b.toNat:Int)]:=by simp[c _ _ h1,c _ _ h2]
 have e:((maxB a b).toNat:Int)=if(b.toNat:Int)>(a.toNat:Int)then(b.toNat:Int)else(a.toNat:Int):=by
  unfold maxB;by_cases h:a<b
  . rw[TJ h,TJ (by have:=UInt8.lt_iff_toNat_lt.1 h;omega)]
  . rw[TK h,TK (by have:=mt UInt8.lt_iff_toNat_lt.2 h;omega)]
 rw[e];simp only[execOp,resolve,e3,Sem.run_bind,Sem.run_pure,Result.andThen,invoke,builtin,Builtin.max_,List.foldlM_cons,List.foldlM_nil,Builtin.max2]
end Go.Ow
namespace Go.Ow
open Go.RowKit
variable{x:Cx}{l:Slots}{own:List Own}{H:Heaplet}{ty:TypeId}
theorem ZBi (m:List UInt8):Lib.bytesOf (m.map λb=>(b.toNat:Int))=m:=by
 unfold Lib.bytesOf;rw[RK]
 conv=>rhs;rw[<-List.map_id m]
 refine St λb _=> ?_;simp
theorem ZKv{P:Program}{w:World}{v:Value}{m:List UInt8}(e:Agrees H w)(hs:IsSlice H RU8 1 v m):(Extern.Bytes.bytesOf v).run P w=.ok ⟨m.toArray⟩ w:=by
  obtain⟨ao,cap,rfl,h1,h2,h3,f,g⟩:=hs;cases ao with
  | none=>
    have:m= []:=TT.1 (by have:=f rfl;omega);subst this;rfl
  | some a=>
    have d:=Lib.run_loadBytesX (P:=P) w (m.map λb=>(b.toNat:Int)) a .empty (λj y h=>by
      rw[SN]at h;cases c:m[j]? with
      |none=>rw[c]at h;cases h
      | some b=>
        rw[c]at h;obtain rfl:=TB h;obtain⟨bb,o,cs,e1,-,e3,e4⟩:=g j b c;obtain rfl:=TB e1;obtain rfl:cs= [.int .u8 (b.toNat:Int)]:=e3;have:=e _ _ _<|e4 0 _ rfl;rw[add_lit];simpa using this)
    rw[RV,ZBi]at d;show(Extern.Bytes.loadBytes a m.length .empty).run P w=_;rw[d];simp
theorem ZOM{P:Program}{w:World}{v:Value}{m:List UInt8}{c:UInt8}(f:Agrees H w)(hs:IsSlice H RU8 1 v m):
    (Extern.BytealgCount.count #[v,.int .u8 (c.toNat:Int)]).run P w=.ok (.int .i64 ((cntB m c:Nat):Int)) w:=by
  obtain⟨ao,cap,rfl,h1,h2,h3,g,p⟩:=hs;have hb :(Extern.Bytes.bytesOf<|.slice ao m.length cap).run P w=.ok ⟨m.toArray⟩ w:=by
    cases ao with
    | none=>
      have:m= []:=TT.1 (by have:=g rfl;omega);subst this;rfl
    | some a=>
      have e:=Lib.run_loadBytesX (P:=P) w (m.map λb=>(b.toNat:Int)) a .empty (λj y h=>by
        rw[SN]at h;cases d:m[j]? with
        |none=>rw[d]at h;cases h
        | some b=>
          rw[d]at h;obtain rfl:=TB h;obtain⟨bb,o,cs,e1,-,e3,e4⟩:=p j b d;obtain rfl:=TB e1;obtain rfl:cs= [.int .u8 (b.toNat:Int)]:=e3;have:=f _ _ _<|e4 0 _ rfl;rw[add_lit];simpa using this)
      rw[RV,ZBi]at e;show(Extern.Bytes.loadBytes a m.length .empty).run P w=_;rw[e];simp
  change Sem.run P (do
    let b<-Extern.Bytes.bytesOf (.slice ao m.length cap);let q<-Extern.Bytes.asByte (.int .u8 (c.toNat:Int))
    pure (goInt<|b.foldl (λn x=>if x==q then n+1 else n) (0:Nat))) w=_
  simp only[Sem.run_bind,hb,Extern.Bytes.asByte,Sem.run_pure,Result.andThen];have:(c.toNat:Int).toNat.toUInt8=c:=by simp
  rw[this];congr 1;unfold goInt cntB;congr 1;rw[Lib.foldl_data]
  suffices H:∀(l:List UInt8) (k:Nat),l.foldl (fun(n:Int) x=>if x==c then n+1 else n) (k:Int)=((l.foldl (λn x=>if x==c then n+1 else n) k:Nat):Int)from H m 0
  intro l;induction l with
  |nil=>intro k;rfl
  | cons b l i=>
    intro k;simp only[RH];split
    . exact i (k+1)
    . exact i k
open Go.Lib
theorem ZDV:∀(n t:Nat) (a:Array Value) (l:List UInt8),a.toList=bvs l->∃L:List UInt8,(Extern.BytealgMakeNoZero.digits n t a).toList=bvs L/\L.length=l.length+n
  |0,t,a,l,h=>⟨l,h,rfl⟩
  | n +1,t,a,l,h=>by
    obtain⟨L,h1,h2⟩:=ZDV n (t/256) (a.push<|.int .u8<|Int.ofNat (t%256)) (l++ [UInt8.ofNat t]) (by
      rw[RE,h];simp[bvs,Rp])
    exact⟨L,h1,by rw[h2];simp;omega⟩
theorem ZQ1{P:Program}(w:World)(ps:Array TypeId)(t e:TypeId)(ht:P.underlying t=some (.slice e))(n:Nat)(hn:n<=281474976710656):
    ∃(cs:Array Value) (L:List UInt8),(Extern.BytealgMakeNoZero.makeNoZero ps #[t] #[.int .i64 n]).run P w=.ok (.slice (some ⟨w.heap.size,0,none⟩) n cs.size) (w.drew.drew.alloc<|.cells cs e)/\n<=cs.size/\cs.size<=maxLen/\cs.toList=bvs L/\L.length=cs.size:=by
  have h1:¬(n:Int)<0:=by omega
  have h2:¬(281474976710656:Int)<(n:Int):=by omega
  obtain⟨B,hB⟩:∃B:Nat,(Extern.BytealgMakeNoZero.makeNoZero ps #[t] #[.int .i64 n]).run P w=.ok (.slice (some ⟨w.heap.size,0,none⟩) n<|grownCap w n 0 e) (w.drew.drew.alloc<|.cells (Extern.BytealgMakeNoZero.digits (grownCap w n 0 e) B #[]) e):=by
    obtain⟨q,hf,hdef⟩:∃q:Question,q.forced=false/\Extern.BytealgMakeNoZero.makeNoZero ps #[t] #[.int .i64 n]=
      (do
        let .slice elem <- underlying t | stuck "bytealg.MakeNoZero: slice type expected"
        if (n : Int) < 0 || (n : Int) > 2 ^ 48 then runtimePanic (.error "makeslice: len out of range")
        let cap<-choose (.appendCap (n:Int).toNat 0 elem)
        askRoom cap
        let bytes<-choose q;let a<-newRow elem (Extern.BytealgMakeNoZero.digits cap bytes #[])
        pure (.slice (some a) (n:Int).toNat cap)):=⟨_,rfl,rfl⟩
    refine⟨q.cut<|w.tape (w.drawn+1) q,?_⟩;rw[hdef];have ha:∀a b c,(Question.appendCap a b c).forced=false:=λ_ _ _=>rfl;simp[run_underlying ht,h1,h2,ha,hf,newRow,size_digits,grownCap]
  obtain⟨L,g1,g2⟩:=ZDV (grownCap w n 0 e) B #[] [] rfl;have hs:(Extern.BytealgMakeNoZero.digits (grownCap w n 0 e) B #[]).size=grownCap w n 0 e:=by rw[size_digits];simp
  refine⟨Extern.BytealgMakeNoZero.digits (grownCap w n 0 e) B #[],L,by rw[hs];exact hB,?_,?_,g1,?_⟩
  . rw[hs];exact grownCap_ge w n 0 e
  . rw[hs];exact grownCap_le_maxLen w n 0 e (by unfold maxLen;omega)
  . rw[g2,hs];simp
variable{x:Cx}{ops:Array Oper}{Q:Exit->Act->World->Prop}{rest:List Oper}{l:Slots}{own:List Own}{H HF:Heaplet}
variable{ty:TypeId}{d:Nat}{pos:String}{aft:Array Edge}
theorem ZSE {p : Operand} {f : FuncId} {fn : Func} {t E : TypeId} {N : Nat} {ts : Array TypeId} (hf : x.P.funcs[f]? = some fn) (hname : (fn.name == "runtime.NumGoroutine") = false) (hb : fn.body.isNone = true)
    (hn:Extern.findNext fn=none) (hu:x.P.underlying t=some (.slice E)) (he:Extern.find fn=some (Extern.BytealgMakeNoZero.makeNoZero fn.params #[t])) (h1:evo l p=some (.int .i64 (N:Int))) (hN:N<=LIM) (hd:Nat.blt d x.n=true)
    (h:∀ao cap L K',L.length=N->RowOf HF RU8 x.w0.heap.size E 1 (.slice ao N cap) L K'->JL x ops Q rest ((d,.slice ao N cap)::l) (K'::own) H):
    JL x ops Q (⟨some d,.call ⟨.value<|.func f,#[p],ts⟩,ty,pos,aft,none⟩::rest) l own H:=λa w hh=>by
  simp only[wpLs,ZO,if_true];refine⟨λ_ _=>trivial,?_⟩;obtain⟨cs,L,g1,g2,g3,g4,g5⟩:=ZQ1 (P:=x.P) w fn.params t E hu N (by simp only[LIM]at hN;omega);have hrun:(execOp a.eval ⟨some d,.call ⟨.value<|.func f,#[p],ts⟩,ty,pos,aft,none⟩).run x.P w=.ok (.value<|.slice (some ⟨w.heap.size,0,none⟩) N cs.size) (w.drew.drew.alloc<|.cells cs E):=by
    have e3:Array.map a.eval #[p]= #[.int .i64 (N:Int)]:=(by simp[ZM hh h1]);have e1:a.eval (.func f)=.func (.func f) #[] #[]:=ZM hh (o:=.func f) rfl;simp only[execOp,resolve,e1,e3,Deferred.ofValue,Sem.run_bind,Sem.run_pure,Result.andThen,invoke];have:=run_callFunc_extern hf hname hb hn he #[.int .i64 (N:Int)] w;rw[g1]at this;simpa[Result.andThen]using this
  rw[ZV rfl,hrun];have hm2:Mem x.w0 x.H0 x.S own.flatten H w.drew.drew:=hh.mem.drew.drew;refine h (some ⟨w.heap.size,0,none⟩) cs.size (L.take N) [(w.heap.size,.cells cs E (0,0))] (by rw[TH];omega)
    ⟨bvs<|L.take N,⟨by simp[bvs],.inr ⟨w.heap.size,cs.size,cs,by rw[TH,Tr<|by omega],rfl,hh.mem.kept.size,by rw[TH];omega,g3,by simp,?_⟩⟩,Flat.bytes _,(Flat.bytes (H:=H) _).one' RU8.one⟩ _ _ (Holds.put (x:=x) (l:=l) ?_ hd _)
  . rw[g4];simp[bvs,List.map_take]
  . exact⟨hh.size,hh.ds,hh.slots,by simpa using hm2.go0 (K':=[[(w.heap.size,.cells cs E (0,0))]]) (by simpa using Mem.alloc hm2.agr (.cells cs E (0,0)))⟩
theorem ZNB{α:Type}{R:Rep α}{B size:Nat}{E:TypeId}{v:Value}{m m':List α}{K:Own}{b:Int}(h:RowOf HF R B E size v m K)(j:m'=cut m 0 b)(a:(0:Int)<=0/\0<=b/\b<=m.length):
 ∃v' cap e,(∃ao,v=.slice ao m.length cap/\b<=cap/\v'=sliced ao (0:Int).toNat b.toNat b.toNat size)/\v'=.slice e m'.length m'.length/\RowOf HF R B E size v' m' K:=by
 have l:=RowOf.pre h j a;have f:m'.length=b.toNat:=by subst j;simp only[cut,TH,Td];omega
 obtain⟨cl,⟨-,q⟩,-,-⟩:=h;rcases q with⟨d,n,rfl⟩|⟨g,c,cur,d,rfl,o,u,w,p,x⟩
 . have hb:b=0:=(by have:=a.2.2;omega);have i:m'= []:=TT.1 (by rw[f,hb];rfl);subst hb i;exact⟨_,0,none,⟨none,by rw[d,n],SA _,rfl⟩,by simp[sliced],by
    have:sliced (none:Option Addr) (0:Int).toNat (0:Int).toNat (0:Int).toNat size=.slice none 0 0:=(by simp[sliced]);rw[this];exact RowOf.nil _ _ _ _ _⟩
 . have e3:∀c:Nat,sliced (some (⟨g,0,none⟩:Addr)) (0:Int).toNat b.toNat c size=.slice (some ⟨g,0,none⟩) b.toNat c:=λc=>(by simp[sliced]);obtain⟨y,cap,-,-,⟨ao,e1,-,e2⟩,cells,⟨h0,h1⟩,r,s⟩:=l;rw[d]at e1;simp only[Value.slice.injEq]at e1;obtain⟨rfl,-,rfl⟩:=e1;refine⟨_,c,some ⟨g,0,none⟩,⟨_,d,by have:=a.2.2;omega,rfl⟩,by rw[e3,f],cells,⟨h0,.inr ⟨g,b.toNat,cur,by rw[e3,f],rfl,o,by omega,by have:=a.2.2;omega,TS (TN _ (by have:=a.2.2;omega)) p,?_⟩⟩,r,s⟩;rcases h1 with⟨h1,-⟩|⟨z,A,k,h1,h2,-,-,-,-,t⟩
   . rw[e2,e3]at h1;cases h1
   . simp only[SS,Si,Obj.cells.injEq]at h2;obtain⟨⟨-,rfl,-⟩,-⟩:=h2;exact t
end Go.Ow
namespace Go.Ow
open Go.RowKit
variable{x:Cx}{ops:Array Oper}{Q:Exit->Act->World->Prop}{rest:List Oper}{l:Slots}{own:List Own}{H HF:Heaplet}
variable{ty:TypeId}{d:Nat}{pos:String}{aft:Array Edge}
def IX{a b:Type}(I:a->Own->Heaplet->Prop)(X:b->Own->Heaplet->Prop)(r:a ⊕ b)(O:Own)(H:Heaplet):Prop:=
 ∃H1,Hle H1 H/\(match r with| .inl s=>I s O H1| .inr t=>X t O H1)
theorem IX.mono{b c:Type}{I:b->Own->Heaplet->Prop}{X:c->Own->Heaplet->Prop}{r:b ⊕ c}{O:Own}{H d:Heaplet}(h:IX I X r O H)(a:Hle H d):IX I X r O d:=by
 obtain⟨H1,h1,h2⟩:=h;exact⟨H1,h1.trans a,h2⟩
def YSpecG{α a b:Type}(P:Program)(l:Nat)(RA:Heaplet->Array Value->α->Prop)(Y:α->a->Option (a ⊕ b))(I:a->Own->Heaplet->Prop)(X:b->Own->Heaplet->Prop):Prop:=
  ∀ y s args O H w o,IX I X (.inl s) O H->RA H args y->Y y s=some o->Agrees H w->OwnOk H O w->
    Yields P l args w λe f=>∃c d,e=.returned (.bool o.isLeft)/\Mem w H (ids O) c d f/\IX I X o c d
theorem Gg{α p B:Type}{RA:Heaplet->Array Value->α->Prop}{Y:α->p->Option (p ⊕ B)}{I:p->Own->Heaplet->Prop}{X:B->Own->Heaplet->Prop}{A:Nat}{c:Operand}{as:Array Operand}{ts:Array TypeId}{vs:List Value}{O:Own}{s:p}(i:Nat)(y:α)
 {b:p ⊕ B}(hb:Y y s=some b)(F:YSpecG x.P A RA Y I X)(G:evo l c=some (.func (.yield A) #[] #[]))(J:as.toList.mapM (evo l)=some vs)(hi:own[i]? =some O)(hI:IX I X (.inl s) O H)(K:RA H vs.toArray y)(E:Nat.blt d x.n=true)
 (L:∀s' g f,Hle H f->IX I X (.inl s') g f->b=.inl s'->JL x ops Q rest ((d,.bool true)::l) (own.set i g) f)
 (M:∀t g f,Hle H f->IX I X (.inr t) g f->b=.inr t->JL x ops Q rest ((d,.bool false)::l) (own.set i g) f):
 JL x ops Q (⟨some d,.call ⟨.value c,as,ts⟩,ty,pos,aft,none⟩::rest) l own H:=λa w h=>by
 simp only[wpLs,ZO,if_true];refine⟨λ_ _=>trivial,?_⟩;have C:=h.mem;have D:OwnOk H O w:=Zm C hi;obtain⟨fn,tmps,assign,body,k,j⟩:=F y s vs.toArray O H w b hI K hb C.agr D;have q:(execOp a.eval ⟨some d,.call ⟨.value c,as,ts⟩,ty,pos,aft,none⟩).run x.P w=.ok (.round A fn tmps assign body) w:=by
  have e1:=ZM h G;have e2:=UE (λo u e=>ZM h e) J;simp only[execOp,resolve,e1,e2,Deferred.ofValue,Sem.run_bind,Sem.run_pure,Result.andThen,invoke];simpa using k
 rw[ZV rfl,q];show(_->_)/\RoundIn _ _ _ _ _ _ _ _ _ _;refine⟨λe=>by simp[Fw]at e,?_⟩;refine RoundIn.mono (show RoundIn (Fw x.r) (0-1) x.P A fn tmps assign body w _ from j) ?_;rintro e N ⟨g,f,rfl,m,v⟩;have z:Mem x.w0 x.H0 x.S (own.set i g).flatten f N:=C.go1 hi m;cases b with
 |inl s'=>exact L s' g f m.le v rfl _ _ (Holds.put (x:=x) (l:=l) ⟨h.size,h.ds,h.slots,z⟩ E _)
 |inr t=>exact M t g f m.le v rfl _ _<|Holds.put (x:=x) (l:=l) ⟨h.size,h.ds,h.slots,z⟩ E _
variable{x:Cx}{ops:Array Oper}{Q:Exit->Act->World->Prop}{rest:List Oper}{l:Slots}{own:List Own}{H HF:Heaplet}
variable{ty:TypeId}{d:Nat}{pos:String}{aft:Array Edge}{p q:Operand}
theorem ZSN{c:Code}{l':Slots}{own':List Own}(a:Sub l' l)(b:own'=own)(h:JC x c Q l' own' H):JC x c Q l own H:=by
 subst b;exact JC.sub a h
theorem ZQh{c:Code}{l':Slots}{own' rst:List Own}(d:Sub l' l)(e:own.flatten.Perm (own'.flatten++rst.flatten))(h:JC x c Q l' own' H):JC x c Q l own H:=λa w f=>by
 have b:=f.sub d;exact h a w ⟨b.size,b.ds,b.slots,(b.mem.perm e).sub<|Sv _ _⟩
variable{x:Cx}{ops:Array Oper}{Q:Exit->Act->World->Prop}{rest:List Oper}{l:Slots}{own:List Own}{H HF:Heaplet}
variable{ty:TypeId}{d:Nat}{pos:String}{aft:Array Edge}{p q:Operand}{t:TypeId}
def Spare (v:Value)(K:Own)(N:Nat):Prop:=∃g n cur E,v=.slice (some ⟨g,0,none⟩) n N/\K= [(g,Obj.cells cur E (0,0))]/\n<=N/\N<=cur.size/\(cur.toList.drop n).take (N-n)=List.replicate (N-n) (.int .u8 0)
theorem ZTi{E:TypeId}{N:Nat}{m o:IntKind}(v:x.P.underlying t=some (.slice E))(y:eInfo x.P E=some (.int .u8 0,1,1))(h1:evo l p=some (.int m 0))(h2:evo l q=some (.int o (N:Int)))
 (r:N<=LIM)(z:Nat.blt d x.n=true)
 (h:∀v' K',RowOf HF RU8 x.w0.heap.size E 1 v' [] K'->Spare v' K' N->JL x ops Q rest ((d,v')::l) (K'::own) H):JL x ops Q (⟨some d,.makeSlice t p q,ty,pos,aft,none⟩::rest) l own H:=λa w c=>by
 simp only[wpLs,ZO,if_true];refine⟨λ_ _=>trivial,?_⟩;obtain⟨i,hi,A,j,k,B,s⟩:=Zn y;have u:=QO r;have C:N<=1099511627776:=r;have e:=run_make (P:=x.P) w t E i (.int .u8 0) v hi A m o 0 N (by omega) (by omega) (by rw[k];omega) (by simp only[maxLen]at u;omega);simp only[T4,Rt]at e;have e1:=ZM c h1;have e2:=ZM c h2;generalize a.eval=ρ at e1 e2;have f:(execOp ρ ⟨some d,.makeSlice t p q,ty,pos,aft,none⟩).run x.P w=.ok (.value<|.slice (some ⟨w.heap.size,0,none⟩) 0 N) (w.alloc<|.cells (madeCells (Value.int .u8 0).cells (N*i.size)) E):=by
  simp only[execOp,e1,e2];exact YQ e
 rw[ZV rfl,f];have g:(madeCells (Value.int .u8 0).cells (N*i.size)).toList=List.replicate N (.int .u8 0):=by
  have:=Yu (Value.int .u8 0).cells N (by decide);rw[j];simpa[Value.cells]using this
 have b:(madeCells (Value.int .u8 0).cells (N*i.size)).size=N:=by rw[<-TM,g,SG]
 refine h _ [(w.heap.size,.cells (madeCells (Value.int .u8 0).cells (N*i.size)) E (0,0))]
  ⟨[],⟨by simp,.inr ⟨w.heap.size,N,_,rfl,rfl,c.mem.kept.size,by simp,u,by rw[b];omega,by simp⟩⟩,rfl,λ_ h=>by cases h⟩
  ⟨w.heap.size,0,_,E,rfl,rfl,by omega,by rw[b];exact TF _,by rw[g];simp⟩ _ _ (Holds.put (x:=x) (l:=l) ?_ z _)
 exact⟨c.size,c.ds,c.slots,by simpa using c.mem.go0 (K':=[[(w.heap.size,.cells (madeCells (Value.int .u8 0).cells (N*i.size)) E (0,0))]]) (by simpa using Mem.alloc c.mem.agr (.cells (madeCells (Value.int .u8 0).cells (N*i.size)) E (0,0)))⟩
theorem PV{H:Heaplet}:∀{l:List UInt8} {cells:List Value},Flat H RU8 1 cells l->cells=bvs l
  |[],cells,h=>h
  | b::l,cells,h=>by
    obtain⟨cs,m,rfl,h1,h2,h3⟩:=h;rw[PV h3,show cs= [.int .u8 (b.toNat:Int)]from h2];rfl
theorem ZMA{B:Nat}{E:TypeId}{v:Value}{m m':List UInt8}{K:Own}{N:Nat}{b:Int}(h:RowOf HF RU8 B E 1 v m K)(hs:Spare v K N)(c:m'=m++List.replicate (b.toNat-m.length) 0)(hb:(m.length:Int)<=b/\b<=N):
 ∃d,v=.slice (some ⟨d,0,none⟩) m.length N/\RowOf HF RU8 B E 1 (.slice (some ⟨d,0,none⟩) b.toNat N) m' K:=by
 obtain⟨g,n,cur,l,rfl,rfl,h1,h2,h3⟩:=hs;obtain⟨cells,⟨h0,i⟩,j,o⟩:=h;rcases i with⟨e,-⟩|⟨p,cap,f,e1,e2,e3,e4,e5,e6,e7⟩
 . cases e
 simp only[Value.slice.injEq,SE,Addr.mk.injEq]at e1;obtain⟨⟨rfl,-,-⟩,rfl,rfl⟩:=e1;simp only[SS,Si,Obj.cells.injEq,and_true,Rj]at e2;obtain⟨rfl,rfl⟩:=e2;have a:m'.length=b.toNat:=by rw[c,TG,SG];omega
 refine⟨_,rfl,bvs m',⟨by rw[a];simp[bvs,a],.inr ⟨g,N,cur,by rw[a],rfl,e3,by rw[a];omega,e5,by omega,?_⟩⟩,Flat.bytes m',(Flat.bytes (H:=HF) m').one' RU8.one⟩;rw[a,SY];have k:cells=bvs m:=PV j;have e:cur.toList.take b.toNat=cur.toList.take m.length++((cur.toList.drop m.length).take (b.toNat-m.length)):=by
  conv=>lhs;rw[show b.toNat=m.length+(b.toNat-m.length) by omega,List.take_add]
 have e8:(cur.toList.drop m.length).take (b.toNat-m.length)=List.replicate (b.toNat-m.length) (.int .u8 0):=by
  have:=congrArg (List.take (b.toNat-m.length)) h3;rw[SU,Tr (by omega),List.take_replicate,Tr<|by omega]at this;exact this
 rw[SY]at e7;rw[e,e8,e7,k,c];simp[bvs]
theorem ZKJ{P:Program}{w:World}{H:Heaplet}{t p ty E:TypeId}(D:P.underlying t=some (.slice E))(O:eInfo P E=some (.int .u8 0,1,1))
 {B N:Nat}{v y:Value}{ls m:List UInt8}{K:Own}(F:Agrees H w)(s:OwnOk H K w)(q:RowOf HF RU8 B E 1 v ls K)(a:Spare v K N)(hs:Src P 1 p y m.length (bvs m) w)(u:ls.length+m.length<=N):
 ∃v' K' G,(Builtin.append_ #[t,p] ty #[v,y]).run P w=.ok v' G/\RowOf HF RU8 B E 1 v' (ls++m) K'/\Spare v' K' N/\Mem w H (ids K) K' H G:=by
 obtain⟨i,hi,V,d,Q,R,I⟩:=Zn O;by_cases x:m.length=0
 . have hn:m= []:=TT.1 x;subst hn;refine⟨v,K,w,?_,by simpa using q,a,Mem.same F s⟩;obtain⟨g,n,cur,b,rfl,-,h1,-⟩:=a;rw[<-d]at hs;exact run_append_nothing w t p ty E i D hi _ n N h1 y hs
 . obtain⟨g,n,cur,b,rfl,rfl,h1,h2,h3⟩:=a;obtain⟨cells,⟨h0,q⟩,S,W⟩:=q;rcases q with⟨e,-⟩|⟨X,cap,J,e1,e2,e3,e4,e5,e6,e7⟩
   . cases e
   simp only[Value.slice.injEq,SE,Addr.mk.injEq]at e1;obtain⟨⟨rfl,-,-⟩,rfl,rfl⟩:=e1;simp only[SS,Si,Obj.cells.injEq,and_true,Rj]at e2;obtain⟨rfl,rfl⟩:=e2;have L:w.heap[g]? =some (.cells cur b (0,0)):=s.here (g,.cells cur b (0,0)) (by simp);have f:(bvs m).length=m.length:=Zr m;have c:=run_storeCells_at P g ls.length b (bvs m) 0 cur w L (by omega) hs.one;simp only[SI]at c;obtain⟨C,r⟩:∃C,C=(cur.toList.take ls.length++bvs m++cur.toList.drop (ls.length+(bvs m).length)).toArray:=⟨_,rfl⟩;rw[<-r]at c;have h:=hs.cells;have j:(Builtin.append_ #[t,p] ty #[.slice (some ⟨g,0,none⟩) ls.length N,y]).run P w=.ok (.slice (some ⟨g,0,none⟩) (ls.length+m.length) N) (w.setRow g C):=by
    rcases hs.kind with⟨Y,k⟩|k<;>simp[Builtin.append_,run_underlying D,run_underlying k,sizeOf,typeInfo,hi,d,hs.len,u,h,Addr.add_lit,c]
   have z:cur.toList.length=cur.size:=(by simp);have l:C.toList.length=cur.size:=(by rw[r];simp only[Tf,TG,TH,Td,z,f];omega);have T:cells=bvs ls:=PV S;rw[SY,T]at e7;have A:C.toList.take (ls.length+m.length)=bvs (ls++m):=by
    rw[r,Tf,e7,show ls.length+m.length=(bvs ls++bvs m).length by simp[Zr],T6,Vq]
   refine⟨_,[(g,.cells C b (0,0))],_,j,⟨bvs (ls++m),⟨by simp[Zr],.inr ⟨g,N,C,by rw[TG],rfl,e3,by rw[TG];exact u,e5,by rw[<-TM,l];omega,by rw[SY,TG];exact A⟩⟩,Flat.bytes _,(Flat.bytes (H:=HF) _).one' RU8.one⟩,
    ⟨g,_,C,b,rfl,rfl,u,by rw[<-TM,l];exact h2,?_⟩,by simpa[ids]using Mem.setRow F L (λo=>s.apart (g,.cells cur b (0,0)) (by simp) o) _⟩
   rw[r,Tf,e7,f];have U:(bvs ls++bvs m++cur.toList.drop (ls.length+m.length)).drop (ls.length+m.length)=cur.toList.drop (ls.length+m.length):=by
    rw[show ls.length+m.length=(bvs ls++bvs m).length by simp[Zr],RP]
   rw[U];have M:=congrArg (List.drop m.length) h3;rw[List.drop_take,S2,List.drop_replicate]at M;rw[show N-(ls.length+m.length)=N-ls.length-m.length by omega];exact M
theorem ZSJ (i:Nat){f E:TypeId}{y v:Value}{B N:Nat}{ls m C:List UInt8}{K:Own}(F:x.P.underlying t=some (.slice E))(G:eInfo x.P E=some (.int .u8 0,1,1))
 (h1:evo l p=some v)(hi:own[i]? =some K)(I:RowOf HF RU8 B E 1 v ls K)(o:Spare v K N)(h2:evo l q=some y)(hs:SrcF x H HF own RU8 1 f y m)
 (s:C=ls++m)(J:ls.length+m.length<=N)(L:Nat.blt d x.n=true)
 (h:∀v' K',RowOf HF RU8 B E 1 v' C K'->Spare v' K' N->JL x ops Q rest ((d,v')::l) (own.set i K') H):
 JL x ops Q (⟨some d,.call ⟨.builtin .append,#[p,q],#[t,f]⟩,ty,pos,aft,none⟩::rest) l own H:=λa w b=>by
 subst s;simp only[wpLs,ZO,if_true];refine⟨λ_ _=>trivial,?_⟩;obtain⟨D,u,z,g⟩:=hs;obtain rfl:=PV u;obtain⟨v',K',M,j,c,k,O⟩:=ZKJ (ty:=ty) F G b.mem.agr (Zm b.mem hi) I o (g w b.mem) J;have e:(execOp a.eval ⟨some d,.call ⟨.builtin .append,#[p,q],#[t,f]⟩,ty,pos,aft,none⟩).run x.P w=.ok (.value v') M:=by
  have e1:=ZM b h1;have e2:=ZM b h2;have:(execOp a.eval ⟨some d,.call ⟨.builtin .append,#[p,q],#[t,f]⟩,ty,pos,aft,none⟩).run x.P w=((Builtin.append_ #[t,f] ty #[v,y]).run x.P w).andThen (λr A=>.ok (.value r) A):=by
   generalize a.eval=ρ at e1 e2;have e3:Array.map ρ #[p,q]= #[v,y]:=(by simp[e1,e2]);simp only[execOp,resolve,e3,Sem.run_bind,Sem.run_pure,Result.andThen,invoke,builtin]
  rw[this,j];rfl
 rw[ZV rfl,e];exact h v' K' c k _ _<|Holds.put (x:=x) (l:=l) ⟨b.size,b.ds,b.slots,b.mem.go1 hi O⟩ L v'
theorem ZTK{N n c:Nat}{e:TypeId}{g:Bool}{b:Int}{hi:Operand}{v:Value}(f:x.P.underlying t=some (.slice e))(hs:ZE x.P e=some (g,1))(h0:evo l p=some v)(h2:∃k,evo l hi=some (.int k b))(hb:0<=b/\b<=N)
 (i:v=.slice (some ⟨c,0,none⟩) n N):Runs x (.slice t p none (some hi) none) ty l own H (.slice (some ⟨c,0,none⟩) b.toNat N):=by
 subst i;have d:sliced (some (⟨c,0,none⟩:Addr)) 0 b.toNat N 1=.slice (some ⟨c,0,none⟩) b.toNat N:=by simp[sliced]
 exact λρ w _ _ _ _ a j=>by
  simp only[execOp,a _ _ h0];rw[<-d];refine YQ (ZNV f hs ρ a none (some hi) none 0 b.toNat N rfl ?_ rfl (by omega) (by omega) (TF _) (.inl rfl) w);obtain⟨k,h⟩:=h2;exact⟨k,_,h,by omega⟩
variable{x:Cx}{ops:Array Oper}{Q:Exit->Act->World->Prop}{rest:List Oper}{l:Slots}{own:List Own}{H HF:Heaplet}
variable{ty:TypeId}{d:Nat}{pos:String}{aft:Array Edge}{p q:Operand}{t u:TypeId}
theorem ZSb{N e n c:Nat}{ao:Option Addr}(a:x.P.underlying t=some (.array N e))(h1:evo l p=some (.slice ao n c))(hn:N<=n):Runs x (.sliceToArrayPointer t p) ty l own H (.pointer ao):=λρ w _ _ _ _ h b=>by
 simp only[execOp,h _ _ h1];refine YQ ?_;simp only[Instr.arrayAt,Sem.run_bind,run_underlying a,Result.andThen,TK (show¬n<N by omega),Sem.run_pure]
theorem ZTN{N e n c:Nat}{ao:Option Addr}(h:x.P.underlying t=some (.array N e))(h1:evo l p=some (.slice ao n c))(hn:Nat.ble N n=true):Runs x (.sliceToArrayPointer t p) ty l own H (.pointer ao):=ZSb h h1<|TI hn
theorem ZTO{N e n c b o:Nat}{ao:Option Addr}(h:x.P.underlying t=some (.array N e))(h1:evo l p=some (.slice ao n c))(hn:N<=n)(a:ao=some ⟨b,o,none⟩):Runs x (.sliceToArrayPointer t p) ty l own H (.pointer<|some ⟨b,o,none⟩):=by
 subst a;exact ZSb h h1 hn
theorem ZNr{m:List UInt8}{i:Nat}(h:i<m.length):(bvs m)[i]? =some (.int .u8 (m[i].toNat:Int)):=by
 unfold bvs;rw[SN,TL h];rfl
theorem U7{P:Program}{w:World}{dd e:Nat}(c:P.underlying e=some (.int .u8))(hs:ZE P e=some (false,1))(b:P.cellsOf e=1)(as bs:List UInt8)(f:bs.length=as.length):
    ∀(n k:Nat),k+n=as.length->(Op.eqItems (dd+1) e (P.cellsOf e) (bvs as).toArray (bvs bs).toArray<|List.range' k n).run P w=.ok (decide<|as.drop k=bs.drop k) w
  | 0,k,h=>by
    rw[T2 (by omega),T2<|by omega];simp[Op.eqItems]
  | n + 1,k,h=>by
    have d:k<as.length:=(by omega);have hb:k<bs.length:=(by omega);have h1:=ZAR (P:=P) (cs:=(bvs as).toArray) (off:=k) hs (by simpa using ZNr d) w;have h2:=ZAR (P:=P) (cs:=(bvs bs).toArray) (off:=k) hs (by simpa using ZNr hb) w;have h3:=run_equalIn_int w dd e .u8 .u8 (as[k].toNat:Int) (bs[k].toNat:Int) c;have i:=U7 (w:=w) (dd:=dd) c hs b as bs f n (k+1) (by omega);rw[S1];simp only[Op.eqItems,Sem.run_bind,b,SY,h1,h2,h3,Result.andThen];rw[b]at i;rw[Ss d,Ss hb];by_cases a:as[k]=bs[k]
    . have:((as[k].toNat:Int)==(bs[k].toNat:Int))=true:=(by rw[a];simp);rw[this];simp only[Bool.not_true,Rf,if_false,i,a,SS,Rj]
    . have:((as[k].toNat:Int)==(bs[k].toNat:Int))=false:=by
        rw[beq_eq_false_iff_ne];intro e;exact a<|Rr.1<|by omega
      simp only[this,Bool.not_false,if_true,Sem.run_pure,SS,a,false_and,decide_false]
theorem U6{P:Program}{w:World}{dd t e n:Nat}(ht:P.underlying t=some (.array n e))(h:P.underlying e=some (.int .u8))(hs:ZE P e=some (false,1))(a:P.cellsOf e=1)(as bs:List UInt8)(b:as.length=n)(hb:bs.length=n):
 (Op.equalIn (dd+2) t (.agg (bvs as).toArray)<|.agg (bvs bs).toArray).run P w=.ok (decide (as=bs)) w:=by
 have hi:∃i,P.info? e=some i:=by
  unfold ZE at hs;split at hs
  . rename_i d i h1 h2;exact⟨i,h2⟩
  . cases hs
 obtain⟨i,hi⟩:=hi;rw[run_equalIn_array w (dd+1) (bvs as).toArray (bvs bs).toArray ht hi,List.range_eq_range',U7 h hs a as bs (by omega) n 0<|by omega];rfl
theorem ZQT{n e:Nat}(as bs:List UInt8){xs ys:Array Value}(ht:x.P.underlying t=some (.array n e))(a:x.P.underlying e=some (.int .u8))(hs:ZE x.P e=some (false,1))(b:x.P.cellsOf e=1)(c:x.P.eqGuardType x.P.depth t=false)
 (h1:evo l p=some (.agg xs))(h2:evo l q=some (.agg ys))(d:(bvs as).toArray=xs)(f:(bvs bs).toArray=ys)(g:as.length=n)(hb:bs.length=n):Runs x (.binOp .neq t p q u) ty l own H (.bool<|!decide (as=bs)):=λρ w _ _ _ _ h i=>by
 subst d;subst f;simp only[execOp,h _ _ h1,h _ _ h2];refine YQ ?_;rw[Sem.run_bind,run_eqGuard_agg w .neq t p q _ _ c];simp only[Result.andThen,run_neq_struct,U6 (dd:=9998) ht a hs b as bs g hb]
theorem ZQX{n e:Nat}(as bs:List UInt8){xs ys:Array Value}(ht:x.P.underlying t=some (.array n e))(a:x.P.underlying e=some (.int .u8))(hs:ZE x.P e=some (false,1))(b:x.P.cellsOf e=1)(c:x.P.eqGuardType x.P.depth t=false)
 (h1:evo l p=some (.agg xs))(h2:evo l q=some (.agg ys))(d:(bvs as).toArray=xs)(f:(bvs bs).toArray=ys)(g:as.length=n)(hb:bs.length=n):Runs x (.binOp .eql t p q u) ty l own H (.bool<|decide (as=bs)):=λρ w _ _ _ _ h i=>by
 subst d;subst f;simp only[execOp,h _ _ h1,h _ _ h2];refine YQ ?_;rw[Sem.run_bind,run_eqGuard_agg w .eql t p q _ _ c];simp only[Result.andThen,run_eql_struct,U6 (dd:=9998) ht a hs b as bs g hb]
theorem ZKK{P:Program}{w:World}{H:Heaplet}{t k ty E:TypeId}{kn:IntKind}{z:Value}{size bytes:Nat}(I:P.underlying t=some (.slice E))(l:P.underlying k=some (.int kn))(J:eInfo P E=some (z,size,bytes))
 {n N:Nat}{base:Option Addr}{cells:List Value}(K:Agrees H w)(h0:cells.length=n*size)(g:(Builtin.firstCells size n<|.slice base n n).run P w.drew=.ok cells.toArray w.drew)(O:0<N)
 (m:n+N<=LIM)(p:Nat.ble bytes 128=true){B:Nat}(L:B<=w.heap.size):
 ∃v' K' D,(Builtin.append_ #[t,k] ty #[.slice base n n,.int .i64 (N:Int)]).run P w=.ok v' D/\Row B E size v' (cells++(List.replicate N z.cells.toList).flatten) (n+N) K'/\Mem w H [] K' H D:=by
 obtain⟨i,hi,M,q,r,f,a⟩:=Zn J;subst q;subst r
 have s:((List.replicate N z.cells.toList).flatten).length=N*i.size:=by simp[f]
 have c:(cells++(List.replicate N z.cells.toList).flatten).length=(n+N)*i.size:=by rw[TG,h0,s,TU]
 have j:=XY m p;have F:N*i.bytes<=140737488355328:=TS (TN _<|by omega) j;have G:¬(281474976710656<(N:Int)*(i.bytes:Int)):=by rw[<-S6];omega
 have u:(Builtin.zeroCells z.cells N).toList=(List.replicate N z.cells.toList).flatten:=by
  have:=Yu z.cells N (by rw[f];exact a);rw[<-this];simp[Builtin.zeroCells,madeCells]
 have d:=Lib.run_append_grow_zeros (P:=P) w t k ty E i z .i64 kn I l hi M base n n cells g N (by omega) a (by omega) (by unfold LIM at m;omega) (by omega) (growslice_fits (by omega) j);have x:=grownCap_ge w (n+N) n E;have y:grownCap w (n+N) n E<=maxLen:=grownCap_le_maxLen w (n+N) n E<|QO m;obtain⟨C,A⟩:∃C,C=cells.toArray++Builtin.zeroCells z.cells N++Builtin.zeroCells z.cells (grownCap w (n+N) n E-(n+N)):=⟨_,rfl⟩;rw[<-A]at d;refine⟨_,[(w.heap.size,.cells C E (0,0))],_,d,⟨c,.inr ⟨w.heap.size,_,C,rfl,rfl,L,x,y,?_,?_⟩⟩,?_⟩
 . rw[A];simp only[RX,Tm,size_zeroCells,f,h0,<-TU];refine TN _ ?_;omega
 . rw[A];simp only[S4,TE,Tf,u];rw[<-TE,<-c];exact T6
 . have h:=Mem.alloc (w:=w.drew) (H:=H) (λb o v e=>K b o v e) (.cells C E (0,0));exact⟨h.agr,h.ok,⟨h.kept.os,h.kept.tape,h.kept.output,h.kept.size,TS (RJ _) h.kept.drawn,h.kept.block⟩,h.fresh,h.le,h.grow,h.soft⟩
theorem ZQg{α:Type}{R:Rep α}{k E:TypeId}{z:Value}{size bytes n N:Nat}{kn:IntKind}{ao:Option Addr}{y:α}{ls S:List α}{H1:Heaplet}(D:x.P.underlying t=some (.slice E))(F:x.P.underlying k=some (.int kn))(T:eInfo x.P E=some (z,size,bytes))
 (h1:evo l p=some (.slice ao n n))(m:R.One)(G:Hle H1 H)(hs:IsSlice H1 R size (.slice ao n n) ls)(W:∀cs y,R H1 cs y->R HF cs y)(h2:evo l q=some (.int .i64 (N:Int)))(X:∀H,R H z.cells.toList y)(I:Nat.blt 0 N=true)
 (J:S=ls++List.replicate N y)(Y:ls.length+N<=LIM)(hb:Nat.ble bytes 128=true)(Z:Nat.blt d x.n=true)
 (h:∀v' K',RowOf HF R x.w0.heap.size E size v' S K'->JL x ops Q rest ((d,v')::l) (K'::own) H):
 JL x ops Q (⟨some d,.call ⟨.builtin .append,#[p,q],#[t,k]⟩,ty,pos,aft,none⟩::rest) l own H:=λa w c=>by
 subst J;have I:0<N:=by simpa using I
 simp only[wpLs,ZO,if_true];refine⟨λ_ _=>trivial,?_⟩;obtain⟨cells,s,ao',U,ev,K⟩:=hs.cells;simp only[Value.slice.injEq]at ev;obtain⟨rfl,rfl,-⟩:=ev;have e:cells.length=ls.length*size:=s.length;have v:(Builtin.firstCells size ls.length<|.slice ao ls.length ls.length).run x.P w.drew=.ok cells.toArray w.drew:=by
  rcases K with rfl|⟨b,o,rfl,K⟩
  . simp only[Flat]at s;subst s;cases ao with
    |none=>simp[Builtin.firstCells,go_sem]
    |some a=>exact run_firstCells_some (P:=x.P) w.drew size 0 a 0 0 [] (by simp) λj u h=>by simp at h
  . exact run_firstCells_some (P:=x.P) w.drew size ls.length ⟨b,o,none⟩ ls.length ls.length cells e (λj u h=>by
     rw[add_lit];exact c.mem.agr _ _ _<|G _ _ _<|K j u h)
 obtain⟨v',K',w',A,f,B⟩:=ZKK (ty:=ty) D F T c.mem.agr e v I Y hb c.mem.kept.size;have g:(execOp a.eval ⟨some d,.call ⟨.builtin .append,#[p,q],#[t,k]⟩,ty,pos,aft,none⟩).run x.P w=.ok (.value v') w':=by
  have e1:=ZM c h1;have e2:=ZM c h2;have:(execOp a.eval ⟨some d,.call ⟨.builtin .append,#[p,q],#[t,k]⟩,ty,pos,aft,none⟩).run x.P w=((Builtin.append_ #[t,k] ty #[.slice ao ls.length ls.length,.int .i64 (N:Int)]).run x.P w).andThen (λr L=>.ok (.value r) L):=by
   generalize a.eval=ρ at e1 e2;have e3:Array.map ρ #[p,q]= #[.slice ao ls.length ls.length,.int .i64 (N:Int)]:=(by simp[e1,e2]);simp only[execOp,resolve,e3,Sem.run_bind,Sem.run_pure,Result.andThen,invoke,builtin]
  rw[this,A];rfl
 rw[ZV rfl,g];have M:z.cells.toList.length=size:=by
  obtain⟨i,hi,hz,hsz,hby,O,V⟩:=Zn T;simpa using O
 have C:=Xa (R:=R) (H:=HF) (size:=size) (X HF) M N;refine h v' K' ⟨cells++(List.replicate N z.cells.toList).flatten,by simpa using f,Flat.append C<|s.conv W,λu D=>(TR.1 D).elim (s.one' m u) (C.one' m u)⟩ _ _
 <|Holds.put (x:=x) (l:=l) ⟨c.size,c.ds,c.slots,?_⟩ Z v'
 simpa using c.mem.go0 (K':=[K']) (by simpa using B)
variable{x:Cx}{ops:Array Oper}{Q:Exit->Act->World->Prop}{l:Slots}{own:List Own}{H:Heaplet}{so:List Own}{sH:Heaplet}
def allB:Nat->List (List Bool)
 |0=> [[]]
 |n+1=>(allB n).flatMap λbs=> [true::bs,false::bs]
variable{x:Cx}{ops:Array Oper}{Q:Exit->Act->World->Prop}{rest:List Oper}{l:Slots}{own:List Own}{H HF:Heaplet}
variable{ty:TypeId}{d:Nat}{pos:String}{aft:Array Edge}
theorem ZDn{J:Slots->List Own->Prop}{L:Slots}{o:List Own}{Q:Exit->Act->World->Prop}(b:J L o)(h:Sub L l)(c:o=own):JN x (Exit.then (λa w=>∃L o,J L o/\Holds x L o H a w) Q .normal) l own H:=λa w d=>⟨L,o,b,by rw[c];exact d.sub h⟩
theorem ZH5 {α σ τ:Type}(hr:x.r=none){g:Operand}{ps:Array Tmp}{assign body:Code}{gf:FuncId}{cap:Array Value}{RA:Heaplet->Array Value->α->Prop}
    (bd:α->σ->Option (σ ⊕ τ))(s0:σ)(tt:σ ⊕ τ)(I:σ->List Own->Heaplet->Prop)(X:τ->Code->List Own->Heaplet->Prop)(M:List Own->Heaplet->Prop)(mine own2:List Own)
    (hg:evo l g=some (.func (.func gf) #[] cap))(he:Enters x.P gf)(hown:own=mine++own2)
    (hit:∀(d:Nat) (I':σ->Own->Heaplet->Prop) (X':τ->Own->Heaplet->Prop) (O:Own),YSpecG x.P d RA bd I' X'->IX I' X' (.inl s0) O H->
      Does x.P gf (#[.func (.yield d) #[] #[]]++cap) (mine++ [O]) H λu K' f=>∃m' O',K'=m'++ [O']/\M m' f/\IX I' X' tt O' f)
    (hps:∀H args y,RA H args y->args.size=ps.size) (hlt:ps.toList.all (λp=>Nat.blt p x.n)=true)
    (h0:I s0 own2 H)
    (hround:∀(d:Nat) (y:α) (s:σ) (args:Array Value) (o:List Own) (H1 f:Heaplet) (out:σ ⊕ τ),Hle H1 f->I s o H1->RA f args y->bd y s=some out->∃J:Slots->List Own->Prop,
      (∀wb,x.w0.heap.size<=wb.heap.size->JC {x with r:=some d,w0:=wb,H0:=f,S:=ids o.flatten,ds:=[]} assign
        (Exit.then (λa w=>∃Z z,J Z z/\Holds {x with r:=some d,w0:=wb,H0:=f,S:=ids o.flatten,ds:=[]} Z z f a w) λ_ _ _=>False) ((ps.toList.zip args.toList).reverse++l) o f)/\
      (∀wb Z oa,J Z oa->x.w0.heap.size<=wb.heap.size->JC {x with r:=some d,w0:=wb,H0:=f,S:=ids oa.flatten,ds:=[]} body (RoundS I X out wb f<|ids oa.flatten) Z oa f))
    (hdone:∀(D:Nat) (s:σ) (m' o:List Own) (H1 f:Heaplet),x.w0.heap.size<=D->tt=.inl s->M m' f->Hle H1 f->I s o H1->Hle H f->JN {x with ds:=mark D::x.ds} (Q .normal) l ([(D,.deferred<|some [])]::(m'++o)) f)
    (hstop:∀(D:Nat) (c:Code) (e:τ) (m' o:List Own) (H1 f:Heaplet),x.w0.heap.size<=D->tt=.inr e->M m' f->Hle H1 f->X e c o H1->Hle H f->JC {x with ds:=mark D::x.ds} c Q l ([(D,.deferred<|some [])]::(m'++o)) f):
    JC x (.rangeFunc g ps assign body) Q l own H:=λa w R=>by
  have hFw:Fw x.r=Fence.wide:=by rw[hr];rfl
  rw[hFw];refine wpIn_rangeFunc ?_;intro fn hfn
  -- the two blocks
  obtain⟨b,h⟩:∃b:LoopState->Option Code->Loop,b=λst pe=>{state:=st,pending:=pe,fn,tmps:=a.tmps,params:=ps,assign,body,defers:=w.heap.size}:=⟨_,rfl⟩;have hm1:=R.mem.go0 (K':=[[(w.heap.size,.deferred<|some [])]]) (by simpa using Mem.alloc R.mem.agr (.deferred<|some []));have hm2:=hm1.go0 (K':=[[((w.alloc<|.deferred<|some []).heap.size,.loop<|b .ready none)]]) (by simpa using Mem.alloc hm1.agr (.loop<|b .ready none));have hsz:(w.alloc<|.deferred<|some []).heap.size=w.heap.size+1:=by simp
  rw[hsz]at hm2;obtain⟨W,hW⟩:∃W,W=(w.alloc<|.deferred<|some []).alloc (.loop<|b .ready none):=⟨_,rfl⟩;rw[<-hW]at hm2;let D:=w.heap.size;let d:=w.heap.size+1;have hD:D≠d:=by simp[D,d]
  -- the invariant with its two blocks of book-keeping
  let tail:LoopState->Option Code->Own:=λst pe=> [(d,Obj.loop<|b st pe),(D,Obj.deferred<|some [])];let I':σ->Own->Heaplet->Prop:=λs O f=>∃o:List Own,O=tail .ready none++o.flatten/\I s o f;let X':τ->Own->Heaplet->Prop:=λe O f=>∃(o:List Own) (c:Code),O=tail .done (some c)++o.flatten/\X e c o f;refine⟨d,[mark D],W,{target:=.fn (.func gf) cap,args:=#[.func (.yield d) #[] #[]]},W,gf,#[.func (.yield d) #[] #[]]++cap,W,?_,?_,λ_ _=>trivial,?_,λe=>by simp[Fence.wide]at e,?_⟩
  . rw[hW,h];exact run_enterLoop_outer _ _ _ _ _
  . have e1:=ZM R hg;simp only[resolve,e1];simp[go_sem,Act.eval,Deferred.ofValue,d]
  . simp only[invoke];exact he _ _
  . have hY : YSpecG x.P d RA bd I' X':=by
      rintro y s args O f C out ⟨H1',Y,o,rfl,hI⟩ hy hbd hag U;have hsize:=hps _ _ _ hy;have V:C.heap[d]? =some (.loop<|b .ready none):=U.here (d,Obj.loop<|b .ready none) (by simp[tail]);have hapr:∀k,f d k=none:=λk=>U.apart (d,Obj.loop<|b .ready none) (by simp[tail]) k;have hyld:=run_yield (P:=x.P) (args:=args) V (by rw[h];exact hsize);rw[h]at hyld;refine⟨fn,_,assign,body,hyld,?_⟩;obtain⟨J,hA,hB⟩:=hround d y s args o H1' f out Y hI hy hbd;refine roundIn_of_wpIn (F:=Fence.wide) trivial ?_;have hput:=puts_holds (x:=x) (own:=own) (H:=H) (w:=w) x.n ps.toList args.toList a.tmps l R.size hlt R.slots;have hfold:((ps.zip args).foldl (λt (p,v)=>t.setIfInBounds p v) a.tmps)=((ps.toList.zip args.toList).foldl (λt (p,v)=>t.setIfInBounds p v) a.tmps):=by
        rw[<-Array.foldl_toList];simp
      have hok2:OwnOk f o.flatten C:=by
        exact PM U
      have hmo:Mem C f (ids o.flatten) o.flatten f C:=Mem.same hag hok2;refine wpIn_mono (Q:=Exit.then (λa w=>∃Z z,J Z z/\Holds {x with r:=some d,w0:=C,H0:=f,S:=ids o.flatten,ds:=[]} Z z f a w) λ_ _ _=>False) ?_ ?_
      . rw[hfold];have hDs:D<C.heap.size:=(TV.1<|U.here (D,Obj.deferred<|some [])<|by simp[tail]).1;exact hA C (TS R.mem.kept.size<|Nat.le_of_lt hDs) {tmps:=_,defers:=[]} C ⟨hput.1,rfl,hput.2,hmo⟩
      . rintro e a1 w2 i;cases e with
        | normal=>
          obtain⟨Z,oa,hJ1,i⟩:∃Z z,J Z z/\Holds {x with r:=some d,w0:=C,H0:=f,S:=ids o.flatten,ds:=[]} Z z f a1 w2:=i
          -- the assignments have turned nothing of the book-keeping
          have hlt1:d<C.heap.size:=(TV.1 V).1;have hnd:=U.nodup;have hlro:d∉ids o.flatten:=λhmem=>by
            simp only[tail,ids,SJ,Sf]at hnd;exact hnd.2.2 d (by simp) d hmem rfl
          have hDo:D∉ids o.flatten:=λhmem=>by
            simp only[tail,ids,SJ,Sf]at hnd;exact hnd.2.2 D (by simp) D hmem rfl
          have hr2:w2.heap[d]? =some (.loop<|b .ready none):=by rw[i.mem.kept.block d hlt1 hlro];exact V
          -- the whole memory at the round's begin,seen from C
          have hmw1:Mem C f (ids<|tail .ready none++o.flatten) (tail .ready none++o.flatten) f C:=Mem.same hag U;have hmw2:Mem C f (ids<|tail .ready none++o.flatten) (oa.flatten++(tail .ready none)) f w2:=
            hmw1.go (K:=o.flatten) (rst:=(tail .ready none)) Tc i.mem
          have hbr:=run_beginRound (P:=x.P) hr2 (by rw[h]);refine⟨_,hbr,?_⟩;have hmw3:Mem C f (ids<|tail .ready none++o.flatten) ([(d,Obj.loop {b .ready none with state:=.busy})]++(([(D,Obj.deferred<|some [])]:Own)++oa.flatten)) f (w2.putObj d<|.loop {b .ready none with state:=.busy}):=by
            refine hmw2.go (K:=[(d,Obj.loop<|b .ready none)]) (rst:=[(D,Obj.deferred<|some [])]++oa.flatten) ?_ ?_
            . simp only[tail];refine List.perm_append_comm.trans ?_;simp
            . exact Mem.putObj i.mem.agr hr2 hapr _
          have hDs:D<C.heap.size:=(TV.1<|U.here (D,Obj.deferred<|some [])<|by simp[tail]).1;have hsz2:x.w0.heap.size<=(w2.putObj d<|.loop {b .ready none with state:=.busy}).heap.size:=by
            have h1:=R.mem.kept.size;have h2:C.heap.size<=w2.heap.size:=i.mem.kept.size;have h5:w.heap.size<C.heap.size:=hDs;exact TS (TS h1<|TS (Nat.le_of_lt h5) h2)<|by simp
          refine wpIn_mono (hB (w2.putObj d<|.loop {b .ready none with state:=.busy}) Z oa hJ1 hsz2 a1 _ ⟨i.size,i.ds,i.slots,Mem.same hmw3.agr ?_⟩) ?_
          . exact PM<|PM hmw3.ok
          . -- the round's end
            have fin:∀(j:Option Code) (z:List Own) (H1:Heaplet) (G:World),Mem (w2.putObj d<|.loop {b .ready none with state:=.busy}) f (ids oa.flatten) z.flatten H1 G->
                (Instr.endRound d j).run x.P G=.ok (.bool j.isNone) (G.putObj d<|.loop<|b (if j.isNone then .ready else .done) j)/\
                Mem C f (ids<|tail .ready none++o.flatten) (tail (if j.isNone then .ready else .done) j++z.flatten) H1 (G.putObj d<|.loop<|b (if j.isNone then .ready else .done) j):=by
              intro j z H1 G B;have m:Mem C f (ids<|tail .ready none++o.flatten) (z.flatten++([(d,Obj.loop {b .ready none with state:=.busy})]++ [(D,Obj.deferred<|some [])])) H1 G:=by
                refine hmw3.go (K:=oa.flatten) (rst:=[(d,Obj.loop {b .ready none with state:=.busy})]++ [(D,Obj.deferred<|some [])]) ?_ B;rw[<-TE];exact Tc
              have L:G.heap[d]? =some (.loop {b .ready none with state:=.busy}):=m.ok.here (d,Obj.loop {b .ready none with state:=.busy}) (by simp);have N:∀k,H1 d k=none:=λk=>m.ok.apart (d,Obj.loop {b .ready none with state:=.busy}) (by simp) k;have q:=run_endRound (P:=x.P) j L;rw[h]at q|-;refine⟨q,?_⟩;have:=m.go (K:=[(d,Obj.loop {b .ready none with state:=.busy})]) (rst:=z.flatten++ [(D,Obj.deferred<|some [])]) (by
                refine(Tc (l₁:=z.flatten)).trans ?_;rw[TE];exact Sw _ Tc) (Mem.putObj m.agr L N<|.loop {b .ready none with state:=if j.isNone then .ready else .done,pending:=j})
              rw[h]at this;refine Mem.perm this ?_;simp only[tail,h];exact Sw [_]<|Tc (l₁:=z.flatten) (l₂:=[(D,Obj.deferred<|some [])])
            rintro e2 a3 G hp;cases e2 with
            | normal=>
              obtain⟨s',z,H1,rfl,B,hI1⟩:=hp;obtain⟨q,A⟩:=fin none z H1 G B;exact⟨_,_,q,_,H1,rfl,A,H1,Rz _,z,rfl,hI1⟩
            | ret=>
              obtain⟨t,z,H1,rfl,B,hX1⟩:=hp;obtain⟨q,A⟩:=fin (some .ret) z H1 G B;exact⟨_,_,q,_,H1,rfl,A,H1,Rz _,z,.ret,rfl,hX1⟩
            | exit id=>
              obtain⟨t,z,H1,rfl,B,hX1⟩:=hp;obtain⟨q,A⟩:=fin (some<|.exit id) z H1 G B;exact⟨_,_,q,_,H1,rfl,A,H1,Rz _,z,.exit id,rfl,hX1⟩
            |goto t=>exact hp.elim
            |panic ch=>exact hp.elim
            |outgrown=>exact hp.elim
        |exit id=>exact i.elim
        |goto t=>exact i.elim
        |ret=>exact i.elim
        |panic ch=>exact i.elim
        |outgrown=>exact i.elim
    -- the iterator
    have hD0:=hit d I' X' (tail .ready none++own2.flatten) hY ⟨H,Rz _,own2,rfl,h0⟩;have hmW:Mem x.w0 x.H0 x.S (mine++ [tail .ready none++own2.flatten]).flatten H W:=by
      refine(show Mem x.w0 x.H0 x.S (tail .ready none++own.flatten) H W by simpa[tail,D,d]using hm2).perm ?_;rw[hown];simp only[TW,TP,RM,Th];exact(TE (tail .ready none) mine.flatten own2.flatten)▸(Rs own2.flatten<|Tc (l₁:=tail .ready none) (l₂:=mine.flatten)).trans (by rw[TE])
    refine CallsIn.mono (hD0 W hmW.agr hmW.ok) ?_;rintro e G ⟨v,K',f,rfl,⟨m',O',rfl,hM,E⟩,B⟩;have hle:Hle H f:=B.le;have hm4':Mem x.w0 x.H0 x.S (m'++ [O']).flatten f G:=by
      have:=hmW.go (K:=(mine++ [tail .ready none++own2.flatten]).flatten) (rst:=[]) (by simp) B;simpa using this
    obtain⟨H1,Y,E⟩:=E;have hmk:∀(T o:Own),O'=T++o->Mem x.w0 x.H0 x.S (T++(m'.flatten++o)) f G:=λT o e=>by
      refine hm4'.perm ?_;rw[e];simp only[TW,TP,RM,Th];rw[<-TE,<-TE];exact Rs o Tc
    cases tt with
    | inl s=>
      obtain⟨o,hO,hI⟩:=E;have m:=hmk _ _ hO;have L:G.heap[d]? =some (.loop<|b .ready none):=m.ok.here (d,Obj.loop<|b .ready none) (by simp[tail]);have N:∀k,f d k=none:=λk=>m.ok.apart (d,Obj.loop<|b .ready none) (by simp[tail]) k;refine⟨none,_,by have:=run_endLoop (P:=x.P) L (by rw[h];simp);rw[h]at this;exact this,?_⟩;have A:=m.go (K:=[(d,Obj.loop<|b .ready none)]) (rst:=[(D,Obj.deferred<|some [])]++(m'.flatten++o.flatten)) (by simp[tail]) (Mem.putObj m.agr L N<|.loop {b .ready none with state:=.exhausted});rw[h]at A;have hDn:x.w0.heap.size<=D:=R.mem.kept.size;refine hdone D s m' o H1 f hDn rfl hM Y hI hle _ _ ⟨R.size,by simp[R.ds],R.slots,?_⟩;have hs:([(D,Obj.deferred<|some [])]++(m'.flatten++o.flatten)).Sublist ([(d,Obj.loop {b .ready none with state:=.exhausted})]++([(D,Obj.deferred<|some [])]++(m'.flatten++o.flatten))):=RU _ _;rw[h]at hs;rw[TP,TW];exact A.sub hs
    | inr e=>
      obtain⟨o,c,hO,hX⟩:=E;have m:=hmk _ _ hO;have L:G.heap[d]? =some (.loop<|b .done<|some c):=m.ok.here (d,Obj.loop<|b .done<|some c) (by simp[tail]);have N:∀k,f d k=none:=λk=>m.ok.apart (d,Obj.loop<|b .done<|some c) (by simp[tail]) k;refine⟨some c,_,by have:=run_endLoop (P:=x.P) L (by rw[h];simp);rw[h]at this;exact this,?_⟩;have A:=m.go (K:=[(d,Obj.loop<|b .done<|some c)]) (rst:=[(D,Obj.deferred<|some [])]++(m'.flatten++o.flatten)) (by simp[tail]) (Mem.putObj m.agr L N<|.loop {b .done (some c)with state:=.exhausted});rw[h]at A;have hDn:x.w0.heap.size<=D:=R.mem.kept.size;have hJ:=hstop D c e m' o H1 f hDn rfl hM Y hX hle;have hJ':c.wpIn (Fw x.r) 0 x.P Q {tmps:=a.tmps,defers:=mark D::a.defers} (G.putObj d<|.loop {b .done (some c)with state:=.exhausted}):=by
        refine hJ _ _ ⟨R.size,by simp[R.ds],R.slots,?_⟩;have hs:([(D,Obj.deferred<|some [])]++(m'.flatten++o.flatten)).Sublist ([(d,Obj.loop {b .done (some c)with state:=.exhausted})]++([(D,Obj.deferred<|some [])]++(m'.flatten++o.flatten))):=RU _ _;rw[h]at hs|-;rw[TP,TW];exact A.sub hs
      rw[hFw,h]at hJ';exact hJ'
section orders
variable{F:Fence}{n:Nat}{P:Program}{md:Region.Mode}{ops:Array Oper}{Q:Exit->Act->World->Prop}{S:Array Bool->World->Prop}
def wpAT (F:Fence)(n:Nat)(P:Program)(md:Region.Mode)(ops:Array Oper)(Q:Exit->Act->World->Prop)(S:Array Bool->World->Prop):Nat->Array Bool->Act->World->Prop
  |0,listed,a,w=>Region.ready md ops listed= []/\Q .normal a w
  | fuel+1,listed,a,w=>(Region.ready md ops listed= []->Q .normal a w)/\
    ∀i∈Region.ready md ops listed,wpOpIn F n P ops Q i (λc b=>S (listed.setIfInBounds i true) b/\wpAT F n P md ops Q S fuel (listed.setIfInBounds i true) c b) a w
theorem ZGN:∀(fuel:Nat) (listed:Array Bool) (a:Act) (w:World),wpAT F n P md ops Q S fuel listed a w->wpAnyIn F n P md ops Q fuel listed a w
 |0,_,_,_,h=>h
 |fuel+1,listed,a,w,h=>⟨h.1,λi hi=>wpOpIn_mono (λb c d=>ZGN fuel _ b c d.2)<|h.2 i hi⟩
def hangs (md:Region.Mode)(ops:Array Oper)(i:Nat)(D:List Nat)(listed:Array Bool):Bool:=
 D.all λd=> !listed.getD d true&&(match ops[d]? with|none=>false|some o=>o.after.any λe=>Region.binds md e&&(e.on==i ||D.contains e.on))
theorem ZBl (W:∀f,F.fn f){i:Nat}{z:Oper}{v:Value}(hi:ops[i]? =some z)(s:∀(j:Nat) (o:Oper) cs b,ops[j]? =some o->o.op≠.select cs b)
    (l:∀(j:Nat) (o:Oper),ops[j]? =some o->noDefer o.op=true)(hQ:∀c a w,Q (.panic c) (a.put z.dst v) w->Q (.panic c) a w)(m:∀L j w,S L w->S (L.setIfInBounds j true) w)
    (A:∀L w,S (L.setIfInBounds i true) w->S L w){D:List Nat}{T:World->Prop}(hT:∀L w,(∀d∈D,L.getD d true=false)->S L w->T w):
    ∀ (fuel:Nat) (listed:Array Bool) (a:Act) (w:World),
      (∀j t,ops[j]? =some t->j≠i->listed.getD j true=false->(∀e∈t.after,Region.binds md e=true->e.on≠i)->z.apart ops t=true)->
      hangs md ops i D listed=true->
      i∈Region.ready md ops listed->YieldsS P ops T z v a->S listed w->
      wpAT F n P md ops Q S fuel (listed.setIfInBounds i true) (a.put z.dst v) w->wpAT F n P md ops Q S (fuel+1) listed a w:=by
  have B:∀{listed:Array Bool},hangs md ops i D listed=true->∀d∈D,listed.getD d true=false:=λh d O=>by
    have:=Ti.1 h d O;rw[TD]at this;simpa using this.1
  intro fuel;induction fuel with
  | zero=>
    intro listed a w _ I C R J H;refine⟨λh=>(by rw[h]at C;cases C),λj U=> ?_⟩;by_cases g:j=i
    . subst g;exact R.op W hi (l _ _ hi) (hT _ _ (B I) J) ⟨m _ _ _ J,H⟩
    . have:=ready_mono U g;rw[H.1]at this;cases this
  | succ fuel ih=>
    intro listed a w p I C R J H;refine⟨λh=>(by rw[h]at C;cases C),λj U=> ?_⟩;by_cases g:j=i
    . subst g;exact R.op W hi (l _ _ hi) (hT _ _ (B I) J) ⟨m _ _ _ J,H⟩
    . have h1:=H.2 j<|ready_mono U g;obtain⟨u,t,q,x⟩:=mem_ready.1 U;have h0:=(mem_ready.1 C).1;have y:∀e∈t.after,Region.binds md e=true->e.on≠i:=λe V hb X=>by
        have h1:=x e V hb;rw[X]at h1;rcases SZ i listed.size with E|E
        . simp[E]at h0 h1;rw[h0]at h1;cases h1
        . simp[Sh E]at h1
      have G:j∉D:=λG=>by
        have:=Ti.1 I j G;rw[TD,q]at this;obtain⟨e,V,hb⟩:=Array.any_eq_true'.1 this.2;rw[TD,Bool.or_eq_true]at hb;rcases hb.2 with h|h
        . exact y e V hb.1<|by simpa using h
        . have h2:=B I e.on (by simpa using h);have h3:=x e V hb.1;rcases SZ e.on listed.size with E|E
          . simp[E]at h2 h3;rw[h2]at h3;cases h3
          . simp[Sh E]at h3
      have Y:hangs md ops i D (listed.setIfInBounds j true)=true:=Ti.2 λd O=>by
        have:=Ti.1 I d O;rw[getD_set_ne true λe=>G (by rw[e];exact O)];exact this
      have h2:=ZEf (S:=T) W q (p j t q g u y) (λcs b=>s i z cs b hi) (λcs b=>s j t cs b q) (l j t q) hQ R h1;have r:∀k ok,ops[k]? =some ok->k≠i->(listed.setIfInBounds j true).getD k true=false->
          (∀e∈ok.after,Region.binds md e=true->e.on≠i)->z.apart ops ok=true:=λk ok hk Z K hno=>by
        refine p k ok hk Z ?_ hno;by_cases M:j=k
        . subst M;exact u
        . rw[getD_set_ne true M]at K;exact K
      refine wpOpIn_mono (λa' w' h3=> ?_) h2;have N:S (listed.setIfInBounds j true) w':=A _ _ (by rw[Array.setIfInBounds_comm _ _ g];exact h3.2.1);refine⟨N,ih (listed.setIfInBounds j true) a' w' r Y (ready_mono C<|Ne.symm g) h3.1 N ?_⟩;rw[Array.setIfInBounds_comm _ _ g];exact h3.2.2
end orders
variable{x:Cx}{ops:Array Oper}{K:Act->World->Prop}{l:Slots}{own:List Own}{H:Heaplet}
abbrev Segs:=List<|Own×List Nat
def SB (so:Segs)(sH:Heaplet)(L:Array Bool)(w:World):Prop:=Agrees sH w/\∀x∈so,(∃t∈x.2,L.getD t true=true)\/∀p∈x.1,w.heap[p.1]? =some p.2
theorem SB.mono{so:Segs}{sH:Heaplet}{L:Array Bool}{w:World}(j:Nat)(h:SB so sH L w):SB so sH (L.setIfInBounds j true) w:=by
 refine⟨h.1,λx b=>(h.2 x b).imp (fun⟨t,ht,e⟩=>⟨t,ht,?_⟩) id⟩;by_cases c:j=t
 . subst c;rcases SZ j L.size with a|a
   . simp[a]
   . simp[Sh a]
 . rw[getD_set_ne true c];exact e
def ZB2 (so:Segs)(i:Nat):Bool:=so.all λx=> !x.2.contains i
theorem SB.skip{so:Segs}{sH:Heaplet}{i:Nat}(hn:ZB2 so i=true){L:Array Bool}{w:World}(h:SB so sH (L.setIfInBounds i true) w):SB so sH L w:=by
 refine⟨h.1,λx b=>(h.2 x b).imp (fun⟨t,ht,e⟩=>⟨t,ht,?_⟩) id⟩;have:=Ti.1 hn x b;have a:i≠t:=λc=>by subst c;simp at this;exact this ht
 rw[getD_set_ne true a]at e;exact e
def Qw (D:List Nat):Segs->List Own
 |[]=> []
 |x::q=>cond (x.2.all λt=>D.contains t) (x.1::Qw D q)<|Qw D q
theorem SB.stab{so:Segs}{sH:Heaplet}{D:List Nat}{L:Array Bool}{w:World}(b:∀d∈D,L.getD d true=false)(h:SB so sH L w):Stab (Qw D so) sH w:=by
  refine⟨h.1,?_⟩;have h2:=h.2;clear h;induction so with
  |nil=>intro p a;simp[Qw]at a
  | cons y q c=>
    have i:=c λx f=>h2 x<|Sl _ f;intro p a;unfold Qw at a;cases e:(y.2.all λt=>D.contains t)with
    |false=>rw[e,cond_false]at a;exact i p a
    | true=>
      rw[e,RG,TP,TR]at a;rcases a with a|a
      . rcases h2 y (List.mem_cons_self ..)with⟨t,ht,e2⟩|h3
        . have:=Ti.1 e t ht;rw[b t<|by simpa using this]at e2;cases e2
        . exact h3 p a
      . exact i p a
def Kept':Segs->Array Bool->List Own->Prop
 |[],_,_=>True
 |x::q,L,own=>((x.2.any λt=>L.getD t true)=true\/∃i:Nat,own[i]? =some x.1)/\Kept' q L own
theorem Kept'.sb{so:Segs}{sH:Heaplet}{L:Array Bool}(c:Hle sH H)(d:Kept' so L own){a:Act}{w:World}(f:Holds x l own H a w):SB so sH L w:=by
  refine⟨f.mem.agr.le c,?_⟩;induction so with
  |nil=>intro y b;cases b
  | cons z q g=>
    intro y b;rcases Ta.1 b with rfl|b
    . rcases d.1 with h|⟨i,hi⟩
      . obtain⟨t,ht,e⟩:=List.any_eq_true.1 h;exact .inl ⟨t,ht,e⟩
      . exact .inr λp j=>f.mem.ok.here p<|Sd.2 ⟨_,Tq hi,j⟩
    . exact g d.2 y b
theorem Kept'.mono{so:Segs}{L:Array Bool}(j:Nat)(b:Kept' so L own):Kept' so (L.setIfInBounds j true) own:=by
  induction so with
  |nil=>trivial
  | cons z q i=>
    refine⟨b.1.imp (λh=> ?_) id,i b.2⟩;obtain⟨t,ht,e⟩:=List.any_eq_true.1 h;refine List.any_eq_true.2 ⟨t,ht,?_⟩;by_cases c:j=t
    . subst c;rcases SZ j L.size with a|a
      . simp[a]
      . simp[Sh a]
    . rw[getD_set_ne true c];exact e
theorem XF{so:Segs}{L:Array Bool}(ps:List Nat)(h:ps.map (λi=>own[i]?)=so.map λx=>some x.1):Kept' so L own:=by
  induction so generalizing ps with
  |nil=>trivial
  | cons z q a=>
    cases ps with
    |nil=>cases h
    | cons p ps=>
      simp only[Tp,SS]at h;exact⟨.inr ⟨p,h.1⟩,a ps h.2⟩
def ZMa (own:List Own):List Bool->List Nat->List (Option Own)
 |b::bs,p::ps=>cond b none own[p]? ::ZMa own bs ps
 |_,_=> []
def ZJT:List Bool->Segs->List (Option Own)
 |b::bs,x::q=>cond b none (some x.1)::ZJT bs q
 |_,_=> []
theorem Ue{so:Segs}{L:Array Bool}(bs:List Bool)(ps:List Nat)(h1:so.map (λx=>x.2.any λt=>L.getD t true)=bs)(h:ZMa own bs ps=ZJT bs so):Kept' so L own:=by
  induction so generalizing ps bs with
  |nil=>trivial
  | cons z q i=>
    subst h1;cases ps with
    |nil=>cases h
    | cons p ps=>
      simp only[Tp,ZMa,ZJT,SS]at h;refine⟨?_,i _ ps rfl h.2⟩;cases e:(z.2.any λt=>L.getD t true)with
      |true=>exact .inl rfl
      | false=>
        have h2:=h.1;rw[e]at h2;exact .inr ⟨p,h2⟩
def JB (x:Cx)(ops:Array Oper)(K:Act->World->Prop)(so:Segs)(sH:Heaplet)(fuel:Nat)(listed:Array Bool)(l:Slots)(own:List Own)(H:Heaplet):Prop:=
 Reg ops->Hle sH H->Kept' so listed own->∀a w,Holds x l own H a w->wpAT (Fw x.r) 0 x.P .any ops (onlyN K) (SB so sH) fuel listed a w
def JOB (x:Cx)(ops:Array Oper)(K:Act->World->Prop)(so:Segs)(sH:Heaplet)(fuel:Nat)(listed:Array Bool)(i:Nat)(l:Slots)(own:List Own)(H:Heaplet):Prop:=
 Reg ops->Hle sH H->Kept' so listed own->∀a w,Holds x l own H a w->
  wpOpIn (Fw x.r) 0 x.P ops (onlyN K) i (λc b=>SB so sH (listed.setIfInBounds i true) b/\wpAT (Fw x.r) 0 x.P .any ops (onlyN K) (SB so sH) fuel (listed.setIfInBounds i true) c b) a w
theorem Q7{Q:Exit->Act->World->Prop}{so:Segs}(N:Nat){id:Nat}(g:ops.size=N)(i:x.P.follows .mixedOrders=true)(d:Reg ops)(j:Kept' so (Array.replicate N false) own)
 (h:JB x ops (Q .normal) so H N (Array.replicate N false) l own H):JC x (.region id ops true) Q l own H:=λa w f=>by
 subst g;refine wpIn_mono (Q:=onlyN<|Q .normal) (wpIn_region_any i<|ZGN _ _ _ _<|h d (Rz _) j a w.drew ⟨f.size,f.ds,f.slots,f.mem.drew⟩) ?_;intro e a w b;cases e with
 |normal=>exact b
 |exit id=>exact b.elim
 |goto t=>exact b.elim
 |ret=>exact b.elim
 |panic c=>exact b.elim
 |outgrown=>exact b.elim
section
variable{so:Segs}{sH:Heaplet}{fuel i d:Nat}{listed listed':Array Bool}{op:Op}{ty:TypeId}{pos:String}{aft:Array Edge}{g:Option (Nat×Bool)}{v:Value}
theorem JB.val (D:List Nat)(q:ops[i]? =some ⟨some d,op,ty,pos,aft,g⟩)(t:Runs x op ty l (Qw D so) sH v)
 (h:JB x ops K so sH fuel listed' ((d,v)::l) own H)
 (ht:Take ops listed i listed':=by exact⟨by kernel_rfl,by kernel_rfl,rfl⟩)(y:WP ops l g:=by first|exact trivial|exact⟨_,_,rfl,rfl,rfl⟩)
 (m:hangs .any ops i D listed=true:=by kernel_rfl)(hn:ZB2 so i=true:=by rfl)(z:Nat.blt d x.n=true:=by rfl):
 JB x ops K so sH (fuel+1) listed l own H:=λb f r a w k=>by
 have A:=ht.nxt;subst A;exact ZBl (λ_=>trivial) q (Region.noSelect_spec b.sel) b.noDefer (λc C s B=>B) (λ_ j _ h=>h.mono j) (λ_ _ h=>h.skip hn) (D:=D) (T:=Stab (Qw D so) sH) (λ_ _ m h=>h.stab m)
  fuel listed a w (Region.free_spec q ht.free) m (by simpa using ht.rdy)
  (.inl ⟨ZBm k y,λs p=>t a.eval s (some d) pos aft g (λo u e=>ZM k e) p⟩) (r.sb f k) (h b f (r.mono i) _ _<|k.put z v)
theorem JB.no{j t:Nat}{b o:Bool}{p:Oper}(q:ops[i]? =some ⟨some d,op,ty,pos,aft,some (j,b)⟩)(s:ops[j]? =some p)(g:p.dst=some t)(hb:lk l t=some (.bool o))(k:(o==b)=false)
 (h:JB x ops K so sH fuel listed' ((d,undef)::l) own H)
 (ht:Take ops listed i listed':=by exact⟨by kernel_rfl,by kernel_rfl,rfl⟩)(hn:ZB2 so i=true:=by rfl)(v:Nat.blt d x.n=true:=by rfl):
 JB x ops K so sH (fuel+1) listed l own H:=λe f r a w m=>by
 have y:=ht.nxt;subst y;have z:Region.wanted ⟨some d,op,ty,pos,aft,some (j,b)⟩ (yielded ops a.tmps)=false:=by
  simp only[Region.wanted,yielded,s,Tg,g];have:=m.slots t _ hb;cases hs:a.tmps[t]? with
  |none=>simp[hs,undef]at this
  |some u=>simp[hs]at this;subst this;simpa using k
 exact ZBl (λ_=>trivial) q (Region.noSelect_spec e.sel) e.noDefer (λc B C A=>A) (λ_ j _ h=>h.mono j) (λ_ _ h=>h.skip hn) (D:=[]) (T:=λ_=>True) (λ_ _ _ _=>trivial)
  fuel listed a w (Region.free_spec q ht.free) rfl (by simpa using ht.rdy) (.inr ⟨z,rfl⟩) (r.sb f m) (h e f (r.mono i) _ _<|m.put v undef)
theorem ON{j t:Nat}{b:Bool}{o:Oper}(m:ops[i]? =some ⟨some d,op,ty,pos,aft,some (j,b)⟩)(q:ops[j]? =some o)(g:o.dst=some t)(hb:lk l t=some undef)
 (h:JB x ops K so sH fuel listed' ((d,undef)::l) own H)
 (ht:Take ops listed i listed':=by exact⟨by kernel_rfl,by kernel_rfl,rfl⟩)(hn:ZB2 so i=true:=by rfl)(r:Nat.blt d x.n=true:=by rfl):
 JB x ops K so sH (fuel+1) listed l own H:=λe f p a w k=>by
 have s:=ht.nxt;subst s;have v:Region.wanted ⟨some d,op,ty,pos,aft,some (j,b)⟩ (yielded ops a.tmps)=false:=by
  simp only[Region.wanted,yielded,q,Tg,g];have:=k.slots t _ hb;cases hs:a.tmps[t]? with
  |none=>simp
  |some u=>simp[hs]at this;subst this;simp[undef]
 exact ZBl (λ_=>trivial) m (Region.noSelect_spec e.sel) e.noDefer (λc z A y=>y) (λ_ j _ h=>h.mono j) (λ_ _ h=>h.skip hn) (D:=[]) (T:=λ_=>True) (λ_ _ _ _=>trivial)
  fuel listed a w (Region.free_spec m ht.free) rfl (by simpa using ht.rdy) (.inr ⟨v,rfl⟩) (p.sb f k) (h e f (p.mono i) _ _<|k.put r undef)
theorem PH (b:Region.ready .any ops listed= [])(h:JN x K l own H):JB x ops K so sH fuel listed l own H:=λ_ _ _ a w c=>by
 cases fuel with
 |zero=>exact⟨b,h a w c⟩
 |succ fuel=>exact⟨λ_=>h a w c,by rw[b];simp⟩
theorem JB.one (d:Region.ready .any ops listed= [i])(h1:JOB x ops K so sH fuel listed i l own H):JB x ops K so sH (fuel+1) listed l own H:=λb c e a w f=>by
 refine⟨λh0=>(by rw[d]at h0;cases h0),λk h=> ?_⟩;rw[d]at h;simp at h;subst h;exact h1 b c e a w f
theorem OO{j:Nat}(d:Region.ready .any ops listed= [i,j])(h1:JOB x ops K so sH fuel listed i l own H)(h2:JOB x ops K so sH fuel listed j l own H):
 JB x ops K so sH (fuel+1) listed l own H:=λh c e a w f=>by
 refine⟨λh0=>(by rw[d]at h0;cases h0),λk b=> ?_⟩;rw[d]at b;simp at b;rcases b with rfl|rfl
 . exact h1 h c e a w f
 . exact h2 h c e a w f
theorem JOB.step{d:Option Tmp}(s:ops[i]? =some ⟨d,op,ty,pos,aft,g⟩)(t:WP ops l g)(u:listed.setIfInBounds i true=listed')
    (h:∀K':Act->World->Prop,(∀l' own' m,Hle sH m->Kept' so listed' own'->JB x ops K so sH fuel listed' l' own' m->JN x K' l' own' m)->
      JL x ops (λe a w=>match e with| .normal=>K' a w|e=>onlyN K e a w) [⟨d,op,ty,pos,aft,none⟩] l own H):
    JOB x ops K so sH fuel listed i l own H:=λf v B a w q=>by
  subst u;have:=h (λn c=>SB so sH (listed.setIfInBounds i true) c/\wpAT (Fw x.r) 0 x.P .any ops (onlyN K) (SB so sH) fuel (listed.setIfInBounds i true) n c)
    (λl' own' m b j z n c k=>⟨j.sb b k,z f b j n c k⟩) a w q
  simp only[wpLs,ZO,if_true]at this;unfold wpOpIn;simp only[s];rw[TJ<|ZBm q t];refine⟨λ_ _=>trivial,?_⟩;have h2:=this.2;have A:∀(ρ:Operand->Value),Oper.semAt (Fw x.r).round ρ ⟨d,op,ty,pos,aft,g⟩=Oper.semAt (Fw x.r).round ρ ⟨d,op,ty,pos,aft,none⟩:=λρ=>by
    unfold Oper.semAt;cases(Fw x.r).round<;>cases op<;>rfl
  rw[A];generalize (Oper.semAt (Fw x.r).round a.eval ⟨d,op,ty,pos,aft,none⟩).run x.P w=r at*;cases r with
  | ok y c=>
    cases y<;>simp only[Oper.uponIn]at h2|-<;>first|exact h2|exact⟨h2.1,CallsIn.mono h2.2 λe o p=>by cases e<;>exact p⟩|exact⟨h2.1,RoundIn.mono h2.2 λe o p=>by cases e<;>exact p⟩
  |halt y c=>cases y<;>simp only[Oper.uponIn]at h2|-<;>exact h2
theorem Ps{t:Nat}{b:Bool}(hb:lk l t=some (.bool b))(ht:b=true->JB x ops K so sH fuel listed ((t,.bool true)::l) own H)
 (f:b=false->JB x ops K so sH fuel listed ((t,.bool false)::l) own H):JB x ops K so sH fuel listed l own H:=λh c d a w e=>by
 cases b with
 |true=>exact ht rfl h c d a w (e.set hb rfl)
 |false=>exact f rfl h c d a w<|e.set hb rfl
end
end Go.Ow
