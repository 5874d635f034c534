import Derived.Test.YtgdchaoklfjcpaaGreatDoorOwMb
import Derived.Test.YtgdchaoklfjcpaaGreatDoorOwMa
import Derived.Laws.IdiomStrings
/- rules, proved -/
set_option linter.constructorNameAsVariable false
set_option linter.unusedSimpArgs false
set_option linter.unusedVariables false
namespace Go.Ow
open Go.RowKit
variable{x:Cx}{ops:Array Oper}{Q:Exit->Act->World->Prop}{rest:List Oper}{l:Slots}{own:List Own}{H HF:Heaplet}
variable{ty:TypeId}{d:Nat}{pos:String}{aft:Array Edge}{v:Value}{p q:Operand}{t u:TypeId}
def RowM (B:Nat)(E:TypeId)(size:Nat)(v:Value)(cells:List Value)(n:Nat)(K:Own):Prop:=
 cells.length=n*size/\((v=.slice none 0 0/\n=0/\K= [])\/
  ∃g cap cur f,FrOk cur.size f/\v=.slice (some ⟨g,0,none⟩) n cap/\K= [(g,.cells cur E f)]/\B<=g/\n<=cap/\cap<=maxLen/\cap*size<=cur.size/\cur.toList.take (n*size)=cells)
def RowOfM{α:Type}(H:Heaplet)(R:Rep α)(B:Nat)(E:TypeId)(size:Nat)(v:Value)(ls:List α)(K:Own):Prop:=
 ∃cells,RowM B E size v cells ls.length K/\Flat H R size cells ls/\YS cells
theorem RowOfM.mono{α:Type}{R:Rep α}(c:R.Mono){B:Nat}{E:TypeId}{size:Nat}{v:Value}{ls:List α}{K:Own}{b:Heaplet}(a:Hle H b)(h:RowOfM H R B E size v ls K):RowOfM b R B E size v ls K:=by
 obtain⟨cells,h1,h2,h3⟩:=h;exact⟨cells,h1,h2.mono c a,h3⟩
theorem ZL9{P:Program}{w:World}{H:Heaplet}{t D ty E:TypeId}{z:Value}{size bytes:Nat}(O:P.underlying t=some (.slice E))(he:eInfo P E=some (z,size,bytes))
 {B n m:Nat}{v y:Value}{cells a:List Value}{K:Own}(S:Agrees H w)(T:OwnOk H K w)(hr:RowM B E size v cells n K)(hs:Src P size D y m a w)
 (J:n+m<=maxLen)(hb:(n+m)*bytes<=140737488355328)(hB:B<=w.heap.size):
 ∃v' K' q,(Builtin.append_ #[t,D] ty #[v,y]).run P w=.ok v' q/\RowM B E size v' (cells++a) (n+m) K'/\Mem w H (ids K) K' H q:=by
 obtain⟨i,hi,hz,U,V,W,hpos⟩:=Zn he;subst U;subst V
 obtain⟨h0,h1⟩:=hr;have c:(cells++a).length=(n+m)*i.size:=by rw[TG,h0,hs.newsLen,TU]
 by_cases X:m=0
 . subst X;have hn:a= []:=TT.1 (by rw[hs.newsLen];simp);subst hn;refine⟨v,K,w,?_,⟨by simpa using c,by simpa using h1⟩,Mem.same S T⟩;rcases h1 with⟨rfl,rfl,rfl⟩|⟨g,cap,cur,F,G,rfl,rfl,e3,e4,e5,e6,e7⟩
   . exact run_append_nothing w t D ty E i O hi none 0 0 (TF _) y hs
   . exact run_append_nothing w t D ty E i O hi _ n cap e4 y hs
 . have l:∀(base:Option Addr) (s:Nat),(Builtin.firstCells i.size n<|.slice base n s).run P w.drew=.ok cells.toArray w.drew->s<n+m->
    ∃v' K' q,(Builtin.append_ #[t,D] ty #[.slice base n s,y]).run P w=.ok v' q/\RowM B E i.size v' (cells++a) (n+m) K'/\Mem w H [] K' H q:=by
    intro base s L I;have Q:n+m<=9223372036854775807:=(by simp only[maxLen]at J;omega);have d:=run_append_grow_src (P:=P) w t D ty E i z O hi hz base n s cells L y m a hs I (by omega) (growslice_fits I hb);have Y:=grownCap_ge w (n+m) s E;have Z:grownCap w (n+m) s E<=maxLen:=grownCap_le_maxLen w (n+m) s E J;obtain⟨C,A⟩:∃C,C=(cells++a).toArray++Builtin.zeroCells z.cells (grownCap w (n+m) s E-(n+m)):=⟨_,rfl⟩;rw[<-A]at d;refine⟨_,[(w.heap.size,.cells C E (0,0))],_,d,⟨c,.inr ⟨w.heap.size,_,C,(0,0),.inl rfl,rfl,rfl,hB,Y,Z,?_,?_⟩⟩,?_⟩
    . rw[A];simp only[RX,Tm,size_zeroCells,W,c,<-TU];refine TN _ ?_;omega
    . rw[A];simp only[S4,TE,Tf];rw[<-TE,<-c];exact T6
    . have h:=Mem.alloc (w:=w.drew) (H:=H) (λb o v e=>S b o v e) (.cells C E (0,0));exact⟨h.agr,h.ok,⟨h.kept.os,h.kept.tape,h.kept.output,h.kept.size,TS (RJ _) h.kept.drawn,h.kept.block⟩,h.fresh,h.le,h.grow,h.soft⟩
   rcases h1 with⟨rfl,rfl,rfl⟩|⟨g,cap,cur,F,G,rfl,rfl,e3,e4,e5,e6,e7⟩
   . have hc:cells= []:=TT.1 (by rw[h0];simp);subst hc;obtain⟨v',K',q,r1,r2,r⟩:=l none 0 (by simp[Builtin.firstCells,go_sem]) (by omega);exact⟨v',K',q,r1,r2,by simpa[ids]using r⟩
   . have I:=T.here (g,.cells cur E F) (by simp);have hgd:∀j u,cells[j]? =some u->w.cell? ((⟨g,0,none⟩:Addr).add j)=some u:=λj u R=>by
      rw[add_lit,Te,cell_of_row w g j cur E F I];rw[<-e7,TX]at R;split at R
      . simpa using R
      . cases R
     by_cases f:n+m<=cap
     . have M:n*i.size+a.length<=cur.size:=by
        rw[hs.newsLen,<-TU];exact TS (TN _ f) e6
       have N:=Kq P g (n*i.size) E F a 0 cur w I G (by simpa using M) hs.one;simp only[SI]at N;have d:(Builtin.append_ #[t,D] ty #[.slice (some ⟨g,0,none⟩) n cap,y]).run P w=.ok (.slice (some ⟨g,0,none⟩) (n+m) cap) (w.setRow g (cur.toList.take (n*i.size)++a++cur.toList.drop (n*i.size+a.length)).toArray):=by
        rcases hs.kind with⟨e',x⟩|x<;>simp[Builtin.append_,run_underlying O,run_underlying x,sizeOf,typeInfo,hi,hs.len,f,hs.cells,Addr.add_lit,N]
       obtain⟨C,A⟩:∃C,C=(cur.toList.take (n*i.size)++a++cur.toList.drop (n*i.size+a.length)).toArray:=⟨_,rfl⟩;rw[<-A]at d;have hCs:C.size=cur.size:=(by rw[A];simp only[Tm,TG,TH,Td,TM];omega);refine⟨_,[(g,.cells C E F)],_,d,⟨c,.inr ⟨g,cap,C,F,by rw[hCs];exact G,rfl,rfl,e3,f,e5,?_,?_⟩⟩,by simpa[ids]using Mem.setRow S I (λo=>T.apart (g,.cells cur E F) (by simp) o) _⟩
       . rw[A];simp only[Tm,TG,TH,Td,TM];omega
       . rw[A,e7,<-c];exact T6
     . have hf:=run_firstCells_some (P:=P) w.drew i.size n ⟨g,0,none⟩ n cap cells h0 (by simpa using hgd);obtain⟨v',K',q,r1,r2,r⟩:=l (some ⟨g,0,none⟩) cap hf (by omega);refine⟨v',K',q,r1,r2,⟨r.agr,r.ok,⟨r.kept.os,r.kept.tape,r.kept.output,r.kept.size,r.kept.drawn,λk x _=>r.kept.block k x<|by simp⟩,λp hp=>.inr ((r.fresh p hp).resolve_left<|by simp),r.le,λb o hb=>r.grow b o ⟨hb.1,by simp⟩,r.soft⟩⟩
theorem ZSK{α:Type}{R:Rep α}(i:Nat){g E:TypeId}{z y:Value}{size bytes B:Nat}{ls s G:List α}{K:Own}(A:x.P.underlying t=some (.slice E))(J:eInfo x.P E=some (z,size,bytes))
 (h1:evo l p=some v)(hi:own[i]? =some K)(L:RowOfM HF R B E size v ls K)(h2:evo l q=some y)(hs:SrcF x H HF own R size g y s)
 (C:G=ls++s)(I:ls.length+s.length<=LIM)(hb:Nat.ble bytes 128=true)(M:B<=x.w0.heap.size)(N:Nat.blt d x.n=true)
 (h:∀v' K',RowOfM HF R B E size v' G K'->JL x ops Q rest ((d,v')::l) (own.set i K') H):
 JL x ops Q (⟨some d,.call ⟨.builtin .append,#[p,q],#[t,g]⟩,ty,pos,aft,none⟩::rest) l own H:=λa w b=>by
 subst C;simp only[wpLs,ZO,if_true];refine⟨λ_ _=>trivial,?_⟩;obtain⟨cells,j,O,hone⟩:=L;obtain⟨k,D,c,m⟩:=hs;obtain⟨v',K',S,o,e,T⟩:=ZL9 (ty:=ty) A J b.mem.agr (Zm b.mem hi) j (m w b.mem) (QO I) (XY I hb) (TS M b.mem.kept.size);have f:(execOp a.eval ⟨some d,.call ⟨.builtin .append,#[p,q],#[t,g]⟩,ty,pos,aft,none⟩).run x.P w=.ok (.value v') S:=by
  have e1:=ZM b h1;have e2:=ZM b h2;have:(execOp a.eval ⟨some d,.call ⟨.builtin .append,#[p,q],#[t,g]⟩,ty,pos,aft,none⟩).run x.P w=((Builtin.append_ #[t,g] ty #[v,y]).run x.P w).andThen (λr F=>.ok (.value r) F):=by
   generalize a.eval=ρ at e1 e2;have e3:Array.map ρ #[p,q]= #[v,y]:=(by simp[e1,e2]);simp only[execOp,resolve,e3,Sem.run_bind,Sem.run_pure,Result.andThen,invoke,builtin]
  rw[this,o];rfl
 rw[ZV rfl,f];exact h v' K' ⟨cells++k,by simpa using e,Flat.append D O,λu A=>(TR.1 A).elim (hone u) (c u)⟩ _ _
 <|Holds.put (x:=x) (l:=l) ⟨b.size,b.ds,b.slots,b.mem.go1 hi T⟩ N v'
theorem RowOfM.val{α:Type}{R:Rep α}{B:Nat}{E:TypeId}{size:Nat}{v:Value}{ls:List α}{K:Own}(h:RowOfM H R B E size v ls K):∃ao cap,v=.slice ao ls.length cap:=by
 obtain⟨cells,⟨h0,h1⟩,_⟩:=h;rcases h1 with⟨rfl,h2,_⟩|⟨g,cap,cur,f,a,rfl,_⟩
 . exact⟨none,0,by rw[h2]⟩
 . exact⟨_,cap,rfl⟩
theorem Holds.pubM{α:Type}{R:Rep α}(n:R.Mono){i:Nat}{K:Own}{B:Nat}{E:TypeId}{size:Nat}{v:Value}{ls:List α}(hi:own[i]? =some K)(p:RowOfM H R B E size v ls K)
 {a:Act}{w:World}(h:Holds x l own H a w):∃f,Hle H f/\IsSlice f R size v ls/\Holds x l (own.set i []) f a w:=by
 obtain⟨cells,⟨h0,h1⟩,q,y⟩:=p;rcases h1 with⟨rfl,h3,rfl⟩|⟨g,cap,cur,r,k,rfl,rfl,e3,e4,e5,e6,e7⟩
 . have:ls= []:=TT.1 h3;subst this;exact⟨H,Rz _,IsSlice.nil _ _ _,h.size,h.ds,h.slots,by
    have e:own.set i []=own:=by
     apply Tl;intro j;rw[T3];split
     . rename_i c;subst c;rw[hi];split
       . rfl
       . rename_i s;have:=(TC.1 hi).1;omega
     . rfl
    rw[e];exact h.mem⟩
 . have t:=Mem.pub0 h.mem hi k;have m:∀o,H g o=none:=λo=>(Zm h.mem hi).apart (g,.cells cur E r) (by simp) o;have d:Hle H (λb o=>if b=g then cur[o]? else H b o):=λb o v e=>by
    by_cases hb:b=g
    . subst hb;rw[m]at e;cases e
    . simp[hb,e]
   refine⟨_,d,?_,h.size,h.ds,h.slots,t⟩;refine PL (q.mono n d) e4 e5 λj u c=> ?_;rw[<-e7,TX]at c;split at c
   . simpa using c
   . cases c
theorem JN.pubM{C:Act->World->Prop}{α:Type}{R:Rep α}(i:Nat)(c:R.Mono){K:Own}{B:Nat}{E:TypeId}{size:Nat}{v:Value}{ls:List α}(hi:own[i]? =some K)(d:RowOfM H R B E size v ls K)
 (h:∀b,Hle H b->IsSlice b R size v ls->JN x C l (own.set i []) b):JN x C l own H:=λa w e=>by
 obtain⟨b,h1,h2,h3⟩:=e.pubM c hi d;exact h b h1 h2 a w h3
theorem ZTh{S T E:TypeId}{m:List UInt8}(hs:x.P.underlying S=some .string)(s:x.P.underlying T=some (.slice E))(D:x.P.underlying E=some (.int .u8))(h1:evo l p=some (.string<|bs m))(F:m.length<=LIM)(G:Nat.blt d x.n=true)
 (h:∀v K,RowOfM H RU8 x.w0.heap.size E 1 v m K->JL x ops Q rest ((d,v)::l) (K::own) H):JL x ops Q (⟨some d,.convert S T p,ty,pos,aft,none⟩::rest) l own H:=λa w i=>by
 simp only[wpLs,ZO,if_true];refine⟨λ_ _=>trivial,?_⟩;have e1:=ZM i h1;have c:=run_bytes_of_string (P:=x.P) w S T E (bs m) hs s D;have q:(bs m).size=m.length:=by show m.toArray.size=_;simp
 rw[q]at c;obtain⟨cap,g⟩:∃cap,cap=grownCap w m.length 0 E:=⟨_,rfl⟩;rw[<-g]at c;have t:m.length<=cap:=by have:=grownCap_ge w m.length 0 E;omega
 have y:cap<=maxLen:=by rw[g];exact grownCap_le_maxLen w m.length 0 E<|QO F
 obtain⟨C,B⟩:∃C,C=bytesRow (bs m) cap:=⟨_,rfl⟩;rw[<-B]at c;have r:C.toList=bvs m++List.replicate (cap-m.length) (.int .u8 0):=by
  rw[B];unfold bytesRow;rw[S4,q];congr 1
  . rw[Array.toList_map];show List.map _ (bs m).data.toList=_;simp[bs,bvs]
 have z:C.size=cap:=by rw[<-TM,r,TG,Zr,SG];omega
 have j:(execOp a.eval ⟨some d,.convert S T p,ty,pos,aft,none⟩).run x.P w=.ok (.value<|.slice (some ⟨w.heap.size,0,none⟩) m.length cap) (w.drew.alloc<|.cells C E (C.size,C.size+1)):=by
  generalize a.eval=ρ at e1;simp only[execOp,e1];exact YQ c
 rw[ZV rfl,j];have f:=Mem.alloc (w:=w.drew) (H:=H) (λb o v e=>i.mem.agr b o v e) (.cells C E (C.size,C.size+1));have A:Mem w H [] [(w.heap.size,.cells C E (C.size,C.size+1))] H (w.drew.alloc<|.cells C E (C.size,C.size+1)):=⟨f.agr,f.ok,⟨f.kept.os,f.kept.tape,f.kept.output,f.kept.size,TS (RJ _) f.kept.drawn,f.kept.block⟩,f.fresh,f.le,f.grow,f.soft⟩;have k:C.toList.take (m.length*1)=bvs m:=by rw[r,SY];exact List.take_left'<|Zr m
 refine h _ [(w.heap.size,.cells C E (C.size,C.size+1))] ⟨bvs m,⟨by simp[Zr],.inr ⟨w.heap.size,cap,C,_,.inr<|TF _,rfl,rfl,i.mem.kept.size,t,y,by rw[z];omega,k⟩⟩,Flat.bytes _,?_⟩ _ _<|Holds.put (x:=x) (l:=l) ?_ G _
 . intro u s;obtain⟨b,_,rfl⟩:=T7.1 s;rfl
 . have:=i.mem.go0 (K':=[[(w.heap.size,.cells C E (C.size,C.size+1))]]) (by simpa using A);exact⟨i.size,i.ds,i.slots,by simpa using this⟩
theorem ZTm (i:Nat){T E e:TypeId}{B:Nat}{ls:List UInt8}{K:Own}(u:x.P.underlying T=some (.slice e))(y:x.P.underlying e=some (.int .u8))(h1:evo l p=some v)(hi:own[i]? =some K)(z:RowOf H RU8 B E 1 v ls K)(A:0<ls.length)(C:Nat.blt d x.n=true)
 (h:∀K',RowOfM H RU8 B E 1 v ls K'->JL x ops Q rest ((d,v)::l) (own.set i K') H):JL x ops Q (⟨some d,.convert T T p,ty,pos,aft,none⟩::rest) l own H:=λa w b=>by
 simp only[wpLs,ZO,if_true];refine⟨λ_ _=>trivial,?_⟩;have e1:=ZM b h1;obtain⟨cells,⟨h0,h2⟩,D,F⟩:=z;rcases h2 with⟨_,h3,_⟩|⟨g,cap,cur,rfl,rfl,e3,e4,e5,e6,e7⟩
 . omega
 have m:=(Zm b.mem hi).here (g,.cells cur E (0,0)) (by simp);have o:∀k,H g k=none:=λk=>(Zm b.mem hi).apart (g,.cells cur E (0,0)) (by simp) k;have r:w.shape? g=some (E,cur.size):=by simp[World.shape?,m]
 have s:w.freeze ⟨g,cur.size,none⟩ 1=w.putObj g (.cells cur E (cur.size,cur.size+1)):=by
  unfold World.freeze World.putObj;rw[TK<|by decide];congr 1;apply Array.ext_getElem?;intro j;rw[S9,Ra];have t:=(TV.1 m).1;by_cases q:g=j
  . subst q;rw[TJ rfl,TJ rfl,m,TJ t];simp
  . rw[TK q,TK q]
 have f:(convert T T<|.slice (some ⟨g,0,none⟩) ls.length cap).run x.P w=.ok (.slice (some ⟨g,0,none⟩) ls.length cap) (w.putObj g<|.cells cur E (cur.size,cur.size+1)):=by
  rw[<-s];simp[convert,run_underlying u,run_underlying y,markStringish,r,go_sem]
 have c:(execOp a.eval ⟨some d,.convert T T p,ty,pos,aft,none⟩).run x.P w=.ok (.value<|.slice (some ⟨g,0,none⟩) ls.length cap) (w.putObj g<|.cells cur E (cur.size,cur.size+1)):=by
  generalize a.eval=ρ at e1;simp only[execOp,e1];exact YQ f
 rw[ZV rfl,c];have G:=b.mem.go1 hi (by simpa[ids]using Mem.putObj b.mem.agr m o (.cells cur E (cur.size,cur.size+1)));exact h _ ⟨cells,⟨h0,.inr ⟨g,cap,cur,_,.inr<|TF _,rfl,rfl,e3,e4,e5,e6,e7⟩⟩,D,F⟩ _ _<|Holds.put (x:=x) (l:=l) ⟨b.size,b.ds,b.slots,G⟩ C _
theorem ZSI{E n:Nat}{z:Value}{size bytes:Nat}{b:Array (Nat×Operand)}{vs:List Value}(m:x.P.underlying t=some (.slice E))(N:eInfo x.P E=some (z,size,bytes))
    (K:b.toList.mapM (λp=>(evo l p.2).map λu=>(p.1,u))=some ((List.range' 0 vs.length).zip vs))(hs:vs.all (λu=>Nat.beq u.cells.size size)=true)
    (hn:n=vs.length)(hb:Nat.ble (n*size) 16777216=true)(O:Nat.blt d x.n=true)
    (h:∀g,x.w0.heap.size<=g->JL x ops Q rest ((d,.slice (some ⟨g,0,none⟩) n n)::l) ([(g,.cells ((vs.map (·.cells.toList)).flatten).toArray E (0,0))]::own) H):JL x ops Q (⟨some d,.buildSlice t n b,ty,pos,aft,none⟩::rest) l own H:=λa w q=>by
  simp only[wpLs,ZO,if_true];refine⟨λ_ _=>trivial,?_⟩;obtain⟨i,hi,R,y,S,T,L⟩:=Zn N;have c:b.map (fun(i,o)=>(i,a.eval o))=((List.range' 0 vs.length).zip vs).toArray:=by
    have D:∀(ps:List (Nat×Operand)) (us:List (Nat×Value)),ps.mapM (λp=>(evo l p.2).map λu=>(p.1,u))=some us->ps.map (fun(i,o)=>(i,a.eval o))=us:=by
      intro ps;induction ps with
      |nil=>intro us e;simp at e;simp[e]
      | cons p ps F=>
        intro us e;simp only[SM]at e;cases B:evo l p.2 with
        |none=>simp[B]at e
        | some u=>
          cases r:ps.mapM (λp=>(evo l p.2).map λu=>(p.1,u))with
          |none=>simp[B,r]at e
          |some G=>simp[B,r]at e;subst e;simp[ZM q B,F G r]
    rw[<-Sr];simpa using D _ _ K
  have f:∀u∈vs,u.cells.size=size:=λu m=>by have:=Ti.1 hs u m;exact TA this
  obtain⟨C,I⟩:∃C,C=((vs.map (·.cells.toList)).flatten).toArray:=⟨_,rfl⟩;have U:((vs.map (·.cells.toList)).flatten).length=n*size:=by
    rw[hn];clear K hn I C c hb h;induction vs with
    |nil=>simp
    | cons v vs F=>
      simp only[Tp,TP,TG,Ts,TM];rw[f v (by simp),F (Ti.2 λu m=>Ti.1 hs u<|by simp[m]) (λu m=>f u<|by simp[m]),TU];omega
  have A:(Instr.buildSlice t n<|((List.range' 0 vs.length).zip vs).toArray).run x.P w=.ok (.slice (some ⟨w.heap.size,0,none⟩) n n) (w.alloc<|.cells C E (0,0)):=by
    have j:∀cells:Array Value,cells.size=n*size->Instr.fill (λi=>some (i*size,size)) cells ((List.range' 0 vs.length).zip vs)=some C:=λcells M=>by
      rw[ZCS vs 0 cells f (by rw[M,hn];simp),I];have:cells.toList.drop ((0+vs.length)*size)= []:=T2 (by rw[TM,M,hn];simp);rw[this];simp
    have J:¬(n*i.size>2^24):=(by have:=TI hb;rw[y];omega);subst y;simp only[Instr.buildSlice,Sem.run_bind,run_underlying m,Result.andThen,Go.sizeOf,typeInfo,run_program,hi,Sem.run_pure,TK J];by_cases h0:n*i.size=0
    . simp only[h0,if_true,Sem.run_bind,Sem.run_pure,Result.andThen,Tf];have:=j (Array.map (λx=>(#[]:Array Value)[x%(#[]:Array Value).size]!)<|Array.range (n*i.size)) (by simp);simp only[h0]at this;simp only[this,newRow,Sem.run_bind,run_newObj_alloc,Result.andThen,Sem.run_pure]
    . simp only[h0,if_false,Sem.run_bind,QA (show YK x.P E=some z by simp[YK,hi,R]),Result.andThen,Sem.run_pure,Tf];have:=j (Array.map (λk=>z.cells[k%z.cells.size]!)<|Array.range (n*i.size)) (by simp);simp only[this,newRow,Sem.run_bind,run_newObj_alloc,Result.andThen,Sem.run_pure]
  have s:(execOp a.eval ⟨some d,.buildSlice t n b,ty,pos,aft,none⟩).run x.P w=.ok (.value<|.slice (some ⟨w.heap.size,0,none⟩) n n) (w.alloc<|.cells C E (0,0)):=by
    simp only[execOp,c];exact YQ A
  rw[ZV rfl,s];rw[<-I]at h;exact h w.heap.size q.mem.kept.size _ _<|Holds.put (x:=x) (l:=l) ⟨q.size,q.ds,q.slots,by simpa using q.mem.go0 (K':=[[(w.heap.size,.cells C E (0,0))]]) (by simpa using Mem.alloc q.mem.agr (.cells C E (0,0)))⟩ O _
variable{x:Cx}{ops:Array Oper}{Q:Exit->Act->World->Prop}{rest:List Oper}{l:Slots}{own:List Own}{H HF:Heaplet}
variable{ty:TypeId}{d:Nat}{pos:String}{aft:Array Edge}{v:Value}{p q:Operand}{t u:TypeId}
theorem ZK2{w:World}{b o:Nat}{cur:Array Value}{T:TypeId}{f:Nat×Nat}(h:w.heap[b]? =some (.cells cur T f)){j:Nat}{u:Value}(a:cur[o+j]? =some u):w.cell? ⟨b,o+j,none⟩=some u:=by
 simp only[World.cell?,h];simpa using a
theorem ZSM{α:Type}{R:Rep α}(i:Nat){m E:TypeId}{z y:Value}{size bytes b o:Nat}{cur:Array Value}{T:TypeId}{cells:List Value}{ls s N:List α}(F:x.P.underlying t=some (.slice E))(U:eInfo x.P E=some (z,size,bytes))
 (hi:own[i]? =some [(b,.cells cur T (0,0))])(h1:evo l p=some (.slice (some ⟨b,o,none⟩) ls.length ls.length))(O:Flat HF R size cells ls)(hone:YS cells)(V:∀j u,cells[j]? =some u->cur[o+j]? =some u)(h2:evo l q=some y)(v:SrcF x H HF own R size m y s)
 (W:s≠[])(G:N=ls++s)(S:ls.length+s.length<=LIM)(hb:Nat.ble bytes 128=true)(X:Nat.blt d x.n=true)
 (h:∀v' K',RowOf HF R x.w0.heap.size E size v' N K'->JL x ops Q rest ((d,v')::l) (K'::own) H):
 JL x ops Q (⟨some d,.call ⟨.builtin .append,#[p,q],#[t,m]⟩,ty,pos,aft,none⟩::rest) l own H:=λa w c=>by
 subst G;simp only[wpLs,ZO,if_true];refine⟨λ_ _=>trivial,?_⟩;obtain⟨A,I,f,J⟩:=v;have e:cells.length=ls.length*size:=O.length;have K:=(Zm c.mem hi).here (b,.cells cur T (0,0)) (by simp);have B:(Builtin.firstCells size ls.length<|.slice (some ⟨b,o,none⟩) ls.length ls.length).run x.P w.drew=.ok cells.toArray w.drew:=
  run_firstCells_some (P:=x.P) w.drew size ls.length ⟨b,o,none⟩ ls.length ls.length cells e (λj u h=>by
   rw[add_lit];exact ZK2 (w:=w) K (V j u h))
 have L:0<s.length:=List.length_pos_iff.2 W;obtain⟨v',K',Y,C,g,D⟩:=ZFV (ty:=ty) F U c.mem.agr e B (J w c.mem) L (QO S) (XY S hb) c.mem.kept.size;have k:(execOp a.eval ⟨some d,.call ⟨.builtin .append,#[p,q],#[t,m]⟩,ty,pos,aft,none⟩).run x.P w=.ok (.value v') Y:=by
  have e1:=ZM c h1;have e2:=ZM c h2;have:(execOp a.eval ⟨some d,.call ⟨.builtin .append,#[p,q],#[t,m]⟩,ty,pos,aft,none⟩).run x.P w=((Builtin.append_ #[t,m] ty #[.slice (some ⟨b,o,none⟩) ls.length ls.length,y]).run x.P w).andThen (λr M=>.ok (.value r) M):=by
   generalize a.eval=ρ at e1 e2;have e3:Array.map ρ #[p,q]= #[.slice (some ⟨b,o,none⟩) ls.length ls.length,y]:=(by simp[e1,e2]);simp only[execOp,resolve,e3,Sem.run_bind,Sem.run_pure,Result.andThen,invoke,builtin]
  rw[this,C];rfl
 rw[ZV rfl,k];refine h v' K' ⟨cells++A,by simpa using g,Flat.append I O,λu F=>(TR.1 F).elim (hone u) (f u)⟩ _ _<|Holds.put (x:=x) (l:=l) ⟨c.size,c.ds,c.slots,?_⟩ X v';simpa using c.mem.go0 (K':=[K']) (by simpa using D)
theorem ZQe{α:Type}{R:Rep α}(i:Nat){G e:TypeId}{g:Bool}{b o n:Nat}{cur:Array Value}{T:TypeId}{c:List α}{y:Value}(I:x.P.underlying t=some (.slice e))(J:ZE x.P e=some (g,1))
 (hi:own[i]? =some [(b,.cells cur T (0,0))])(h1:evo l p=some (.slice (some ⟨b,o,none⟩) n n))(hn:o+n<=cur.size)(h2:evo l q=some y)(hc:CSrc x H HF own R 1 y c)(hd:Nat.blt d x.n=true)
 (h:∀cs,Flat HF R 1 cs (c.take n)->cs.length<=n->JL x ops Q rest ((d,.int .i64<|min (c.length:Int) (n:Int))::l) (own.set i [(b,.cells (cur.toList.take o++cs++cur.toList.drop (o+cs.length)).toArray T (0,0))]) H):
 JL x ops Q (⟨some d,.call ⟨.builtin .copy,#[p,q],#[t,G]⟩,ty,pos,aft,none⟩::rest) l own H:=λa w f=>by
 have e1:=ZM f h1;have e2:=ZM f h2;simp only[wpLs,ZO,if_true];refine⟨λ_ _=>trivial,?_⟩;obtain⟨ao,cap,rfl,cells,hf,hone,s⟩:=hc;have base:∀u K,(Builtin.copy_ #[t,G] ty #[.slice (some ⟨b,o,none⟩) n n,.slice ao c.length cap]).run x.P w=.ok u K->
  (execOp a.eval ⟨some d,.call ⟨.builtin .copy,#[p,q],#[t,G]⟩,ty,pos,aft,none⟩).run x.P w=.ok (.value u) K:=λu K hr=>by
  generalize a.eval=ρ at e1 e2;have e3:Array.map ρ #[p,q]= #[.slice (some ⟨b,o,none⟩) n n,.slice ao c.length cap]:=by simp[e1,e2]
  simp only[execOp,resolve,e3,Sem.run_bind,Sem.run_pure,Result.andThen,invoke,builtin,hr]
 obtain⟨N,m⟩:∃N,N=Nat.min c.length n:=⟨_,rfl⟩;have v:N<=c.length:=by rw[m];exact Nat.min_le_left _ _
 have M:N<=n:=by rw[m];exact Nat.min_le_right _ _
 have O:(N:Int)=min (c.length:Int) (n:Int):=by rw[m];show((min c.length n:Nat):Int)=_;omega
 have S:c.take n=c.take N:=by
  by_cases Y:c.length<=n
  . have:N=c.length:=(by rw[m];exact Tr Y);rw[this,RN,TZ Y]
  . have:N=n:=(by rw[m];exact Re<|by omega);rw[this]
 have j:=s w f.mem N v;rw[SY]at j;have U:(Go.sizeOf e).run x.P w=.ok 1 w:=run_sizeOf J w;have r:=(PN N hf).1;rw[SY]at r;have z:(c.take N).length=N:=by rw[TH,Tr v]
 have A:(cells.take N).length=N:=by have:=r.length;rw[z,SY]at this;exact this
 rw[S]at h;have B:=Zm f.mem hi;rw[<-O]at h;have E:=B.here (b,.cells cur T (0,0)) (by simp);have V:∀o,H b o=none:=λo=>B.apart (b,.cells cur T (0,0)) (by simp) o;have F:o+0+(cells.take N).length<=cur.size:=by rw[A];omega
 have k:=run_storeCells_at x.P b o T (cells.take N) 0 cur w E F λu I=>hone u<|SX I;simp only[SI]at k;obtain⟨C,Z⟩:∃C,C=(cur.toList.take o++cells.take N++cur.toList.drop (o+(cells.take N).length)).toArray:=⟨_,rfl⟩;rw[<-Z]at k;have W:(Builtin.copy_ #[t,G] ty #[.slice (some ⟨b,o,none⟩) n n,.slice ao c.length cap]).run x.P w=.ok (.int .i64 (N:Int)) (w.setRow b C):=by
  generalize c.length=L at m j|-;generalize cells.take N=D at j k;simp[Builtin.copy_,run_underlying I,Builtin.lenOf,U,<-m,j,k,goInt,Sem.run_bind,Sem.run_pure,Result.andThen]
 rw[ZV rfl,base _ _ W];have X:=f.mem.go1 hi (by simpa[ids]using Mem.setRow f.mem.agr E V C);have:=h (cells.take N) r (by rw[A];exact M);rw[<-Z]at this;exact this _ _<|Holds.put (x:=x) (l:=l) ⟨f.size,f.ds,f.slots,X⟩ hd _
theorem R.slA{N e q b o:Nat}{g:Bool}{lo:Option Operand}(d:x.P.underlying t=some (.array N e))(hs:ZE x.P e=some (g,1))(h1:evo l p=some (.pointer<|some ⟨b,o,none⟩))
    (h:match lo with|none=>q=0|some op=>∃k,evo l op=some (.int k (q:Int)))(f:q<N):Runs x (.slice t p lo none none) ty l own H (.slice (some ⟨b,o+q,none⟩) (N-q) (N-q)):=λρ w _ _ _ _ a i=>by
  simp only[execOp,a _ _ h1];refine YQ ?_;have c:(Go.sizeOf e).run x.P w=.ok 1 w:=run_sizeOf hs w;cases lo with
  | none=>
    subst h;have h0:¬N=0:=(by omega);simp[Instr.sliceAt,run_underlying d,Instr.sliceBounds,Instr.sureAddr,asAddr,c,Sem.run_bind,Sem.run_pure,Result.andThen,h0,Addr.add]
  | some op=>
    obtain⟨k,h2⟩:=h;have h0:¬N=q:=(by omega);have h3:(q:Int)<=(N:Int):=(by omega);simp[Instr.sliceAt,run_underlying d,Instr.sliceBounds,ZGe,Instr.sureAddr,asAddr,c,Sem.run_bind,Sem.run_pure,Result.andThen,h0,h3,a _ _ h2,Addr.add,show q<=N by omega]
variable{x:Cx}{l:Slots}{own:List Own}{H:Heaplet}{ty:TypeId}
theorem ZMX{P:Program}{w:World}{v:Value}{m:List UInt8}{c:UInt8}(h:Agrees H w)(hs:IsSlice H RU8 1 v m):
 (Extern.BytealgIndexByte.indexByte #[v,.int .u8 (c.toNat:Int)]).run P w=.ok (.int .i64<|Lib.indexByte m c) w:=by
 have hb:=ZKv (P:=P) h hs;have h2:=Lib.run_indexByteString (P:=P) ⟨m.toArray⟩ (c.toNat:Int) w;have a:(c.toNat:Int).toNat.toUInt8=c:=by simp
 rw[a]at h2;change Sem.run P (do
  let b<-Extern.Bytes.bytesOf v;let c<-Extern.Bytes.asByte (.int .u8 (c.toNat:Int))
  match (List.range b.size).find? λi=>b[i]! ==c with
  |some i=>pure (goInt i)
  |none=>pure<|goInt (-1)) w=_
 change Sem.run P (do
  let b<-Extern.Bytes.bytesOf (.string ⟨m.toArray⟩);let c<-Extern.Bytes.asByte (.int .u8 (c.toNat:Int))
  match (List.range b.size).find? λi=>b[i]! ==c with
  |some i=>pure (goInt i)
  |none=>pure<|goInt (-1)) w=_ at h2
 simp only[Extern.Bytes.bytesOf,Sem.run_bind,Sem.run_pure,Result.andThen]at h2;simp only[Sem.run_bind,hb,Result.andThen];exact h2
end Go.Ow
namespace Go.Pv
open Go Go.Ow
noncomputable section
inductive RC where
  |own (t:Ty) (E:Nat) (m:List (den t))
  |pub (t:Ty) (m:List (den t))
  |mrk (E:Nat) (m:List UInt8)
  |dead
  |junk
structure PS where
  N:Nat
  l:List (Nat×CV)
  o:List ((Nat×Nat)×CV)
  z:List (Nat×Nat)
  n:Nat
  f:List Nat
  c:Nat
  r:List (Nat×RC)
inductive Ex where
  |norm|exit (id:Nat)|ret
inductive Pt where
  |d (y:Ty) (w:List (Nat×Nat×Nat))
  |n
  |rr (k:Nat)
  |ptr (k o:Nat)
  |el (y:Ty) (o:Nat)
  |oel (y:Ty)
  |rel (y:Ty) (k o:Nat)
  |orel (y:Ty) (k:Nat)
  |cl (y:Ty)
  |bor (y:Ty) (k E:Nat)
  |rv (y:Ty) (k:Nat)
  |ag (n:Nat)
  |tu (n:Nat)
  |clo (f n m:Nat)
  |c (v:CV)
  |x
inductive Bp where
  |cells (n:Nat) (ps:List Pt)
  |row
structure Sp where
  vs:List Pt
  bs:List Bp
def hyP (p:Pt):List Hy:=match p with
 | .d y _=> [.d y]| .n=> [.n]| .el y _=> [.d y]| .oel y=> [.o y]| .rel _ _ _=> [.d .i]| .orel _ _=> [.o .i]| .cl y=> [.d<|.sl y]| .bor y _ _=> [.d<|.sl y]| .rv _ _=> [.d .i]|_=> []
def hyL (l:List Pt):List Hy:=List.rec [] (λp _ i=>hyP p++i) l
def hyB (l:List Bp):List Hy:=List.rec [] (λb _ i=>match b with| .cells _ ps=>hyL ps++i| .row=>i) l
def hyS (S:Sp):List Hy:=hyL S.vs++hyB S.bs
structure Spec where
  i:Sp
  o:Sp
  f:VH (hyS i)->Option (VH<|hyS o)
structure Kx where
  e:Ex
  ts:List Nat
  cs:List (Nat×Nat×Nat)
  S:Sp
  ol:List Nat
structure Cut where
  ks:List Kx
  dc:List (Nat×Nat)
  dr:List Nat
structure Lp where
  h:Kx
  ks:List Kx
  dc:List (Nat×Nat)
  dr:List Nat
abbrev Pa:=Nat×Option Nat
structure HK where
  e:Ex
  ts:List Nat
  cs:List (Nat×Nat×Nat)
  S:Sp
  ol:List Pa
structure HCut where
  ks:List HK
  dc:List (Nat×Nat×Nat)
  dr:List Pa
structure HLp where
  h:HK
  ks:List HK
  dc:List (Nat×Nat×Nat)
  dr:List Pa
  g:List (Pa×Pa)
inductive NK where
  |count|index
structure Env where
  P:Program
  ty:List (Nat×Ty)
  sp:Nat->List Spec
  dsp:Nat->List Spec
  nt:List (Nat×NK)
  hb:List Nat
structure Hints where
  cut:List (Nat×HCut)
  lp:List (Nat×HLp)
  un:List (Nat×Nat)
  mb:List (Nat×List Nat)
  pb:List Nat
  mv:List Nat
section
variable{β:Type}
abbrev ZK{α:Type}(l:List (Nat×α))(i:Nat):Option α:=List.rec none (λp _ a=>Bool.rec a (some p.2) (Nat.beq p.1 i)) l
abbrev lkO{α:Type}(l:List ((Nat×Nat)×α))(i j:Nat):Option α:=List.rec none (λp _ a=>Bool.rec a (Bool.rec a (some p.2) (Nat.beq p.1.2 j)) (Nat.beq p.1.1 i)) l
abbrev oB{α:Type}(a:Option α)(k:α->Option β):Option β:=Option.rec none k a
abbrev bb (b:Bool)(x y:Option β):Option β:=Bool.rec y x b
abbrev Xq{α:Type}(l:List α)(k:List α->Option β):Option β:=List.rec (λk=>k []) (λa _ i k=>i λr=>k (a::r)) l k
abbrev kn (c:CV)(k:CV->Option β):Option β:=match c with| .unk=>none|c=>k c
abbrev fC (c:CV)(k:CV->Option β):Option β:=match c with
 | .i n=>k (.i n)| .n i j=>k (.n i j)| .ln j=>k (.ln j)| .bc i m n=>k (.bc i m n)| .w8 x=>k (.w8 x)| .w32 x=>k (.w32 x)| .w64 x=>k (.w64 x)| .b x=>k (.b x)| .s l=>k (.s l)| .sl t m=>k (.sl t m)| .cl t m=>k (.cl t m)| .rv t i g=>k (.rv t i g)| .sv i o n=>k (.sv i o n)| .nils=>k .nils| .nilp=>k .nilp| .nili=>k .nili
 | .ptr a b=>k (.ptr a b)| .el t x o=>k (.el t x o)| .fn f=>k (.fn f)| .row i=>k (.row i)| .rel t i j o=>k (.rel t i j o)| .oel t x=>k (.oel t x)| .orel t i x=>k (.orel t i x)| .clo f l m=>Xq l λl=>Xq m λm=>k (.clo f l m)| .ag l=>Xq l λl=>k (.ag l)| .tu l=>Xq l λl=>k (.tu l)| .und=>k .und| .any=>k .any| .unk=>k .unk
abbrev PS.lay (s:PS)(d:Nat)(c:CV)(k:PS->Option β):Option β:=match s with|⟨N,l,o,z,n,f,q,r⟩=>k ⟨N,(d,c)::l,o,z,n,f,q,r⟩
abbrev PS.put (s:PS)(d:Nat)(c:CV)(k:PS->Option β):Option β:=fC c λc=>bb (Nat.blt d s.N) (s.lay d c k) none
def vC (v:Value):Option CV:=match v with
 | .int .i64 n=>some (.i n)
 | .int .u8 n=>Bool.rec none (some (.w8 (UInt8.ofNat n.toNat))) (Bool.and (decide (0<=n)) (decide (n<256)))
 | .int .u32 n=>Bool.rec none (some (.w32 (UInt32.ofNat n.toNat))) (Bool.and (decide (0<=n)) (decide (n<4294967296)))
 | .int .u64 n=>Bool.rec none (some (.w64 (UInt64.ofNat n.toNat))) (Bool.and (decide (0<=n)) (decide (n<18446744073709551616)))
 | .bool b=>some (.b b)
 | .string s=>some (.s s.data.toList)
 | .slice none 0 0=>some .nils
 | .pointer none=>some .nilp
 | .nilIface=>some .nili
 | .nilFunc=>some .any
 |_=>none
abbrev vCs (l:List Value)(k:List CV->Option β):Option β:=List.rec (λk=>k []) (λv _ i k=>oB (vC v) λc=>i λr=>k (c::r)) l k
abbrev rsv (s:PS)(c:CV)(k:CV->Option β):Option β:=match c with
 | .row j=>(match ZK s.r j with|some (.pub t m)=>k (.sl t m)|some (.own _ _ _)=>k (.row j)|some (.mrk _ _)=>k (.row j)|_=>none)
 |c=>k c
abbrev rsvD (s:PS)(l:List CV):(List CV->Option β)->Option β:=List.rec (λk=>k []) (λc _ i k=>rsv s c λc=>i λr=>k (c::r)) l
abbrev ev (s:PS)(o:Operand)(k:CV->Option β):Option β:=match o with
 | .tmp t=>oB (ZK s.l t) λc=>kn c λc=>rsv s c k
 | .const v=>(match v with| .agg cs=>vCs cs.toList λl=>k (.ag l)|v=>oB (vC v) λc=>fC c k)
 | .func f=>k (.fn f)
 | .global _=>none
abbrev evL (s:PS)(l:List Operand)(k:List CV->Option β):Option β:=List.rec (λk=>k []) (λo _ i k=>ev s o λc=>i λr=>k (c::r)) l k
abbrev eqI (a b:Int):Bool:=Int.rec (λx=>Int.rec (λy=>Nat.beq x y) (λ_=>false) b) (λ_=>false) a
abbrev bI (op:BinOp)(m n:Int)(k:CV->Option β):Option β:=match op with
 | .add=>k (.i<|Ow.w64 (m+n))| .sub=>k (.i<|Ow.w64 (m-n))| .mul=>k (.i<|Ow.w64 (m*n))
 | .quo=>chk (n≠0) (k<|.i<|Ow.w64<|m.tdiv n)| .rem=>chk (n≠0) (k<|.i<|m.tmod n)
 | .and=>k (.i<|and64 m n)| .or=>k (.i<|or64 m n)| .xor=>k (.i<|xor64 m n)
 | .shl=>chk (0<=n) (k<|.i<|sli m n)| .shr=>chk (0<=n) (k<|.i<|sri m n)
 | .lss=>k (.b<|decide (m<n))| .leq=>k (.b<|decide (m<=n))| .gtr=>k (.b<|decide (n<m))| .geq=>k (.b<|decide (n<=m))
 | .eql=>k (.b<|decide (m=n))| .neq=>k (.b<|!decide (m=n))|_=>none
abbrev b8 (op:BinOp)(m n:UInt8)(k:CV->Option β):Option β:=match op with
 | .add=>k (.w8 (m+n))| .sub=>k (.w8 (m-n))| .mul=>k (.w8 (m*n))| .quo=>chk (n≠0) (k<|.w8 (m/n))| .rem=>chk (n≠0) (k<|.w8 (m%n))
 | .and=>k (.w8 (m&&&n))| .or=>k (.w8<|m |||n)| .xor=>k (.w8 (m^^^n))
 | .lss=>k (.b<|decide (m<n))| .leq=>k (.b<|decide (m<=n))| .gtr=>k (.b<|decide (n<m))| .geq=>k (.b<|decide (n<=m))
 | .eql=>k (.b<|decide (m=n))| .neq=>k (.b<|!decide (m=n))|_=>none
abbrev b32 (op:BinOp)(m n:UInt32)(k:CV->Option β):Option β:=match op with
 | .add=>k (.w32 (m+n))| .sub=>k (.w32 (m-n))| .mul=>k (.w32 (m*n))| .quo=>chk (n≠0) (k<|.w32 (m/n))| .rem=>chk (n≠0) (k<|.w32 (m%n))
 | .and=>k (.w32 (m&&&n))| .or=>k (.w32<|m |||n)| .xor=>k (.w32 (m^^^n))
 | .lss=>k (.b<|decide (m<n))| .leq=>k (.b<|decide (m<=n))| .gtr=>k (.b<|decide (n<m))| .geq=>k (.b<|decide (n<=m))
 | .eql=>k (.b<|decide (m=n))| .neq=>k (.b<|!decide (m=n))|_=>none
abbrev b64 (op:BinOp)(m n:UInt64)(k:CV->Option β):Option β:=match op with
 | .add=>k (.w64 (m+n))| .sub=>k (.w64 (m-n))| .mul=>k (.w64 (m*n))| .quo=>chk (n≠0) (k<|.w64 (m/n))| .rem=>chk (n≠0) (k<|.w64 (m%n))
 | .and=>k (.w64 (m&&&n))| .or=>k (.w64<|m |||n)| .xor=>k (.w64 (m^^^n))
 | .lss=>k (.b<|decide (m<n))| .leq=>k (.b<|decide (m<=n))| .gtr=>k (.b<|decide (n<m))| .geq=>k (.b<|decide (n<=m))
 | .eql=>k (.b<|decide (m=n))| .neq=>k (.b<|!decide (m=n))|_=>none
abbrev eqC (x y:CV)(k:Bool->Option β):Option β:=match x,y with
 | .i a,.i b=>k (decide (a=b))
 | .w8 a,.w8 b=>k (decide (a=b))
 | .w32 a,.w32 b=>k (decide (a=b))
 |_,_=>none
def isInt (P:Program)(T:Nat):Bool:=match P.underlying T with|some (.int _)=>true|_=>false
abbrev ZP2 (P:Program)(ih:Nat->List CV->List CV->(Bool->Option β)->Option β)(xs ys:List CV)(fs:List Field):(Bool->Option β)->Option β:=
  List.rec (λk=>k true)
    (fun f _ ihf k => bb (decide (f.name ≠ "_")) (match ZE P f.type with
      |some (true,n)=>bb (Bool.and (Nat.ble (f.offset+n) xs.length)<|Nat.ble (f.offset+n) ys.length) (ih f.type ((xs.drop f.offset).take n) ((ys.drop f.offset).take n) λe=>ihf λr=>k<|and e r) none
      |some (false,_)=>oB xs[f.offset]? λx=>oB ys[f.offset]? λy=>bb (isInt P f.type) (eqC x y λe=>ihf λr=>k<|and e r) none
      |none=>none) none) fs
def eqOk (P:Program)(T:Nat):Bool:=(match P.underlying T with|some (.struct _)=>true|_=>false)&&(!P.stoodInHeld T&& !P.eqGuardType P.depth T)
abbrev eqA (P:Program):Nat->Nat->List CV->List CV->(Bool->Option β)->Option β:=λn=>Nat.rec (λ_ _ _ _=>none) (λ_ i T xs y k=>bb (eqOk P T) (ZP2 P i xs y (P.fieldsOf T).toList k) none) n
def isArr (P:Program)(T:Nat):Bool:=match P.underlying T with|some (.array _ _)=>true|_=>false
def arrOk (P:Program)(T n:Nat):Bool:=match P.underlying T with|some (.array m e)=>Bool.and (Nat.beq m n) (Bool.and (match P.underlying e with|some (.int .u8)=>true|_=>false)<|Bool.and (match ZE P e with|some (false,1)=>true|_=>false)<|Bool.and (Nat.beq (P.cellsOf e) 1)<|!P.eqGuardType P.depth T)|_=>false
abbrev o8l (l:List CV)(k:List UInt8->Option β):Option β:=List.rec (λk=>k []) (λc _ i k=>o8 c λa=>i λr=>k (a::r)) l k
abbrev eqY (P:Program)(T:Nat)(xs y:List CV)(k:Bool->Option β):Option β:=bb (Bool.and (arrOk P T xs.length)<|arrOk P T y.length) (o8l xs λas=>o8l y λbs=>k<|decide (as=bs)) none
abbrev fb (op:BinOp)(e:Bool)(k:CV->Option β):Option β:=match op with| .eql=>k (.b e)| .neq=>k (.b (!e))|_=>none
abbrev ZQM (op:BinOp)(x:CV)(n:Int)(k:CV->Option β):Option β:=match x with
 | .i m=>bI op m n k
 | .n _ m=>bI op (m:Int) n k
 | .ln m=>bI op (m:Int) n k
 |_=>none
abbrev Xu (l:List Nat)(i:Nat):Bool:=List.rec false (λj _ a=>Bool.rec a true (Nat.beq j i)) l
def isPtr (P:Program)(T:Nat):Bool:=match P.underlying T with|some (.pointer _)=>true|_=>false
abbrev pnl (op:BinOp)(x:CV)(k:CV->Option β):Option β:=match x with
 | .nilp=>fb op true k
 | .ptr _ _=>fb op false k
 | .el _ _ _=>fb op false k
 | .rel _ _ _ _=>fb op false k
 | .oel _ x=>fb op x.isNone k
 | .orel _ _ x=>fb op x.isNone k
 |_=>none
abbrev oIx (c:CV)(k:Int->Option β):Option β:=match c with| .i n=>k n| .n _ j=>k (j:Int)| .ln j=>k (j:Int)| .w8 a=>k (a.toNat:Int)| .w32 a=>k (a.toNat:Int)| .w64 a=>k (a.toNat:Int)|_=>none
def agree (a b:Option β):Option β:=@ite _ (a=b) (Classical.propDecidable _) a none
def nilq{α:Type}(m:List α)(a b:Option β):Option β:=match m with|[]=>agree a b|_::_=>b
def isSlT (P:Program)(T:Nat):Bool:=match P.underlying T with|some (.slice _)=>true|_=>false
abbrev isSh (op:BinOp):Bool:=match op with| .shl=>true| .shr=>true|_=>false
abbrev shW (op:BinOp)(x:CV)(n:Int)(k:CV->Option β):Option β:=match op,x with
 | .shl,.i m=>chk (0<=n) (k<|.i<|sli m n)| .shr,.i m=>chk (0<=n) (k<|.i<|sri m n)
 | .shl,.w8 m=>chk (0<=n) (k<|.w8<|sl8 m n.toNat)| .shr,.w8 m=>chk (0<=n) (k<|.w8<|sr8 m n.toNat)
 | .shl,.w32 m=>chk (0<=n) (k<|.w32<|sl32 m n.toNat)| .shr,.w32 m=>chk (0<=n) (k<|.w32<|sr32 m n.toNat)
 | .shl,.w64 m=>chk (0<=n) (k<|.w64<|sl64 m n.toNat)| .shr,.w64 m=>chk (0<=n) (k<|.w64<|sr64 m n.toNat)
 |_,_=>none
abbrev bop0 (X:Env)(s:PS)(op:BinOp)(T:Nat)(x y:CV)(k:CV->Option β):Option β:=match y with
  | .i n=>ZQM op x n k
  | .n _ n=>ZQM op x (n:Int) k
  | .ln n=>(match op,x with| .lss,.n c m=>k (.bc c m n)|op,x=>ZQM op x (n:Int) k)
  | .w8 n=>(match x with| .w8 m=>b8 op m n k|_=>none)
  | .w32 n=>(match x with| .w32 m=>b32 op m n k|_=>none)
  | .w64 n=>(match x with| .w64 m=>b64 op m n k|_=>none)
  | .b n=>(match x,X.P.underlying T with| .b m,some .bool=>fb op (m==n) k|_,_=>none)
  | .s n=>(match x with| .s m=>fb op (decide (m=n)) k|_=>none)
  | .nilp=>bb (isPtr X.P T) (pnl op x k) none
  | .nils=>(match x with
    | .sl _ m=>bb (isSlT X.P T) (nilq m (fb op true k)<|fb op false k) none
    | .nils=>bb (isSlT X.P T) (fb op true k) none
    | .row j=>(match ZK s.r j with|some (.own _ _ m)=>bb (isSlT X.P T) (nilq m (fb op true k)<|fb op false k) none|_=>none)
    |_=>none)
  | .ag a=>(match x with| .ag xs=>Bool.rec (eqA X.P 8 T xs a λe=>fb op e k) (eqY X.P T xs a λe=>fb op e k) (isArr X.P T)|_=>none)
  |_=>none
abbrev bop (X:Env)(s:PS)(op:BinOp)(T:Nat)(x y:CV)(k:CV->Option β):Option β:=Bool.rec (bop0 X s op T x y k) (oIx y λn=>shW op x n k) (isSh op)
def isInc (s:PS)(op:BinOp)(x y:CV):Bool:=match op,x,y with| .add,.n c _,.i n=>Bool.and (eqI n 1) (Xu s.f c)|_,_,_=>false
abbrev incr (s:PS)(d:Nat)(x:CV)(k:PS->Option β):Option β:=match x,s with| .n _ m,⟨N,l,o,z,n,f,c,r⟩=>PS.put ⟨N,l,o,z,n,f,Nat.succ c,r⟩ d (.n c (m+1)) k|_,_=>none
abbrev cvI (m:Int)(k:IntKind)(c:CV->Option β):Option β:=match k with| .i64=>c (.i<|Ow.w64 m)| .u8=>c (.w8<|u8i m)| .u32=>c (.w32<|u32i m)| .u64=>c (.w64<|u64i m)|_=>none
abbrev cv8 (a:UInt8)(k:IntKind)(c:CV->Option β):Option β:=match k with| .i64=>c (.i (a.toNat:Int))| .u8=>c (.w8 a)| .u32=>c (.w32 a.toUInt32)| .u64=>c (.w64 a.toUInt64)|_=>none
abbrev cv32 (a:UInt32)(k:IntKind)(c:CV->Option β):Option β:=match k with| .i64=>c (.i (a.toNat:Int))| .u8=>c (.w8 a.toUInt8)| .u32=>c (.w32 a)| .u64=>c (.w64 a.toUInt64)|_=>none
abbrev cv64 (a:UInt64)(k:IntKind)(c:CV->Option β):Option β:=match k with| .i64=>c (.i<|Ow.w64 (a.toNat:Int))| .u8=>c (.w8 a.toUInt8)| .u32=>c (.w32 a.toUInt32)| .u64=>c (.w64 a)|_=>none
abbrev cvT (x:CV)(c:CV->Option β):Option β:=match x with
 | .sl t m=>cast (.sl t) (.sl .w8) m λm=>c (.s m)
 | .cl t m=>cast (.sl t) (.sl .w8) m λm=>c (.s m)
 | .nils=>c (.s [])
 |_=>none
def isU8 (P:Program)(T:Nat):Bool:=match P.underlying T with|some (.slice e)=>(match P.underlying e with|some (.int .u8)=>true|_=>false)|_=>false
abbrev cvO (X:Env)(S T:Nat)(x:CV)(c:CV->Option β):Option β:=match X.P.underlying T with
  | some (.int k)=>(match X.P.underlying S,x with
    |some _,.i m=>cvI m k c
    |some _,.n _ m=>cvI (m:Int) k c
    |some _,.ln m=>cvI (m:Int) k c
    |some _,.w8 a=>cv8 a k c
    |some _,.w32 a=>cv32 a k c
    |some _,.w64 a=>cv64 a k c
    |_,_=>none)
  |some .string=>bb (isU8 X.P S) (cvT x c) none
  |_=>none
def oneC (c:CV):Bool:=match c with| .ag _=>false| .tu _=>false| .und=>false| .any=>false| .unk=>false|_=>true
def allB{α:Type}(f:α->Bool)(l:List α):Bool:=List.rec true (λa _ i=>Bool.rec false i (f a)) l
abbrev ldN (s:PS)(a:Nat):Nat->Nat->(List CV->Option β)->Option β:=λn=>Nat.rec (λ_ k=>k []) (λ_ i o k=>oB (lkO s.o a o) λc=>kn c λc=>i (Nat.succ o) λr=>k (c::r)) n
abbrev ldO (P:Program)(s:PS)(T a o:Nat)(k:CV->Option β):Option β:=match ZE P T with
 |some (false,_)=>oB (lkO s.o a o) λc=>kn c k
 |some (true,n)=>ldN s a n o λl=>k (.ag l)
 |none=>none
abbrev ldE (P:Program)(T:Nat)(l:List CV)(o:Nat)(k:CV->Option β):Option β:=match ZE P T with
 |some (false,_)=>oB (l.drop o).head? k
 |some (true,n)=>(λm=>bb (Nat.beq m.length n) (k<|.ag m) none) ((l.drop o).take n)
 |none=>none
abbrev ZH0 (a:Nat)(l:List CV):Nat->List ((Nat×Nat)×CV)->(List ((Nat×Nat)×CV)->Option β)->Option β:=List.rec (λ_ m k=>k m) (λc _ i o m k=>i (Nat.succ o) (((a,o),c)::m) k) l
abbrev PS.new (s:PS)(d:Nat)(l:List CV)(k:PS->Option β):Option β:=match s with|⟨N,ls,o,z,n,f,c,r⟩=>ZH0 n l 0 o λo=>PS.put ⟨N,ls,o,(n,l.length)::z,Nat.succ n,f,c,r⟩ d (.ptr n 0) k
abbrev PS.sto (s:PS)(a o:Nat)(l:List CV)(k:PS->Option β):Option β:=match s with|⟨N,ls,b,z,n,f,c,r⟩=>oB (ZK z a) λm=>bb (Nat.ble (o+l.length) m) (ZH0 a l o b λb=>k ⟨N,ls,b,z,n,f,c,r⟩) none
def layL (l:List CV)(o:Nat)(v:List CV):List CV:=l.take o++v++l.drop (o+v.length)
abbrev zC (P:Program)(T:Nat)(k:List CV->Option β):Option β:=match YK P T with|some z=>vCs z.cells.toList k|none=>none
def fits (p:List (Nat×Nat))(m:Nat)(i:Nat)(v:List CV):Bool:=match p[i]? with|some (o,n)=>Bool.and (Nat.beq v.length n) (Nat.ble (o+n) m)|none=>false
abbrev bldL (a:List (Nat×Nat))(z:List CV)(l:List (Nat×CV)):(List CV->Option β)->Option β:=List.rec (λz k=>Xq z k) (λp _ i z k=>(λv=>bb (fits a z.length p.1 v) (match a[p.1]? with|some (o,_)=>i (layL z o v) k|none=>none) none) (Yw p.2)) l z
abbrev evP (s:PS)(l:List (Nat×Operand))(k:List (Nat×CV)->Option β):Option β:=List.rec (λk=>k []) (λp _ i k=>ev s p.2 λc=>i λr=>k ((p.1,c)::r)) l k
def isSl (P:Program)(ts:Array TypeId):Bool:=match ts with|⟨[t]⟩=>(match P.underlying t with|some (.slice _)=>true|_=>false)|_=>false
def isStr (P:Program)(ts:Array TypeId):Bool:=match ts with|⟨[t]⟩=>(match P.underlying t with|some .string=>true|_=>false)|_=>false
abbrev lenC (P:Program)(ts:Array TypeId)(c:CV)(k:CV->Option β):Option β:=match c with
 | .sl _ m=>bb (isSl P ts) (k<|.ln m.length) none
 | .cl _ m=>bb (isSl P ts) (k<|.ln m.length) none
 | .sv _ _ n=>bb (isSl P ts) (k<|.i (n:Int)) none
 | .nils=>bb (isSl P ts) (k<|.i 0) none
 | .s l=>bb (isStr P ts) (k<|.i (l.length:Int)) none
 |_=>none
def packC (l:List CV):CV:=match l with|[c]=>c|l=>.tu l
def eqCV (a b:CV):Bool:=match a,b with
 | .i m,.i n=>decide (m=n)
 | .b m,.b n=>(m==n)
 | .w8 m,.w8 n=>decide (m=n)
 | .w32 m,.w32 n=>decide (m=n)
 | .w64 m,.w64 n=>decide (m=n)
 | .nils,.nils=>true
 | .nilp,.nilp=>true
 | .nili,.nili=>true
 | .fn m,.fn n=>Nat.beq m n
 |_,_=>false
abbrev oNat (c:CV)(k:Nat->Option β):Option β:=match c with| .n _ j=>k j| .i n=>Int.rec (λj=>k j) (λ_=>none) n|_=>none
abbrev Rho:=List<|Nat×Option Nat
def eqON (a b:Option Nat):Bool:=match a,b with|some i,some j=>Nat.beq i j|none,none=>true|_,_=>false
def freeR (ρ:Rho)(a:Option Nat):Bool:=match a with|none=>true|some i=>allB (λp=>match p.2 with|some j=> !(Nat.beq i j)|none=>true) ρ
abbrev Uw (ρ:Rho)(i:Nat)(a:Option Nat)(k:Rho->Option β):Option β:=match ZK ρ i with
 |some b=>bb (eqON a b) (k ρ) none
 |none=>bb (freeR ρ a) (k ((i,a)::ρ)) none
def setC (l:List CV)(o:Nat)(c:CV):List CV:=l.take o++c::l.drop (Nat.succ o)
abbrev ZPV (s:PS)(w:List (Nat×Nat×Nat)):List CV->Rho->(List CV->Rho->Option β)->Option β:=List.rec (λl ρ k=>k l ρ) (λp _ i l ρ k=>match l[p.1]? with
 |some (.row j)=>(match ZK s.r j with|some (.own t E m)=>bb (Nat.beq E p.2.2) (Uw ρ p.2.1 (some j) λρ=>i (setC l p.1 (.sl t m)) ρ k) none|_=>none)
 |some .nils=>Uw ρ p.2.1 none λρ=>i l ρ k
 |_=>none) w
abbrev ZKE (s:PS)(l:List CV):(List CV->List Nat->Option β)->Option β:=List.rec (λk=>k [] []) (λc _ i k=>match c with
 | .row j=>(match ZK s.r j with|some (.pub t m)=>i λr js=>k (.sl t m::r) js|some (.own t _ m)=>i λr js=>k (.sl t m::r) (j::js)|some (.mrk _ m)=>i λr js=>k (.sl .w8 m::r) (j::js)|_=>none)
 | .cl t m=>i λr js=>k (.sl t m::r) js
 | .unk=>none
 |c=>i λr js=>k (c::r) js) l
abbrev Mk (β:Type):=List HV->Rho->List Nat->Option β
def mtP (s:PS)(p:Pt)(c:CV)(cs:List CV)(ρ:Rho)(go:List CV->Rho->Mk β->Option β)(k:Mk β):Option β:=match p with
  | .d y w=>(λn l=>bb (Nat.ble n l.length) (ZPV s w (l.take n) ρ λq ρ=>ZKE s q λq js=>oT y q λx=>go (l.drop n) ρ λhs ρ b=>k (.d y x::hs) ρ (js++b)) none) (szY y) (c::cs)
  | .n=>oNat c λj=>go cs ρ λhs ρ js=>k (.n j::hs) ρ js
  | .rr i=>(match c with| .row j=>Uw ρ i (some j) λρ=>go cs ρ k| .nils=>Uw ρ i none λρ=>go cs ρ k|_=>none)
  | .ptr i o=>(match c with| .ptr a o'=>bb (Nat.beq o o') (Uw ρ i (some a) λρ=>go cs ρ k) none|_=>none)
  | .el y o=>(match c with| .el z x o'=>bb (Nat.beq o o') (cast z y x λx=>go cs ρ λhs ρ js=>k (.d y x::hs) ρ js) none|_=>none)
  | .oel y=>(match c with
    | .el z x o=>bb (Nat.beq o 0) (cast z y x λx=>go cs ρ λhs ρ js=>k (.o y (some x)::hs) ρ js) none
    | .nilp=>go cs ρ λhs ρ js=>k (.o y none::hs) ρ js
    | .oel z x=>castO z y x λx=>go cs ρ λhs ρ js=>k (.o y x::hs) ρ js
    |_=>none)
  | .rel y i o=>(match c with| .rel z a g o'=>bb (Bool.and (eqT z y)<|Nat.beq o o') (Uw ρ i (some a) λρ=>go cs ρ λhs ρ js=>k (.d .i g::hs) ρ js) none|_=>none)
  | .orel y i=>(match c with
    | .rel z a g o=>bb (Bool.and (eqT z y)<|Nat.beq o 0) (Uw ρ i (some a) λρ=>go cs ρ λhs ρ js=>k (.o .i (some g)::hs) ρ js) none
    | .nilp=>go cs ρ λhs ρ js=>k (.o .i none::hs) ρ js
    | .orel z a g=>bb (eqT z y) (Uw ρ i (some a) λρ=>go cs ρ λhs ρ js=>k (.o .i g::hs) ρ js) none
    |_=>none)
  | .cl y=>(match c with| .cl z x=>cast (.sl z) (.sl y) x λx=>go cs ρ λhs ρ js=>k (.d (.sl y) x::hs) ρ js|_=>none)
  | .rv y i=>(match c with| .rv z a g=>bb (eqT z y) (Uw ρ i (some a) λρ=>go cs ρ λhs ρ js=>k (.d .i g::hs) ρ js) none|_=>none)
  | .ag n=>(match c with| .ag l=>bb (Nat.beq l.length n) (go (l++cs) ρ k) none|_=>none)
  | .tu n=>(match c with| .tu l=>bb (Nat.beq l.length n) (go (l++cs) ρ k) none|_=>none)
  | .clo f n m=>(match c with| .clo g l l'=>bb (Bool.and (Nat.beq g f)<|Bool.and (Nat.beq l.length n)<|Nat.beq l'.length m) (go (l++(l'++cs)) ρ k) none|_=>none)
  | .c v=>bb (eqCV c v) (go cs ρ k) none
  | .x=>go cs ρ k
  | .bor _ _ _=>none
abbrev mtR (s:PS)(y:Ty)(i E:Nat)(ρ:Rho)(k:List (den y)->Option β):Option β:=match ZK ρ i with
 |some (some a)=>(match ZK s.r a with|some (.own t b m)=>bb (Nat.beq b E) (cast (.sl t) (.sl y) m k) none|_=>none)
 |_=>none
def mtL (s:PS)(ps:List Pt):List CV->Rho->Mk β->Option β:=List.rec (λcs ρ k=>List.rec (k [] ρ []) (λ_ _ _=>none) cs) (λp _ a cs ρ k=>match p with
 | .bor y i E=>mtR s y i E ρ λm=>a cs ρ λhs ρ js=>k (.d (.sl y) m::hs) ρ js
 |p=>List.rec none (λc cs _=>mtP s p c cs ρ a k) cs) ps
abbrev ldU (s:PS)(a:Nat):Nat->Nat->(List CV->Option β)->Option β:=λn=>Nat.rec (λ_ k=>k []) (λ_ i o k=>oB (lkO s.o a o) λc=>i (Nat.succ o) λr=>k (c::r)) n
def mtB (s:PS)(bs:List Bp):Nat->Rho->Mk β->Option β:=List.rec (λ_ ρ k=>k [] ρ []) (λb _ c i ρ k=>match b with
  | .row=>c (Nat.succ i) ρ k
  | .cells n ps=>(match ZK ρ i with
    |some (some a)=>oB (ZK s.z a) λm=>bb (Bool.and (Nat.ble 1 n)<|Nat.beq m n) (ldU s a n 0 λl=>mtL s ps l ρ λhs ρ js=>c (Nat.succ i) ρ λh ρ j=>k (hs++h) ρ (js++j)) none
    |_=>none)) bs
def mtS (s:PS)(S:Sp)(cs:List CV)(ρ:Rho)(k:Mk β):Option β:=mtL s S.vs cs ρ λhs ρ js=>mtB s S.bs 0 ρ λh ρ b=>(λjs=>bb (Bool.and (allB (λp=>match p.2 with|some a=>Nat.blt a s.n|none=>true) ρ)<|allB (λj=>freeR ρ<|some j) js) (k (hs++h) ρ js) none) (js++b)
def sg (ρ:Rho)(b i:Nat):Nat:=match ZK ρ i with|some (some a)=>a|_=>b+i
abbrev buW (ρ:Rho)(b:Nat)(w:List (Nat×Nat×Nat)):List CV->(List CV->List (Nat×RC)->Option β)->Option β:=List.rec (λl k=>k l []) (λp _ i l k=>match l[p.1]? with
 |some (.sl t m)=>i (setC l p.1 (.row (sg ρ b p.2.1))) λl r=>k l ((sg ρ b p.2.1,.own t p.2.2 m)::r)
 |_=>none) w
abbrev Bk (β:Type):=List CV->List HV->Nat->List (Nat×RC)->Option β
def buP (ρ:Rho)(b:Nat)(p:Pt)(hs:List HV)(c:Nat)(go:List HV->Nat->Bk β->Option β)(k:Bk β):Option β:=match p with
 | .d y w=>(match hs with| .d z x::hs=>cast z y x λx=>Xq (spC y x) λl=>buW ρ b w l λl r=>go hs c λcs hs c a=>k (l++cs) hs c (r++a)|_=>none)
 | .n=>(match hs with| .n j::hs=>go hs (Nat.succ c) λcs hs c' r=>k (.n c j::cs) hs c' r|_=>none)
 | .rr i=>go hs c λcs hs c r=>k (.row (sg ρ b i)::cs) hs c r
 | .ptr i o=>go hs c λcs hs c r=>k (.ptr (sg ρ b i) o::cs) hs c r
 | .el y o=>(match hs with| .d z x::hs=>cast z y x λx=>go hs c λcs hs c r=>k (.el y x o::cs) hs c r|_=>none)
 | .oel y=>(match hs with| .o z x::hs=>castO z y x λx=>go hs c λcs hs c r=>k (.oel y x::cs) hs c r|_=>none)
 | .rel y i o=>(match hs with| .d z x::hs=>cast z .i x λx=>go hs c λcs hs c r=>k (.rel y (sg ρ b i) x o::cs) hs c r|_=>none)
 | .orel y i=>(match hs with| .o z x::hs=>castO z .i x λx=>go hs c λcs hs c r=>k (.orel y (sg ρ b i) x::cs) hs c r|_=>none)
 | .cl y=>(match hs with| .d z x::hs=>cast z (.sl y) x λx=>go hs c λcs hs c r=>k (.cl y x::cs) hs c r|_=>none)
 | .rv y i=>(match hs with| .d z x::hs=>cast z .i x λx=>go hs c λcs hs c r=>k (.rv y (sg ρ b i) x::cs) hs c r|_=>none)
 | .ag n=>go hs c λcs hs c r=>bb (Nat.ble n cs.length) (k (.ag (cs.take n)::cs.drop n) hs c r) none
 | .tu n=>go hs c λcs hs c r=>bb (Nat.ble n cs.length) (k (.tu (cs.take n)::cs.drop n) hs c r) none
 | .clo f n m=>go hs c λcs hs c r=>bb (Nat.ble (n+m) cs.length) (k (.clo f (cs.take n) ((cs.drop n).take m)::cs.drop (n+m)) hs c r) none
 | .c v=>go hs c λcs hs c r=>k (v::cs) hs c r
 | .x=>go hs c λcs hs c r=>k (.any::cs) hs c r
 | .bor y i E=>(match hs with| .d z x::hs=>cast z (.sl y) x λx=>go hs c λcs hs c r=>k cs hs c ((sg ρ b i,.own y E x)::r)|_=>none)
def buL (ρ:Rho)(b:Nat)(ps:List Pt):List HV->Nat->Bk β->Option β:=List.rec (λhs c k=>k [] hs c []) (λp _ i hs c k=>buP ρ b p hs c i k) ps
def buB (ρ:Rho)(b:Nat)(bs:List Bp):Nat->List HV->Nat->(List (Nat×List CV)->Nat->List (Nat×RC)->Option β)->Option β:=List.rec (λ_ _ c k=>k [] c []) (λB _ a i hs c k=>match B with
 | .row=>a (Nat.succ i) hs c k
 | .cells n ps=>buL ρ b ps hs c λcs hs c d=>bb (Nat.beq cs.length n) (Xq cs λcs=>a (Nat.succ i) hs c λl c r=>k ((sg ρ b i,cs)::l) c (d++r)) none) bs
abbrev ZQO (N:Nat)(l:List (Nat×List CV)):List ((Nat×Nat)×CV)->List (Nat×Nat)->(List ((Nat×Nat)×CV)->List (Nat×Nat)->Option β)->Option β:=List.rec (λo z k=>k o z) (λp _ i o z k=>ZH0 p.1 p.2 0 o λo=>Bool.rec (i o z k) (i o ((p.1,p.2.length)::z) k) (Nat.ble N p.1)) l
def rowIx (ps:List Pt):List Nat:=List.rec [] (λp _ a=>match p with| .d _ w=>List.rec a (λq _ a=>q.2.1::a) w| .bor _ i _=>i::a|_=>a) ps
def rowIB (bs:List Bp):List Nat:=List.rec [] (λb _ i=>match b with| .cells _ ps=>rowIx ps++i| .row=>i) bs
def okSp (S:Sp):Bool:=allB (λk=>match S.bs[k]? with|some (.cells _ _)=>false|_=>true)<|rowIx S.vs++rowIB S.bs
def PS.bu (s:PS)(ρ:Rho)(S:Sp)(hs:List HV)(k:List CV->PS->Option β):Option β:=bb (okSp S) (buL ρ s.n S.vs hs s.c λcs hs c b=>Xq cs λcs=>buB ρ s.n S.bs 0 hs c λd c a=>match s with
 |⟨N,l,o,z,n,f,_,r⟩=>ZQO n d o z λo z=>k cs ⟨N,l,o,z,n+S.bs.length,f,c,b++(a++r)⟩) none
abbrev U4 (l:List Nat):PS->(PS->Option β)->Option β:=List.rec (λs k=>k s) (λj _ i s k=>match ZK s.r j with|some (.own t _ m)=>(match s with|⟨N,l,o,z,n,f,c,r⟩=>i ⟨N,l,o,z,n,f,c,(j,.pub t m)::r⟩ k)|some (.mrk _ m)=>(match s with|⟨N,l,o,z,n,f,c,r⟩=>i ⟨N,l,o,z,n,f,c,(j,.pub .w8 m)::r⟩ k)|_=>i s k) l
def K9 (s:PS)(a:Nat):Bool:=match ZK s.r a with|some (.own _ _ _)=>true|_=>false
abbrev JI (ρ:Rho)(bs:List Bp):Nat->PS->(PS->Option β)->Option β:=List.rec (λ_ s k=>k s) (λb _ d i s k=>match b,ZK ρ i with
 | .row,some (some a)=>bb (K9 s a) (match s with|⟨N,l,o,z,n,f,c,r⟩=>d (Nat.succ i) ⟨N,l,o,z,n,f,c,(a,.dead)::r⟩ k) none
 | .cells n _,some (some a)=>bb (Bool.and (Nat.ble 1 n)<|match ZK s.z a with|some m=>Nat.beq m n|none=>false) (d (Nat.succ i) s k) none
 | .cells _ _,_=>none
 |_,_=>d (Nat.succ i) s k) bs
def okIO (i:List Bp):List Bp->Bool:=List.rec (λ_=>true) (λb _ a o=>match b,o with
 | .row,.row::o=>a o
 | .cells n _,.cells m _::o=>Bool.and (Nat.beq m n) (a o)
 |_,_=>false) i
def callK (s:PS)(cs:List CV)(k:List CV->PS->Option β)(l:List Spec):Option β:=List.rec none (λS _ a=>Option.rec a (λq=>U4 q.2.2 s λs=>toVH (hyS S.i) q.1 λx=>Option.bind (S.f x) λy=>JI q.2.1 S.i.bs 0 s λs=>s.bu q.2.1 S.o (ofVH (hyS S.o) y) k)
 (mtS s S.i cs [] λhs ρ js=>bb (Bool.and (okIO S.i.bs S.o.bs) (allB (λp=>Nat.blt p.1 S.i.bs.length) ρ)) (some (hs,ρ,js)) none)) l
def callS (X:Env)(s:PS)(d:Nat)(f:Nat)(cs:List CV)(k:PS->Option β):Option β:=callK s cs (λus s=>s.put d (packC us) k)<|X.sp f
def elOk (P:Program)(T:Nat)(t:Ty):Bool:=match P.underlying T with|some (.slice e)=>(match ZE P e with|some (_,n)=>Nat.beq n (szY t)|none=>false)|_=>false
def isMem (P:Program)(o:Op):Bool:=match o with| .load _ _=>true| .convert _ T _=>(match P.underlying T with|some .string=>true|_=>false)|_=>false
abbrev oLo (s:PS)(o:Option Operand)(n:Int)(k:Int->Option β):Option β:=match o with|none=>k n|some o=>ev s o λc=>oIx c k
def sameP (a b:Operand):Bool:=match a,b with| .tmp t,.tmp u=>Nat.beq t u| .const (.int .i64 m),.const (.int .i64 n)=>eqI m n|_,_=>false
def sameO (a b:Option Operand):Bool:=match a,b with|some a,some b=>sameP a b|_,_=>false
def isZ (o:Option Operand):Bool:=match o with|none=>true|some (.const<|.int _ n)=>eqI n 0|_=>false
def slOk (P:Program)(T:Nat):Bool:=match P.underlying T with|some (.slice e)=>(match ZE P e with|some _=>true|none=>false)|_=>false
abbrev slcL (X:Env)(s:PS)(T:Nat)(t:Ty)(m:List (den t))(lo hi mx:Option Operand)(k:CV->Option β):Option β:=bb (Bool.and (elOk X.P T t) (match mx,hi with|some _,none=>false|_,_=>true)) (oLo s lo 0 λa=>oLo s hi (m.length:Int) λb=>(λr=>match mx with|none=>r|some o=>Bool.rec (ev s o λc=>oIx c λc=>chk (b=c) r) r (sameO hi mx)) (Ow.slc m a b λy=>match mx with|none=>k (.sl t y)|some _=>k (.cl t y))) none
abbrev rvS (X:Env)(s:PS)(T:Nat)(x:CV)(lo:Option Operand)(k:CV->Option β):Option β:=match x with
 | .row j=>(match ZK s.r j with|some (.own t _ m)=>bb (elOk X.P T t) (oLo s lo 0 λa=>chk (0<=a/\a<=(m.length:Int))<|k<|.rv t j a) none|_=>none)
 |_=>none
def isZ0 (o:Option Operand):Bool:=match o with|some (.const<|.int _ n)=>eqI n 0|_=>false
def zz (lo hi mx:Option Operand):Bool:=Bool.and (isZ lo)<|Bool.and (isZ0 hi)<|isZ0 mx
abbrev loN (lo:Option Operand)(k:Nat->Option β):Option β:=match lo with|none=>k 0|some (.const (.int _ n))=>Int.rec (λj=>k j) (λ_=>none) n|_=>none
abbrev svP (P:Program)(T a o:Nat)(lo hi mx:Option Operand)(k:CV->Option β):Option β:=match P.underlying T,hi,mx with
 |some (.array N e),none,none=>(match ZE P e with|some (_,1)=>loN lo λq=>bb (Nat.blt q N) (k<|.sv a (o+q) (N-q)) none|_=>none)
 |_,_,_=>none
abbrev slcC (X:Env)(s:PS)(T:Nat)(x:CV)(lo hi mx:Option Operand)(k:CV->Option β):Option β:=match x with
 | .sl t m=>slcL X s T t m lo hi mx k
 | .cl t m=>slcL X s T t m lo hi mx k
 | .ptr a o=>svP X.P T a o lo hi mx k
 | .row j=>(match hi,mx with|none,none=>rvS X s T (.row j) lo k|hi,mx=>bb (zz lo hi mx) (match ZK s.r j with|some (.own t _ _)=>bb (elOk X.P T t) (k<|.cl t []) none|_=>none) none)
 | .nils=>bb (Bool.and (slOk X.P T)<|Bool.and (isZ lo)<|Bool.and (isZ hi)<|match mx with|none=>true|some _=>false) (k .nils) none
 |_=>none
abbrev mnC (x y:CV)(k:CV->Option β):Option β:=oI x λm=>oI y λn=>k<|.i<|min m n
abbrev mxC (x y:CV)(k:CV->Option β):Option β:=match x with
 | .w8 m=>(match y with| .w8 n=>k (.w8<|maxB m n)|_=>none)
 |x=>oI x λm=>oI y λn=>k<|.i<|max m n
abbrev lenR (X:Env)(s:PS)(ts:Array TypeId)(c:CV)(k:CV->Option β):Option β:=match c with
 | .row j=>(match ZK s.r j with|some (.own _ _ m)=>bb (isSl X.P ts) (k<|.ln m.length) none|_=>none)
 | .rv t j g=>(match ZK s.r j with|some (.own u _ m)=>bb (Bool.and (eqT t u)<|isSl X.P ts) (k<|.i<|(m.length:Int)-g) none|_=>none)
 |c=>lenC X.P ts c k
abbrev bltC (X:Env)(s:PS)(b:Builtin)(as:List Operand)(ts:Array TypeId)(k:CV->Option β):Option β:=match as with
 |[x]=>(match b with| .len=>ev s x λx=>lenR X s ts x k|_=>none)
 |[x,y]=>(match b with| .min=>ev s x λx=>ev s y λy=>mnC x y k| .max=>ev s x λx=>ev s y λy=>mxC x y k|_=>none)
 |_=>none
def tyU (P:Program)(tb:List (Nat×Ty)):Nat->Nat->Option Ty:=Nat.rec (λ_=>none) (λ_ a E=>match ZK tb E with
  |some t=>some t
  | none=>(match P.underlying E with
    |some (.int .i64)=>some .i
    |some (.int .u8)=>some .w8
    |some (.int .u32)=>some .w32
    |some (.int .u64)=>some .w64
    |some .bool=>some .b
    |some .string=>some .s
    |some (.slice e)=>Option.rec none (λt=>some (.sl t)) (a e)
    |_=>none))
abbrev oDl (t:Ty)(l:List CV):(List (den t)->Option β)->Option β:=List.rec (λk=>k []) (λc _ i k=>oD t c λx=>i λr=>k (x::r)) l
def idxOk (l:List (Nat×CV)):Nat->Bool:=List.rec (λ_=>true) (λp _ a i=>Bool.rec false (a (Nat.succ i)) (Nat.beq p.1 i)) l
def snds (l:List (Nat×CV)):List CV:=List.rec [] (λp _ i=>p.2::i) l
abbrev drf (c:CV)(k:CV->Option β):Option β:=match c with
 | .oel t x=>Option.bind x λy=>k (.el t y 0)
 | .orel t i x=>Option.bind x λg=>k (.rel t i g 0)
 |c=>k c
abbrev ldR (P:Program)(s:PS)(T:Nat)(t:Ty)(j:Nat)(g:Int)(o:Nat)(k:CV->Option β):Option β:=match ZK s.r j with
 |some (.own u E m)=>bb (eqT t u) (idx m g λy=>ldE P T (spC u y) o k) none
 |_=>none
def ixA (P:Program)(T:Nat)(n:Int)(k:Nat->Option β):Option β:=match P.underlying T with|some (.array m e)=>(match ZE P e with|some (_,s)=>Int.rec (λj=>bb (Nat.blt j m) (k (j*s)) none) (λ_=>none) n|none=>none)|_=>none
def arT (t:Ty)(n:Nat):Ty:=Nat.rec t (λ_ i=>.pr t i) n
def arV (t:Ty)(m:List (den t))(n:Nat):Int->(den (arT t n)->Option β)->Option β:=Nat.rec (motive:=λn=>Int->(den (arT t n)->Option β)->Option β) (λi k=>idx m i k) (λ_ a i k=>idx m i λy=>a (i+1) λz=>k (y,z)) n
def s2aC (P:Program)(T:Nat)(t:Ty)(m:List (den t))(k:CV->Option β):Option β:=match P.underlying T with
 |some (.array N e)=>(match N,ZE P e with|n+1,some (_,s)=>bb (Nat.beq s<|szY t) (arV t m n 0 λz=>k<|.el (arT t n) z 0) none|_,_=>none)
 |_=>none
def pvl (X:Env)(s:PS)(o:Op)(k:CV->Option β):Option β:=match o with
  | .move x=>ev s x k
  | .assign x=>ev s x k
  | .nilCheck x=>ev s x λc=>drf c λc=>(match c with| .ptr a o=>k (.ptr a o)| .el t x o=>k (.el t x o)| .rel t j g o=>k (.rel t j g o)|_=>none)
  | .pick c a b=>ev s c λc=>oBo c λc=>cond c (ev s a k) (ev s b k)
  | .binOp op T x y _=>ev s x λx=>ev s y λy=>bop X s op T x y k
  | .unOp op _ x=>ev s x λx=>(match op,x with| .not,.b t=>k (.b (!t))| .not,.bc _ m n=>k (.b<|!decide ((m:Int)<(n:Int)))| .neg,.i n=>k (.i<|Ow.w64 (-n))|_,_=>none)
  | .convert S T x=>ev s x λx=>cvO X S T x k
  | .extract x i=>ev s x λx=>(match x with| .tu l=>oB l[i]? k|_=>none)
  | .index T x i=>ev s x λx=>ev s i λi=>(match x,i with
    | .ag l,.i n=>(match X.P.underlying T with
      |some (.array m e)=>(match ZE X.P e with|some (false,1)=>Int.rec (λj=>bb (Nat.blt j m) (oB l[j]? λc=>fC c k) none) (λ_=>none) n|_=>none)
      |_=>none)
    |_,_=>none)
  | .fieldAddr T x i=>ev s x λx=>drf x λx=>oB (YG X.P T i) λq=>(match x with| .ptr a o=>k (.ptr a (o+q))| .el t y o=>k (.el t y (o+q))| .rel t j g o=>k (.rel t j g (o+q))|_=>none)
  | .load T x=>ev s x λx=>drf x λx=>(match x with
    | .ptr a o=>ldO X.P s T a o k
    | .el t y o=>ldE X.P T (spC t y) o k
    | .rel t j g o=>ldR X.P s T t j g o k
    |_=>none)
  | .makeFunc (.func f) fs cs=>evL s fs.toList λfs=>evL s cs.toList λcs=>bb (Bool.and (allB oneC fs)<|allB oneC cs) (k<|.clo f fs cs) none
  | .indexAddr T x i=>ev s x λx=>ev s i λi=>(match x with
    | .sl t m=>bb (elOk X.P T t) (oIx i λg=>idx m g λy=>k<|.el t y 0) none
    | .cl t m=>bb (elOk X.P T t) (oIx i λg=>idx m g λy=>k<|.el t y 0) none
    | .rv t j d=>(match ZK s.r j with|some (.own u _ m)=>bb (Bool.and (eqT t u)<|elOk X.P T t) (oIx i λg=>chk (0<=g/\g<(m.length:Int)-d)<|k<|.rel t j (d+g) 0) none|_=>none)
    | .sv j o n=>(match i with| .i i=>(match X.P.underlying T with|some (.slice e)=>(match ZE X.P e with|some (_,1)=>Int.rec (λq=>bb (Nat.blt q n) (k (.ptr j (o+q))) none) (λ_=>none) i|_=>none)|_=>none)| .n _ i=>(match X.P.underlying T with|some (.slice e)=>(match ZE X.P e with|some (_,1)=>bb (Nat.blt i n) (k (.ptr j (o+i))) none|_=>none)|_=>none)|_=>none)
    | .row j=>(match ZK s.r j with|some (.own t _ m)=>bb (elOk X.P T t) (oIx i λg=>chk (0<=g/\g.toNat<m.length) (k (.rel t j g 0))) none|_=>none)
    | .ptr a o=>(match i with| .i n=>ixA X.P T n λq=>k (.ptr a (o+q))|_=>none)
    |_=>none)
  | .build T ps=>evP s ps.toList λl=>zC X.P T λz=>oB (match X.P.underlying T with|some (.array n _)=>ZJf X.P T n|_=>QW X.P T) λh=>bb (allB (λp=>Bool.or (allB oneC<|Yw p.2)<|match p.2 with| .ag _=>true|_=>false) l) (bldL h z l λc=>k<|.ag c) none
  | .call ⟨.builtin b,as,ts⟩=>bltC X s b as.toList ts k
  | .slice T x lo hi mx=>ev s x λx=>slcC X s T x lo hi mx k
  | .sliceToArrayPointer T x=>ev s x λx=>(match x with| .sl t m=>s2aC X.P T t m k| .cl t m=>s2aC X.P T t m k| .sv a o n=>(match X.P.underlying T with|some (.array N e)=>bb (Nat.ble N n) (k<|.ptr a o) none|_=>none)|_=>none)
  |_=>none
abbrev ntC (n:NK)(cs:List CV)(k:CV->Option β):Option β:=match cs with
 |[x,.w8 c]=>oSl .w8 x λm=>(match n with| .count=>k (.i ((Ow.cntB m c:Nat):Int))| .index=>k<|.i<|Lib.indexByte m c)
 |_=>none
def pop (X:Env)(s:PS)(d:Nat)(o:Op)(k:PS->Option β):Option β:=match o with
 | .binOp op T x y u=>ev s x λa=>ev s y λb=>bb (isInc s op a b) (incr s d a k) (pvl X s (.binOp op T x y u) λc=>s.put d c k)
 | .box T x=>ev s x λx=>(λl=>bb (allB oneC l) (s.new d l k) none) (Yw x)
 | .alloc T=>zC X.P T λz=>s.new d z k
 | .call ⟨.value f,as,_⟩=>ev s f λf=>evL s as.toList λas=>(match f with| .fn f=>(match ZK X.nt f with|some n=>ntC n as λc=>s.put d c k|none=>callS X s d f as k)| .clo f l m=>callS X s d f (l++(as++m)) k|_=>none)
 |o=>pvl X s o λc=>s.put d c k
def pst (X:Env)(s:PS)(o:Op)(k:PS->Option β):Option β:=match o with
  | .store T x y=>ev s x λx=>ev s y λy=>(match x with
    | .ptr a o=>(λl=>match ZE X.P T with|some (_,n)=>bb (Bool.and (Nat.ble 1 n)<|Bool.and (Nat.beq l.length n)<|allB oneC l) (s.sto a o l k) none|none=>none) (Yw y)
    |_=>none)
  |_=>none
def rowsV (l:List CV):List Nat:=List.rec [] (λc _ i=>match c with| .row j=>j::i|_=>i) l
def ownO (s:PS)(o:Operand):List Nat:=match o with| .tmp t=>(match ZK s.l t with|some c=>rowsV (Yw c)|none=> [])|_=> []
def ownL (s:PS)(l:List Operand):List Nat:=List.rec [] (λo _ i=>ownO s o++i) l
abbrev pubL (l:List Operand)(s:PS)(k:PS->Option β):Option β:=U4 (ownL s l) s k
def sndL (l:List (Nat×Operand)):List Operand:=List.rec [] (λp _ i=>p.2::i) l
def wants (s:PS)(o:Op):List Operand:=match o with
 | .call ⟨.builtin b,⟨[_,y]⟩,_⟩=>(match b with| .append=> []| .copy=> []|_=> [y])
 | .slice _ x lo hi mx=>Bool.rec [x] [] (zz lo hi mx)
 | .convert _ _ x=> [x]
 | .sliceToArrayPointer _ x=> [x]
 | .buildSlice _ _ ps=>sndL ps.toList
 | .store _ (.tmp t) y=>(match ZK s.l t with|some (.rel _ _ _ _)=> [y]|some (.orel _ _ _)=> [y]|_=> [])
 |_=> []
abbrev hbO (X:Env)(d:Option Nat):Bool:=match d with|some d=>Xu X.hb d|none=>false
def Jf (X:Env)(s:PS)(l:List Oper):List Operand:=List.rec [] (λo _ i=>Bool.rec (wants s o.op) [] (hbO X o.dst)++i) l
abbrev PS.mrow (s:PS)(d:Nat)(E:Nat)(m:List UInt8)(k:PS->Option β):Option β:=match s with|⟨N,l,o,z,n,f,c,r⟩=>PS.put ⟨N,l,o,z,Nat.succ n,f,c,(n,.mrk E m)::r⟩ d (.row n) k
abbrev PS.row (s:PS)(d:Nat)(t:Ty)(E:Nat)(m:List (den t))(k:PS->Option β):Option β:=match s with|⟨N,l,o,z,n,f,c,r⟩=>PS.put ⟨N,l,o,z,Nat.succ n,f,c,(n,.own t E m)::r⟩ d (.row n) k
def PS.kill (s:PS)(j:Nat):PS:=match s with|⟨N,l,o,z,n,f,c,r⟩=>⟨N,l,o,z,n,f,c,(j,.dead)::r⟩
abbrev ZMT (s:PS)(P:Program)(U:Nat)(t:Ty)(b:CV)(k:List (den t)->Option β):Option β:=match P.underlying U with
 |some (.slice _)=>(match b with| .sl u m=>cast (.sl u) (.sl t) m k| .cl u m=>cast (.sl u) (.sl t) m k| .nils=>k []| .row j=>(match ZK s.r j with|some (.own u _ m)=>cast (.sl u) (.sl t) m k|_=>none)| .sv j o n=>(match n with|n'+1=>bb (Nat.beq (szY t) 1) (ldN s j (n'+1) o λcs=>bb (allB oneC cs) (oDl t cs k) none) none|_=>none)|_=>none)
 |some .string=>(match b with| .s m=>cast (.sl .w8) (.sl t) m k|_=>none)
 |_=>none
def appS (X:Env)(s:PS)(d T U:Nat)(a b:CV)(k:PS->Option β):Option β:=match X.P.underlying T with
  | some (.slice E)=>(match eInfo X.P E with
    | some (_,e,bt)=>bb (Nat.ble bt 128) (match a with
      | .row j=>(match ZK s.r j with
        |some (.own t f m)=>bb (Bool.and (Nat.beq f E)<|Nat.beq e<|szY t) (ZMT s X.P U t b λc=>app m c λq=>(s.kill j).row d t E q k) none
        |some (.mrk f m)=>bb (Bool.and (Nat.beq f E)<|Nat.beq e 1) (ZMT s X.P U .w8 b λc=>app m c λq=>(s.kill j).mrow d E q k) none
        |_=>none)
      | .cl t m=>bb (Nat.beq e<|szY t) (ZMT s X.P U t b λc=>chk (0<c.length)<|app m c λq=>s.row d t E q k) none
      | .sv j o n=>(match tyU X.P X.ty 4 E,n with|some t,g+1=>bb (Bool.and (Nat.beq e<|szY t)<|Nat.beq (szY t) 1) (ldN s j (g+1) o λcs=>bb (allB oneC cs) (oDl t cs λm=>ZMT s X.P U t b λc=>chk (0<c.length)<|app m c λq=>s.row d t E q k) none) none|_,_=>none)
      | .nils=>(match tyU X.P X.ty 4 E with|some t=>bb (Nat.beq e<|szY t) (ZMT s X.P U t b λc=>app [] c λq=>s.row d t E q k) none|none=>none)
      |_=>none) none
    |none=>none)
  |_=>none
abbrev zrL (z:Value)(t:Ty)(b:CV)(k:List (den t)->Option β):Option β:=vCs z.cells.toList λa=>oT t a λy=>oI b λn=>mks n y k
def appZ (X:Env)(s:PS)(d T:Nat)(a b:CV)(k:PS->Option β):Option β:=match X.P.underlying T with
  | some (.slice E)=>(match eInfo X.P E with
    | some (z,e,bt)=>bb (Nat.ble bt 128) (match a with
      | .row j=>(match ZK s.r j with
        |some (.own t f m)=>bb (Bool.and (Nat.beq f E)<|Nat.beq e<|szY t) (zrL z t b λc=>app m c λq=>(s.kill j).row d t E q k) none
        |_=>none)
      | .cl t m=>bb (Nat.beq e<|szY t) (zrL z t b λc=>chk (0<c.length)<|app m c λq=>s.row d t E q k) none
      | .nils=>(match tyU X.P X.ty 4 E with|some t=>bb (Nat.beq e<|szY t) (zrL z t b λc=>app [] c λq=>s.row d t E q k) none|none=>none)
      |_=>none) none
    |none=>none)
  |_=>none
def bslR (X:Env)(s:PS)(d T n:Nat)(l:List (Nat×CV))(k:PS->Option β):Option β:=match X.P.underlying T with
  | some (.slice E)=>(match eInfo X.P E with
    | some (_,a,_)=>(match tyU X.P X.ty 4 E with
      |some t=>bb (Bool.and (Nat.beq a<|szY t)<|Bool.and (idxOk l 0)<|Bool.and (Nat.beq l.length n)<|Nat.ble (n*a) 16777216) (oDl t (snds l) λm=>s.row d t E m k) none
      |none=>none)
    |none=>none)
  |_=>none
def mkS (X:Env)(s:PS)(d T:Nat)(c:CV)(k:PS->Option β):Option β:=match X.P.underlying T with
  | some (.slice E)=>(match eInfo X.P E with
    | some (z,a,bt)=>(match tyU X.P X.ty 4 E with
      |some t=>bb (Bool.and (Nat.beq a<|szY t)<|Nat.ble bt 128) (vCs z.cells.toList λb=>oT t b λy=>oIx c λn=>mks n y λm=>s.row d t E m k) none
      |none=>none)
    |none=>none)
  |_=>none
abbrev ZPK (s:PS)(t:Ty)(b:CV)(k:List (den t)->Option β):Option β:=match b with| .row j=>(match ZK s.r j with|some (.own u _ m)=>cast (.sl u) (.sl t) m k|_=>none)| .sl u m=>cast (.sl u) (.sl t) m k| .cl u m=>cast (.sl u) (.sl t) m k| .nils=>k []|_=>none
def copS (X:Env)(s:PS)(d T U:Nat)(a b:CV)(k:PS->Option β):Option β:=match a with
  | .row j=>(match ZK s.r j with
    |some (.own t E m)=>bb (elOk X.P T t) (ZPK s t b λe=>cpyO m 0 (m.length:Int) e λq=>match s with|⟨N,l,o,z,n,f,c,r⟩=>PS.put ⟨N,l,o,z,n,f,c,(j,.own t E q)::r⟩ d (.i<|min (e.length:Int)<|(m.length:Int)-0) k) none
    |_=>none)
  | .rv u j g=>(match ZK s.r j with
    |some (.own t E m)=>bb (Bool.and (eqT u t)<|elOk X.P T t) (ZPK s t b λe=>cpyO m g (m.length:Int) e λq=>match s with|⟨N,l,o,z,n,f,c,r⟩=>PS.put ⟨N,l,o,z,n,f,c,(j,.own t E q)::r⟩ d (.i<|min (e.length:Int)<|(m.length:Int)-g) k) none
    |_=>none)
  | .sv j o n=>(match X.P.underlying T with
    | some (.slice E)=>(match ZE X.P E,tyU X.P X.ty 4 E,n with
      |some (_,1),some t,h+1=>bb (Nat.beq (szY t) 1) (ldN s j (h+1) o λcs=>bb (allB oneC cs) (oDl t cs λm=>ZPK s t b λe=>cpyO m 0 ((h+1:Nat):Int) e λq=>arV t q h 0 λz=>s.sto j o (spC (arT t h) z) λs=>s.put d (.i<|min (e.length:Int) ((h+1:Nat):Int)) k) none) none
      |_,_,_=>none)
    |_=>none)
  |_=>none
def pvS (X:Env)(s:PS)(d T:Nat)(x:CV)(hi mx:Option Operand)(k:PS->Option β):Option β:=match x with
  | .row j=>(match ZK s.r j with
    |some (.own t E m)=>bb (Bool.and (elOk X.P T t)<|match mx with|none=>true|some _=>sameO hi mx) (oLo s hi (m.length:Int) λb=>chk (0<=b/\b<=(m.length:Int))<|(s.kill j).row d t E (m.take b.toNat) k) none
    |_=>none)
  |_=>none
def svS (X:Env)(s:PS)(d T n:Nat)(l:List (Nat×CV))(k:PS->Option β):Option β:=match X.P.underlying T with
  | some (.slice E)=>(match eInfo X.P E with
    |some (_,1,_)=>bb (Bool.and (allB oneC<|snds l)<|Bool.and (idxOk l 0)<|Bool.and (Nat.beq l.length n)<|Bool.and (Nat.ble 1 n)<|Nat.ble n 16777216) (match s with|⟨N,ls,o,z,a,f,c,r⟩=>ZH0 a (snds l) 0 o λo=>PS.put ⟨N,ls,o,(a,n)::z,Nat.succ a,f,c,r⟩ d (.sv a 0 n) k) none
    |_=>none)
  |_=>none
abbrev ZNl (P:Program)(S T:Nat):Bool:=match P.underlying S,P.underlying T with|some .string,some (.slice e)=>(match P.underlying e with|some (.int .u8)=>true|_=>false)|_,_=>false
abbrev ZPm (P:Program)(S T:Nat):Bool:=match P.underlying T with|some (.slice e)=>(match P.underlying e with|some (.int .u8)=>Nat.beq S T|_=>false)|_=>false
def elT (P:Program)(T:Nat):Nat:=match P.underlying T with|some (.slice e)=>e|_=>0
def cvS (X:Env)(s:PS)(d S T:Nat)(x:CV)(k:PS->Option β)(e:Option β):Option β:=match x with
  | .s m=>bb (ZNl X.P S T) (chk (m.length<=LIM)<|s.mrow d (elT X.P T) m k) e
  | .row j=>(match ZK s.r j with
    |some (.own t E m)=>bb (ZPm X.P S T) (cast (.sl t) (.sl .w8) m λm=>chk (0<m.length)<|(s.kill j).mrow d E m k) none
    |_=>none)
  |_=>e
def popR (X:Env)(s:PS)(d:Nat)(o:Op)(k:PS->Option β):Option β:=match o with
 | .call ⟨.builtin .append,⟨[x,y]⟩,⟨[T,U]⟩⟩=>ev s x λa=>ev s y λb=>Bool.rec (appS X s d T U a b k) (appZ X s d T a b k) (isInt X.P U)
 | .call ⟨.builtin .copy,⟨[x,y]⟩,⟨[T,U]⟩⟩=>ev s x λa=>ev s y λb=>copS X s d T U a b k
 | .buildSlice T n ps=>evP s ps.toList λl=>bb (Xu X.hb d) (svS X s d T n l k) (bslR X s d T n l k)
 | .makeSlice T p q=>bb (sameP p q) (ev s p λc=>mkS X s d T c k) none
 | .slice T x lo hi mx=>bb (Xu X.hb d) (match hi,mx,lo with|none,none,lo=>ev s x λx=>rvS X s T x lo λc=>s.put d c k|some hi,mx,none=>ev s x λx=>pvS X s d T x (some hi) mx k|_,_,_=>none) (pop X s d (.slice T x lo hi mx) k)
 | .convert S T x=>ev s x λc=>cvS X s d S T c k (pop X s d (.convert S T x) k)
 |o=>pop X s d o k
abbrev PS.setR (s:PS)(j:Nat)(c:RC)(k:PS->Option β):Option β:=match s with|⟨N,l,o,z,n,f,q,r⟩=>k ⟨N,l,o,z,n,f,q,(j,c)::r⟩
def stR (X:Env)(s:PS)(T:Nat)(t:Ty)(j:Nat)(g:Int)(o:Nat)(l:List CV)(k:PS->Option β):Option β:=match ZK s.r j with
  | some (.own u E m)=>(match ZE X.P T with
    | some (_,n)=>bb (Bool.and (eqT t u)<|Bool.and (Nat.beq l.length n)<|Nat.ble (o+n)<|szY u)
      (Bool.rec (idx m g λy=>oT u (layL (spC u y) o l) λz=>setI m g z λm=>s.setR j (.own u E m) k)
        (oT u l λz=>setI m g z λm=>s.setR j (.own u E m) k) (Bool.and (Nat.beq o 0) (Nat.beq n (szY u)))) none
    |none=>none)
  |_=>none
def clrS (X:Env)(s:PS)(T:Nat)(a:CV)(k:PS->Option β):Option β:=match a with
  | .rv u j g=>(match ZK s.r j with
    | some (.own t E m)=>(match X.P.underlying T with
      | some (.slice b)=>(match eInfo X.P b with
        |some (z,c,_)=>bb (Bool.and (eqT u t)<|Bool.and (Nat.beq b E)<|Nat.beq c<|szY t) (vCs z.cells.toList λd=>oT t d λy=>s.setR j (.own t E<|Ow.clr m g.toNat m.length y) k) none
        |none=>none)
      |_=>none)
    |_=>none)
  |_=>none
def pstR (X:Env)(s:PS)(o:Op)(k:PS->Option β):Option β:=match o with
  | .store T x y=>ev s x λa=>drf a λa=>(match a with
    | .rel t j g o=>ev s y λb=>bb (allB oneC<|Yw b) (rsvD s (Yw b) λl=>stR X s T t j g o l k) none
    |_=>pst X s (.store T x y) k)
  | .call ⟨.builtin .clear,⟨[x]⟩,⟨[T]⟩⟩=>ev s x λa=>clrS X s T a k
  |o=>pst X s o k
def popD (X:Env)(s:PS)(d:Option Nat)(o:Op)(k:PS->Option β):Option β:=pubL (Bool.rec (wants s o) [] (hbO X d)) s λs=>match d with|some d=>popR X s d o k|none=>pstR X s o k
abbrev skp (s:PS)(d:Option Nat)(k:PS->Option β):Option β:=match d with|some d=>s.put d .und k|none=>none
abbrev flag (s:PS)(t:Nat)(c:CV)(b:Bool)(k:PS->Option β):Option β:=match c,s with
 | .bc i _ _,⟨N,l,o,z,n,f,q,r⟩=>Bool.rec (k ⟨N,(t,.b false)::l,o,z,n,f,q,r⟩) (k ⟨N,(t,.b true)::l,o,z,n,i::f,q,r⟩) b
 |_,⟨N,l,o,z,n,f,q,r⟩=>k ⟨N,(t,.b b)::l,o,z,n,f,q,r⟩
def gop (X:Env)(ops:List Oper)(s:PS)(o:Oper)(k:PS->Option β):Option β:=match o.guard with
  |none=>popD X s o.dst o.op k
  | some (g,b)=>oB (oB ops[g]? λq=>q.dst) λt=>oB (ZK s.l t) λc=>(match c with
    | .und=>skp s o.dst k
    |c=>oBo c λe=>cond e (flag s t c true λs=>Bool.rec (skp s o.dst k) (popD X s o.dst o.op k) b) (flag s t c false λs=>Bool.rec (popD X s o.dst o.op k) (skp s o.dst k) b))
def pops (X:Env)(ops:List Oper)(l:List Oper):PS->(PS->Option β)->Option β:=List.rec (λs k=>k s) (λo _ i s k=>gop X ops s o λs=>i s k) l
def old1 (c:CV):CV:=match c with| .i n=>.i n| .ln j=>.ln j| .w8 x=>.w8 x| .w32 x=>.w32 x| .w64 x=>.w64 x| .b x=>.b x| .s l=>.s l| .nils=>.nils| .nilp=>.nilp| .nili=>.nili| .fn f=>.fn f| .und=>.und|_=>.any
def mapC (l:List CV):List CV:=List.rec [] (λc _ i=>old1 c::i) l
def oldC (c:CV):CV:=match c with| .tu l=>.tu (mapC l)|c=>old1 c
def full1 (c:CV):Bool:=match c with| .any=>false| .unk=>false|_=>true
def fullC (c:CV):Bool:=match c with| .tu l=>allB full1 l| .ag l=>allB full1 l|c=>full1 c
def allQ (q:PS)(l:List Operand):Bool:=allB (λo=>match o with| .tmp t=>(match ZK q.l t with|some c=>fullC c|none=>false)|_=>true) l
def ZS3 (o:Op):Bool:=match o with
 | .move _=>true| .assign _=>true| .nilCheck _=>true| .pick _ _ _=>true| .binOp _ _ _ _ _=>true| .unOp _ _ _=>true| .convert _ _ _=>true| .extract _ _=>true| .fieldAddr _ _ _=>true| .load _ _=>true| .indexAddr _ _ _=>true| .build _ _=>true| .slice _ _ _ _ _=>true| .index _ _ _=>true| .sliceToArrayPointer _ _=>true
 | .call ⟨.builtin b,_,_⟩=>(match b with| .len=>true| .min=>true| .max=>true|_=>false)
 |_=>false
def gtmp (ops:Array Oper)(o:Oper):Option (Nat×Bool):=match o.guard with|none=>none|some (g,b)=>oB (oB ops[g]? λq=>q.dst) λt=>some (t,b)
def gno (ops:Array Oper)(s:PS)(k:List (Nat×Bool))(o:Oper):Bool:=match gtmp ops o with
 |none=>false
 |some (t,b)=>(match ZK s.l t with|some .und=>true|some _=>(match ZK k t with|some a=> !(a==b)|none=>false)|none=>false)
def descL (a:Array Bool)(i:Nat)(l:List Oper):Nat->List Nat->List Nat:=List.rec (λ_ D=>D) (λo _ b j D=>b (Nat.succ j) (Bool.rec D (j::D) (Bool.and (!(a.getD j true)) (o.after.any λe=>Region.binds .any e&&(e.on==i ||D.contains e.on))))) l
def descD (ops:Array Oper)(T:List Nat)(l:Array Bool)(i:Nat):List Nat:=match T with|[]=> []|_::_=>descL l i ops.toList 0 []
def Dm (ops:Array Oper)(T:List Nat)(l:Array Bool)(i:Nat):Bool:=(λD=>Bool.and (T.all λt=>D.contains t)<|hangs .any ops i D l)<|descD ops T l i
def wk1 (c:CV):CV:=match c with| .rv _ _ _=>.any| .sv _ _ _=>.any| .ptr _ _=>.any| .row _=>.any| .rel _ _ _ _=>.any| .orel _ _ _=>.any| .clo _ _ _=>.any| .ag _=>.any| .tu _=>.any|c=>c
def wkL (l:List (Nat×CV)):List (Nat×CV):=List.rec [] (λp _ i=>(p.1,wk1 p.2)::i) l
abbrev PS.wk (s:PS)(k:PS->Option β):Option β:=match s with|⟨N,l,_,_,_,f,c,_⟩=>Xq (wkL l) λl=>k ⟨N,l,[],[],0,f,c,[]⟩
def allW (q:PS)(l:List Operand):Bool:=allB (λo=>match o with| .tmp t=>(match ZK q.l t with|some c=>fullC (wk1 c)|none=>false)|_=>true) l
def pvD (X:Env)(o:Oper):Bool:=match o.op with| .slice _ _ none (some _) _=>hbO X o.dst|_=>false
def rdOk (X:Env)(ops:Array Oper)(T:List Nat)(l:Array Bool)(s q:PS)(k:List (Nat×Bool))(i:Nat):Bool:=match ops[i]? with
 |some o=>Bool.or (gno ops s k o) (Bool.and (Bool.and (ZS3 o.op) (!(pvD X o))) (Bool.or (!isMem X.P o.op) (Bool.rec (allW q o.op.operands.toList) (Bool.or (Bool.rec false true (Dm ops T l i)) (allW q o.op.operands.toList)) (allQ q o.op.operands.toList))))
 |none=>false
def findB (f:Nat->Bool)(l:List Nat):Option Nat:=List.rec none (λa _ i=>Bool.rec i (some a) (f a)) l
def ZDx (ops:Array Oper)(l:Array Bool)(i:Nat):Bool:=Bool.and ((Region.ready .any ops l).contains i)<|Region.free .any ops l i
def isOne (l:List Nat)(i:Nat):Bool:=match l with|[j]=>Nat.beq j i|_=>false
abbrev Dk (β:Type):=Nat->Array Bool->List (Nat×Bool)->PS->PS->Option β
def dskp (ops:Array Oper)(m:Nat)(l:Array Bool)(k:List (Nat×Bool))(s q:PS)(i:Nat)(d:Option Nat)(a:Dk β):Option β:=bb (ZDx ops l i) (match m,d with
 |m+1,some d=>s.put d .und λs=>q.lay d .und λq=>a m (l.setIfInBounds i true) k s q
 |_,_=>none) none
def newL{α:Type}(l l0:List α):List α:=l.take (l.length-l0.length)
def okN (n:Nat)(s s':PS):Bool:=Bool.and (allB (λp=>Nat.ble n p.1.1)<|newL s'.o s.o)<|allB (λp=>Nat.ble n p.1)<|newL s'.r s.r
def dactE (X:Env)(ops:Array Oper)(T:List Nat)(m:Nat)(a:Array Bool)(b:List (Nat×Bool))(s q:PS)(i:Nat)(o:Oper)(e:Dk β):Option β:=popD X s o.dst o.op λs'=>(λk=>Bool.rec (bb (okN q.n s s') (k q) none) (q.wk k) (Xu T i)) λq=>match o.dst with
 |some d=>oB (ZK s'.l d) λc=>q.lay d (oldC c) λq=>e m (a.setIfInBounds i true) b s' q
 |none=>e m (a.setIfInBounds i true) b s' q
def deff1 (X:Env)(ops:Array Oper)(T:List Nat)(m:Nat)(l:Array Bool)(k:List (Nat×Bool))(s q:PS)(a:Dk β)(i:Nat):Option β:=oB ops[i]? λo=>match o.guard with|none=>dactE X ops T m l k s q i o a|some _=>none
def deffL (X:Env)(ops:Array Oper)(T:List Nat)(m:Nat)(l:Array Bool)(k:List (Nat×Bool))(s q:PS)(b:Dk β)(i:Nat)(R:List Nat):Option β:=List.rec (motive:=λ_=>Nat->Option β) (λi=>deff1 X ops T m l k s q b i) (λj _ a i=>agree (deff1 X ops T m l k s q b i) (a j)) R i
def deff (X:Env)(ops:Array Oper)(T:List Nat)(m:Nat)(l:Array Bool)(k:List (Nat×Bool))(s q:PS)(a:Dk β)(i:Nat)(R:List Nat):Option β:=match m with|m+1=>deffL X ops T m l k s q a i R|_=>none
def dlk (X:Env)(m:Nat)(l:Array Bool)(k:List (Nat×Bool))(s q v:PS)(i d:Nat)(o:Op)(a:Dk β):Option β:=bb (allQ v o.operands.toList) (pvl X v o λc=>fC c λc=>s.put d c λs=>q.lay d c λq=>a m (l.setIfInBounds i true) k s q) none
def dact (X:Env)(ops:Array Oper)(T:List Nat)(m:Nat)(l:Array Bool)(k:List (Nat×Bool))(s q:PS)(i:Nat)(r:Bool)(o:Oper)(a:Dk β):Option β:=match m with
  | m + 1=>Bool.rec
    (bb (isOne (Region.ready .any ops l) i) (dactE X ops T m l k s q i o a) none)
    (bb (Bool.and (ZDx ops l i)<|!(Xu T i)) (match o.dst with
      | some d=>Bool.rec
        (Bool.rec (pvl X s o.op λc=>s.put d c λs'=>fC (oldC c) λc=>q.lay d c λq=>a m (l.setIfInBounds i true) k s' q) (dlk X m l k s q q i d o.op a) (allQ q o.op.operands.toList))
        (Bool.rec (q.wk λv=>dlk X m l k s q v i d o.op a) (dlk X m l k s q q i d o.op a) (Bool.and (allQ q o.op.operands.toList) (Dm ops T l i))) (isMem X.P o.op)
      |none=>none) none) r
  |_=>none
def dstep (X:Env)(ops:Array Oper)(T:List Nat)(m:Nat)(a:Array Bool)(k:List (Nat×Bool))(s q:PS)(i:Nat)(r:Bool)(d:Dk β):Option β:=oB ops[i]? λo=>match o.guard with
  |none=>dact X ops T m a k s q i r o d
  | some (g,b)=>oB (oB ops[g]? λq=>q.dst) λt=>oB (ZK s.l t) λc=>(match c with
    | .und=>bb (!(Xu T i)) (dskp ops m a k s q i o.dst d) none
    | c=>oBo c λe=>(match ZK k t with
      |none=>cond e (flag s t c true λs=>q.lay t (.b true) λq=>d m a ((t,true)::k) s q) (flag s t c false λs=>q.lay t (.b false) λq=>d m a ((t,false)::k) s q)
      |some _=>cond e (Bool.rec (bb (!(Xu T i)) (dskp ops m a k s q i o.dst d) none) (dact X ops T m a k s q i r o d) b) (Bool.rec (dact X ops T m a k s q i r o d) (bb (!(Xu T i)) (dskp ops m a k s q i o.dst d) none) b)))
def pdr (X:Env)(ops:Array Oper)(T:List Nat)(k:PS->Option β)(n:Nat):Dk β:=Nat.rec (λ_ _ _ _ _=>none) (λ_ b m l a s q=>match Region.ready .any ops l with
  |[]=>k s
  | i0::R=>(match findB (rdOk X ops T l s q a) (i0::R)with
    |some i=>dstep X ops T m l a s q i true b
    |none=>(match R with|[]=>dstep X ops T m l a s q i0 false b|j::R=>deff X ops T m l a s q b i0 (j::R)))) n
def callA (l:List Oper):List Operand:=List.rec [] (λo _ i=>match o.op with| .call ⟨.value _,as,_⟩=>as.toList++i|_=>i) l
def memO (l:List Operand)(d:Option Nat):Bool:=List.rec false (λo _ i=>match o,d with| .tmp t,some d=>Bool.rec i true (Nat.beq t d)|_,_=>i) l
def mvsL (L:List Operand)(l:List Oper):List Operand:=List.rec [] (λo _ i=>match o.op with| .move x=>Bool.rec i (x::i) (memO L o.dst)|_=>i) l
def drawn (X:Env)(ops:Array Oper)(mb:Option (List Nat))(s:PS)(k:PS->Option β):Option β:=bb (Bool.and (X.P.follows .mixedOrders)<|Bool.and (Region.noSelect ops)<|ops.all λo=>noDefer o.op)
 (match mb with
  |none=>pubL ((λL=>mvsL L ops.toList++L)<|Jf X s ops.toList++callA ops.toList) s λs=>pdr X ops [] k (2*ops.size+1) ops.size (Array.replicate ops.size false) [] s s
  |some T=>pubL ((λL=>mvsL L ops.toList++L)<|Jf X s ops.toList) s λs=>pdr X ops T k (2*ops.size+1) ops.size (Array.replicate ops.size false) [] s s) none
end
section
variable{β:Type}
def eqE (a b:Ex):Bool:=match a,b with| .norm,.norm=>true| .ret,.ret=>true| .exit i,.exit j=>Nat.beq i j|_,_=>false
def dstL (l:List Oper):List Nat:=List.rec [] (λo _ i=>Option.rec i (λd=>d::i) o.dst) l
def dstC (c:Code):List Nat:=Code.rec [] (λ_ ops _=>dstL ops.toList) (λ_ _ a b=>a++b) (λc _ _ a b=>(match c with| .tmp t=>t::(a++b)|_=>a++b)) (λ_ _ a=>a) (λ_ a=>a) (λ_ ps _ _ a b=>ps.toList++(a++b)) (λ_=> []) (λ_ a=>a) (λ_=> []) (λ_=> []) [] (λ_=> []) c
abbrev fgt (D:List Nat):PS->(PS->Option β)->Option β:=List.rec (λs k=>k s) (λt _ i s k=>Option.rec (i s k) (λ_=>s.lay t .unk λs=>i s k) (ZK s.l t)) D
abbrev fgtC (D:List (Nat×Nat)):PS->(PS->Option β)->Option β:=List.rec (λs k=>k s) (λp _ i s k=>(match s with|⟨N,l,o,z,n,f,c,r⟩=>i ⟨N,l,(p,.unk)::o,z,n,f,c,r⟩ k)) D
abbrev fgtR (D:List Nat):PS->(PS->Option β)->Option β:=List.rec (λs k=>k s) (λa _ i s k=>(match s with|⟨N,l,o,z,n,f,c,r⟩=>i ⟨N,l,o,z,n,f,c,(a,.dead)::r⟩ k)) D
def cells (a:Nat)(n:Nat):Nat->List (Nat×Nat):=Nat.rec (λ_=> []) (λ_ i o=>(a,o)::i (Nat.succ o)) n
def memP (l:List (Nat×Nat))(a o:Nat):Bool:=List.rec false (λp _ i=>Bool.rec i (Bool.rec i true (Nat.beq p.2 o)) (Nat.beq p.1 a)) l
def tsK (l:List Kx):List Nat:=List.rec [] (λp _ i=>p.ts++i) l
def okT (s s':PS)(D:List Nat):Bool:=allB (λp=>Option.rec true (λ_=>Xu D p.1) (ZK s.l p.1)) (newL s'.l s.l)
def okC (s s':PS)(dc:List (Nat×Nat))(dr:List Nat):Bool:=Bool.and (allB (λp=>Bool.rec true (memP dc p.1.1 p.1.2) (Nat.blt p.1.1 s.n)) (newL s'.o s.o)) (allB (λp=>Bool.rec true (Xu dr p.1) (Nat.blt p.1 s.n)) (newL s'.r s.r))
def okF (s s':PS)(dr:List Nat)(ρ:Rho)(bs:List Bp):Nat->Bool:=List.rec (motive:=λ_=>Nat->Bool) (λ_=>true) (λb _ c i=>Bool.and (match ZK ρ i with
 |some (some a)=>(match b with| .row=>Bool.rec true (Bool.and (Xu dr a) (K9 s' a)) (Nat.blt a s.n)| .cells _ _=>Nat.ble s.n a)
 |_=>(match b with| .row=>true| .cells _ _=>false)) (c (Nat.succ i))) bs
def okM (s s':PS)(ol:List Nat)(dr:List Nat)(S:Sp)(ρ:Rho)(js:List Nat):Bool:=Bool.and (Nat.ble S.bs.length 100) (Bool.and (allB (λj=>Bool.rec true (Xu dr j) (Nat.blt j s.n)) js)
 (Bool.and (allB (λp=>Bool.or (Nat.blt p.1 S.bs.length) (Bool.and (Nat.ble 100 p.1) (Nat.blt p.1 (100+ol.length)))) ρ) (Bool.and (okF s s' dr ρ S.bs 0)
  (allB (λk=>Bool.or (Nat.blt k 100)<|match ol[k-100]? with|some a=>K9 s' a|none=>false)<|rowIx S.vs++rowIB S.bs))))
abbrev ldT (s:PS)(ts:List Nat)(k:List CV->Option β):Option β:=List.rec (λk=>k []) (λt _ i k=>oB (ZK s.l t) λc=>kn c λc=>i λr=>k (c::r)) ts k
abbrev ldC (s:PS)(cs:List (Nat×Nat×Nat))(k:List CV->Option β):Option β:=List.rec (λk=>k []) (λp _ i k=>oB (ZK s.z p.1) λm=>bb (Nat.ble (p.2.1+p.2.2) m) (ldU s p.1 p.2.2 p.2.1 λl=>i λr=>k (l++r)) none) cs k
def nth (l:List Nat):Nat->Rho:=List.rec (λ_=> []) (λa _ b i=>(i,some a)::b (Nat.succ i)) l
def ZB1 (l:List Nat):Bool:=List.rec true (λa r i=>Bool.rec i false (Xu r a)) l
def pkK (s:PS)(D:List Nat)(dc:List (Nat×Nat))(dr:List Nat)(s':PS)(K:Kx)(k:VH (hyS K.S)->Option β):Option β:=bb (Bool.and (ZB1 K.ol)<|Bool.and (allB (λa=>Nat.blt a s.n) K.ol)<|allB (λp=>Nat.blt p.1 s.n) K.cs) (ldC s' K.cs λl=>ldT s' K.ts λm=>mtS s' K.S (l++m) (nth K.ol 100) λhs ρ js=>bb (Bool.and (okM s s' K.ol dr K.S ρ js)<|Bool.and (okT s s' D)<|okC s s' dc dr) (toVH (hyS K.S) hs k) none) none
abbrev ZMg (ts:List Nat):List CV->PS->(PS->Option β)->Option β:=List.rec (λcs s k=>k s) (λt _ i cs s k=>match cs with|c::cs=>s.put t c λs=>i cs s k|[]=>none) ts
abbrev layC (cs:List (Nat×Nat×Nat)):List CV->PS->(List CV->PS->Option β)->Option β:=List.rec (λl s k=>k l s) (λp _ i l s k=>s.sto p.1 p.2.1 (l.take p.2.2) λs=>i (l.drop p.2.2) s k) cs
def upK (s:PS)(D:List Nat)(dc:List (Nat×Nat))(dr:List Nat)(K:Kx)(x:VH (hyS K.S))(k:PS->Option β):Option β:=fgt D s λs=>fgtC dc s λs=>fgtR dr s λs=>s.bu (nth K.ol 100) K.S (ofVH (hyS K.S) x) λus s=>layC K.cs us s λus s=>ZMg K.ts us s k
def KT (l:List Kx):Type:=List.rec Unit (λe r i=>List.rec (VH (hyS e.S)) (λ_ _ _=>VH (hyS e.S) ⊕ i) r) l
def inK (s:PS)(D:List Nat)(dc:List (Nat×Nat))(dr:List Nat)(e:Ex)(s':PS)(l:List Kx):(KT l->Option β)->Option β:=List.rec (motive:=λl=>(KT l->Option β)->Option β) (λ_=>none) (λp r i=>List.rec (motive:=λr=>((KT r->Option β)->Option β)->(KT (p::r)->Option β)->Option β)
 (λ_ k=>Bool.rec none (pkK s D dc dr s' p k) (eqE e p.e)) (λ_ _ _ i k=>Bool.rec (i λx=>k (.inr x)) (pkK s D dc dr s' p λx=>k (.inl x)) (eqE e p.e)) r i) l
def elK (s:PS)(D:List Nat)(dc:List (Nat×Nat))(dr:List Nat)(k:Ex->PS->Option β)(l:List Kx):KT l->Option β:=List.rec (motive:=λl=>KT l->Option β) (λ_=>none) (λp r i=>List.rec (motive:=λr=>(KT r->Option β)->KT (p::r)->Option β)
 (λ_ x=>upK s D dc dr p x (k p.e)) (λ_ _ _ i x=>Sum.elim (λx=>upK s D dc dr p x (k p.e)) i x) r i) l
def blkC (c:CV):Nat:=match c with| .ptr a _=>a| .row a=>a| .rel _ a _ _=>a| .orel _ a _=>a|_=>1000000
def capN (l:List CV)(n:Nat):CV:=match l[n]? with|some c=>c|none=>.unk
def ptr1 (c:CV)(o:Nat):Nat×Nat:=match c with| .ptr a q=>(a,q+o)|_=>(1000000,0)
def ptrAt (c:CV)(o:Nat):Nat×Nat:=match c with| .clo _ l m=>ptr1 (capN (l++m) (o/1000)) (o%1000)|c=>ptr1 c o
def cellN (s:PS)(q:Nat×Nat):Nat:=match lkO s.o q.1 q.2 with|some c=>blkC c|none=>1000000
def paN (s:PS)(p:Pa):Nat:=match ZK s.l p.1 with
  | some c=>(match p.2 with
    |none=>blkC c
    |some o=>(match c with| .clo _ l m=>Bool.rec (cellN s (ptrAt c o)) (blkC (capN (l++m) (o/1000))) (Nat.beq (o%1000) 999)|c=>cellN s (ptrAt c o)))
  |none=>1000000
def rgN (s:PS)(p:Nat×Nat×Nat):Nat×Nat×Nat:=match ZK s.l p.1 with|some c=>(λq=>(q.1,q.2,p.2.2)) (ptrAt c p.2.1)|none=>(1000000,0,p.2.2)
def mapA{α b:Type}(f:α->b)(l:List α):List b:=List.rec [] (λa _ i=>f a::i) l
def catA{α b:Type}(f:α->List b)(l:List α):List b:=List.rec [] (λa _ i=>f a++i) l
def HK.at (K:HK)(s:PS):Kx:=⟨K.e,K.ts,mapA (rgN s) K.cs,K.S,mapA (paN s) K.ol⟩
def dcN (s:PS)(l:List (Nat×Nat×Nat)):List (Nat×Nat):=catA (λp=>(λq=>cells q.1 q.2.2 q.2.1)<|rgN s p) l
def HCut.at (C:HCut)(s:PS):Cut:=⟨mapA (λK=>K.at s) C.ks,dcN s C.dc,mapA (paN s) C.dr⟩
def lkL (s:PS)(l:List (Nat×HLp))(i:Nat):Option HLp:=List.rec none (λp _ a=>Bool.rec a (Bool.rec a (some p.2) (allB (λq=>Nat.beq (paN s q.1) (paN s q.2)) p.2.g)) (Nat.beq p.1 i)) l
def HLp.at (L:HLp)(s:PS):Lp:=⟨L.h.at s,mapA (λK=>K.at s) L.ks,dcN s L.dc,mapA (paN s) L.dr⟩
def keyR (c:Code):Nat:=match c with| .region id _ _=>id| .seq a _=>keyR a| .block _ b=>keyR b| .cond _ a _=>keyR a| .loop b=>keyR b|_=>0
end
def cutAt (s:PS)(D:List Nat)(C:Cut){β:Type}(run:(a:Type)->(Ex->PS->Option a)->Option a)(k:Ex->PS->Option β):Option β:=(λD=>Option.bind (run (KT C.ks) λe s'=>inK s D C.dc C.dr e s' C.ks some)<|elK s D C.dc C.dr k C.ks)<|D++tsK C.ks
def ZJr (s:PS)(D:List Nat)(L:Lp){β:Type}(run:PS->(Ex->PS->Option (VH (hyS L.h.S) ⊕ KT L.ks))->Option (VH (hyS L.h.S) ⊕ KT L.ks))(k:Ex->PS->Option β):Option β:=
 (λD=>pkK s D L.dc L.dr s L.h λx=>Option.bind (loop (λx=>upK s D L.dc L.dr L.h x λs1=>run s1 λe s'=>match e with| .norm=>pkK s D L.dc L.dr s' L.h λy=>some (.inl y)|e=>inK s D L.dc L.dr e s' L.ks λy=>some<|.inr y) x)<|elK s D L.dc L.dr k L.ks) (D++L.h.ts++tsK L.ks)
def ZGQ (run:(β:Type)->PS->(Ex->PS->Option β)->Option β)(n:Nat){β:Type}:PS->(Ex->PS->Option β)->Option β:=Nat.rec (λ_ _=>none) (λ_ i s k=>run β s λe s'=>match e with| .norm=>i s' k|e=>k e s') n
def code (X:Env)(Z:Hints)(c:Code):(β:Type)->PS->(Ex->PS->Option β)->Option β:=Code.rec (motive:=λ_=>(β:Type)->PS->(Ex->PS->Option β)->Option β)
  (λβ s k=>k .norm s)
  (λid ops dr β s k=>Bool.rec (match ZK Z.cut (4*id)with
    |some C=>cutAt s (dstL ops.toList) (C.at s) (λ_ k=>pops X ops.toList ops.toList s (k .norm)) k
    |none=>pops X ops.toList ops.toList s<|k .norm) (match ZK Z.cut (4*id)with
    |some C=>cutAt s (dstL ops.toList) (C.at s) (λ_ k=>drawn X ops (ZK Z.mb id) s<|k .norm) k
    |none=>drawn X ops (ZK Z.mb id) s<|k .norm) dr)
  (λa b i d β s k=>match ZK Z.cut (4*keyR a+3)with
    |some C=>cutAt s (dstC a++dstC b) (C.at s) (λf k=>i f s λe s'=>match e with| .norm=>d f s' k|e=>k e s') k
    |none=>i β s λe s'=>match e with| .norm=>d β s' k|e=>k e s')
  (λc a b i d β s k=>match c with
    | .tmp t=>oB (ZK s.l t) λv=>oBo v λe=>(match ZK Z.cut (4*(t+1000*(keyR a+1000*keyR b))+1)with
      |some C=>cutAt s (t::(dstC a++dstC b)) (C.at s) (λf k=>cond e (flag s t v true λs=>i f s k)<|flag s t v false λs=>d f s k) k
      |none=>cond e (flag s t v true λs=>i β s k)<|flag s t v false λs=>d β s k)
    | .const (.bool e)=>Bool.rec (d β s k) (i β s k) e
    |_=>none)
  (λid b g β s k=>match ZK Z.cut (4*id+2)with
    |some C=>cutAt s (dstC b) (C.at s) (λf k=>g f s λe s'=>match e with| .exit j=>Bool.rec (k e s') (k .norm s') (Nat.beq j id)|e=>k e s') k
    |none=>g β s λe s'=>match e with| .exit j=>Bool.rec (k e s') (k .norm s') (Nat.beq j id)|e=>k e s')
  (λb g β s k=>match lkL s Z.lp (keyR b)with
    |some L=>ZJr s (dstC b) (L.at s) (g _) k
    |none=>(match ZK Z.un (keyR b)with|some n=>ZGQ g n s k|none=>none))
  (λ_ _ _ _ _ _ β _ _=>none)
  (λid β s k=>k (.exit id) s)
  (λ_ _ _ _ _=>none) (λ_ _ _ _=>none) (λ_ _ _ _=>none)
  (λβ s k=>k .ret s)
  (λ_ _ _ _=>none) c
def argsL (l:List CV):Nat->List (Nat×CV):=List.rec (λ_=> []) (λc _ a i=>(i,c)::a (Nat.succ i)) l
abbrev GG{β:Type}(P:Program)(s:PS)(l:List ResultVar)(k:List CV->Option β):Option β:=List.rec (λk=>k []) (λr _ i k=>match r with
 | .tmp t=>oB (ZK s.l t) λc=>kn c λc=>i λr=>k (c::r)
 | .cell t T=>oB (ZK s.l t) λc=>(match c with| .ptr a o=>bb (Nat.beq o 0) (oB (ZK s.z a) λm=>bb (match ZE P T with|some (true,n)=>Nat.beq n m|some (false,_)=>true|none=>false) (ldO P s T a 0 λc=>i λr=>k (c::r)) none) none|_=>none)) l k
def mvC (i n:Nat)(c:CV):CV:=match c with| .row j=>Bool.rec (.row j) (.row n) (Nat.beq j i)|c=>c
def mvl{κ:Type}(i n:Nat)(l:List (κ×CV)):List (κ×CV):=List.rec [] (λp _ a=>(p.1,mvC i n p.2)::a) l
abbrev mvJ{β:Type}(js:List Nat):PS->(PS->Option β)->Option β:=List.rec (λs k=>k s) (λi _ a s k=>match ZK s.r i with
 |some (.own t E m)=>(match s with|⟨N,l,o,z,n,f,c,r⟩=>a ⟨N,mvl i n l,mvl i n o,z,Nat.succ n,f,c,(n,.own t E m)::(i,.dead)::r⟩ k)
 |_=>a s k) js
def idR (n:Nat):Rho:=Nat.rec [] (λi a=>(i,some i)::a) n
def fnV (X:Env)(Z:Hints)(f:Nat)(i o:Sp)(x:VH (hyS i)):Option (VH<|hyS o):=oB X.P.funcs[f]? λfn=>oB fn.body λc=>PS.bu ⟨fn.ntmps,[],[],[],0,[],0,[]⟩ [] i (ofVH (hyS i) x) λus s=>(match s with
  | ⟨N,_,a,z,n,q,cc,r⟩=>Xq (argsL us 0) λl=>bb (Nat.ble l.length fn.ntmps) (code X Z c _ ⟨N,l,a,z,n,q,cc,r⟩ λe s=>match e with
    | .exit _=>none
    |_=>U4 Z.pb s λs=>mvJ Z.mv s λs=>oB (GG X.P s fn.results.toList some) λl=>mtS s o l (idR i.bs.length) λhs ρ js=>bb (allB (λp=>Nat.blt p.1 o.bs.length) ρ) (toVH (hyS o) hs some) none) none)
end
end Go.Pv
namespace Go.Pv
open Go Go.Ow Go.RowKit
noncomputable def RS_ (k:Sn):Rep (stT k):=Sn.rec (motive:=λk=>Rep (stT k)) R_Write R_Disk R_Ptr R_Label R_Object R_Line R_Store R_Change R_Pool R_Signer R_Part R_Stream k
noncomputable def RPr {α β:Type} (n:Nat) (A:Rep α) (B:Rep β):Rep (α×β):=λH cs x=>∃c a,cs=c++a/\c.length=n/\A H c x.1/\B H a x.2
noncomputable def RT (t:Ty):Rep (den t):=Ty.rec (motive:=λt=>Rep (den t)) RInt RU8 RU32 RU64 RBool RStr (λt R=>RSl R (szY t)) RS_ (λa _ A B=>RPr (szY a) A B) t
theorem RT.mono:∀t,(RT t).Mono:=λt=>by
  induction t with
  |i=>exact RInt.mono
  |w8=>exact RU8.mono
  |w32=>exact RU32.mono
  |w64=>exact RU64.mono
  |b=>exact RBool.mono
  |s=>exact RStr.mono
  |sl t f=>exact RSl.mono f
  | st k=>cases k with
    |Write=>exact R_Write.mono
    |Disk=>exact R_Disk.mono
    |Ptr=>exact R_Ptr.mono
    |Label=>exact R_Label.mono
    |Object=>exact R_Object.mono
    |Line=>exact R_Line.mono
    |Store=>exact R_Store.mono
    |Change=>exact R_Change.mono
    |Pool=>exact R_Pool.mono
    |Signer=>exact R_Signer.mono
    |Part=>exact R_Part.mono
    |Stream=>exact R_Stream.mono
  | pr a b c d=>
    rintro H l cs x h ⟨g,j,e,h1,h2,h3⟩;exact⟨g,j,e,h1,c _ _ _ _ h h2,d _ _ _ _ h h3⟩
structure In where
  H:Heaplet
  ν:Nat->Nat×Value
  n:Nat
  κ:Nat->Nat
  q:Nat
structure In.Le (I J:In):Prop where
  H:Hle I.H J.H
  n:I.n<=J.n
  ν:∀k,k<I.n->J.ν k=I.ν k
  q:I.q<=J.q
  κ:∀c,c<I.q->J.κ c=I.κ c
theorem In.Le.refl (I:In):In.Le I I:=⟨Rz _,TF _,λ_ _=>rfl,TF _,λ_ _=>rfl⟩
abbrev MAX:Nat:=9223372036854775807
def ElR (I:In)(t:Ty)(x:den t)(o:Nat)(v:Value):Prop:=∃b q cs,v=.pointer (some ⟨b,q+o,none⟩)/\cs.length=szY t/\RT t I.H cs x/\∀j u,cs[j]? =some u->I.H b (q+j)=some u
def RelR (I:In)(t:Ty)(k:Nat)(i:Int)(o:Nat)(v:Value):Prop:=k<I.n/\∃b q,ElemAt (I.ν k).2 (szY t) i b q/\v=.pointer (some ⟨b,q+o,none⟩)
theorem ElR.mono{I J:In}(h:I.Le J){t:Ty}{x:den t}{o:Nat}{v:Value}(k:ElR I t x o v):ElR J t x o v:=by
 obtain⟨b,q,cs,e,e1,e2,e3⟩:=k;exact⟨b,q,cs,e,e1,RT.mono t _ _ _ _ h.H e2,λj u e=>h.H _ _ _<|e3 j u e⟩
theorem RelR.mono{I J:In}(h:I.Le J){t:Ty}{k:Nat}{i:Int}{o:Nat}{v:Value}(g:RelR I t k i o v):RelR J t k i o v:=⟨Tj g.1 h.n,by rw[h.ν _ g.1];exact g.2⟩
mutual
def VR (I:In):CV->Value->Prop
 | .i n,v=>v=.int .i64 n
 | .n c j,v=>c<I.q/\I.κ c=j/\v=.int .i64 (j:Int)
 | .ln j,v=>j<=MAX/\v=.int .i64 (j:Int)
 | .bc c m k,v=>c<I.q/\I.κ c=m/\k<=MAX/\v=.bool (decide<|(m:Int)<(k:Int))
 | .w8 x,v=>v=.int .u8 (x.toNat:Int)
 | .w32 x,v=>v=.int .u32 (x.toNat:Int)
 | .w64 x,v=>v=.int .u64 (x.toNat:Int)
 | .b x,v=>v=.bool x
 | .s l,v=>v=.string (bs l)
 | .sl t m,v=>IsSlice I.H (RT t) (szY t) v m
 | .cl t m,v=>IsSlice I.H (RT t) (szY t) v m/\∃ao,v=.slice ao m.length m.length
 | .rv t k g,v=>k<I.n/\∃n,SubV (szY t) (I.ν k).2 v g.toNat (n-g.toNat)/\(∃a c,(I.ν k).2=.slice a n c)/\0<=g/\g.toNat<=n
 | .sv k o n,v=>k<I.n/\v=.slice (some ⟨(I.ν k).1,o,none⟩) n n
 | .nils,v=>v=.slice none 0 0
 | .nilp,v=>v=.pointer none
 | .nili,v=>v=.nilIface
 | .ptr k o,v=>k<I.n/\v=.pointer (some ⟨(I.ν k).1,o,none⟩)
 | .el t x o,v=>ElR I t x o v
 | .oel t x,v=>(x=none/\v=.pointer none)\/∃y,x=some y/\ElR I t y 0 v
 | .orel t k i,v=>(i=none/\v=.pointer none)\/∃g,i=some g/\RelR I t k g 0 v
 | .clo f l m,v=>∃us ws,v=.func (.func f) us.toArray ws.toArray/\VRs I l us/\VRs I m ws
 | .fn f,v=>v=.func (.func f) #[] #[]
 | .row k,v=>k<I.n/\v=(I.ν k).2/\∃a n c,v=.slice a n c
 | .rel t k i o,v=>RelR I t k i o v
 | .ag l,v=>∃vs,v=.agg vs.toArray/\VRs I l vs
 | .tu l,v=>∃vs,v=.tuple vs.toArray/\VRs I l vs
 | .und,v=>v=undef
 | .any,v=>True
 | .unk,v=>False
def VRs (I:In):List CV->List Value->Prop
 |[],vs=>vs= []
 |c::r,vs=>∃v us,vs=v::us/\VR I c v/\VRs I r us
end
theorem VRs.length{I:In}:∀{l:List CV} {vs:List Value},VRs I l vs->l.length=vs.length
  |[],vs,h=>by simp only[VRs]at h;subst h;rfl
  | c::r,vs,h=>by
    simp only[VRs]at h;obtain⟨v,us,rfl,_,h⟩:=h;simp[VRs.length h]
theorem VRs.cons{I:In}{c:CV}{v:Value}{r:List CV}{us:List Value}(h:VR I c v)(k:VRs I r us):VRs I (c::r) (v::us):=by
 simp only[VRs];exact⟨v,us,rfl,h,k⟩
theorem VRs.nil{I:In}:VRs I [] []:=by simp only[VRs]
mutual
theorem VR.mono{I J:In}(h:I.Le J):∀{c:CV} {v:Value},VR I c v->VR J c v
 | .i n,v,k=>k
 | .n c j,v,k=>by simp only[VR]at k|-;exact⟨Tj k.1 h.q,by rw[h.κ _ k.1];exact k.2.1,k.2.2⟩
 | .ln j,v,k=>k
 | .bc c m _,v,k=>by simp only[VR]at k|-;exact⟨Tj k.1 h.q,by rw[h.κ _ k.1];exact k.2.1,k.2.2⟩
 | .w8 x,v,k=>k
 | .w32 x,v,k=>k
 | .w64 x,v,k=>k
 | .b x,v,k=>k
 | .s l,v,k=>k
 | .sl t m,v,k=>by simp only[VR]at k|-;exact k.mono (RT.mono t) h.H
 | .cl t m,v,k=>by simp only[VR]at k|-;exact⟨k.1.mono (RT.mono t) h.H,k.2⟩
 | .rv t a g,v,k=>by simp only[VR]at k|-;exact⟨Tj k.1 h.n,by rw[h.ν _ k.1];exact k.2⟩
 | .sv a _ n,v,k=>by simp only[VR]at k|-;exact⟨Tj k.1 h.n,by rw[h.ν _ k.1];exact k.2⟩
 | .nils,v,k=>k
 | .nilp,v,k=>k
 | .nili,v,k=>k
 | .ptr a o,v,k=>by simp only[VR]at k|-;exact⟨Tj k.1 h.n,by rw[h.ν _ k.1];exact k.2⟩
 | .el t x o,v,k=>by simp only[VR]at k|-;exact k.mono h
 | .oel t x,v,k=>by simp only[VR]at k|-;exact k.imp id fun⟨y,e,k⟩=>⟨y,e,k.mono h⟩
 | .orel t a i,v,k=>by simp only[VR]at k|-;exact k.imp id fun⟨y,e,k⟩=>⟨y,e,k.mono h⟩
 | .clo f l m,v,k=>by simp only[VR]at k|-;obtain⟨us,ws,e,k1,k2⟩:=k;exact⟨us,ws,e,VRs.mono h k1,VRs.mono h k2⟩
 | .fn f,v,k=>k
 | .row a,v,k=>by simp only[VR]at k|-;exact⟨Tj k.1 h.n,by rw[h.ν _ k.1];exact k.2⟩
 | .rel t a i o,v,k=>by simp only[VR]at k|-;exact k.mono h
 | .ag l,v,k=>by simp only[VR]at k|-;obtain⟨vs,e,k⟩:=k;exact⟨vs,e,VRs.mono h k⟩
 | .tu l,v,k=>by simp only[VR]at k|-;obtain⟨vs,e,k⟩:=k;exact⟨vs,e,VRs.mono h k⟩
 | .und,v,k=>k
 | .any,v,k=>k
 | .unk,v,k=>k
theorem VRs.mono{I J:In}(h:I.Le J):∀{l:List CV} {vs:List Value},VRs I l vs->VRs J l vs
  |[],vs,k=>k
  | c::r,vs,k=>by
    simp only[VRs]at k|-;obtain⟨v,us,e,k1,k2⟩:=k;exact⟨v,us,e,VR.mono h k1,VRs.mono h k2⟩
end
theorem VRs.append{I:In}:∀{l m:List CV} {vs us:List Value},VRs I l vs->VRs I m us->VRs I (l++m) (vs++us)
  |[],m,vs,us,h,k=>by simp only[VRs]at h;subst h;exact k
  | c::r,m,vs,us,h,k=>by
    simp only[VRs]at h;obtain⟨v,ws,rfl,h1,h2⟩:=h;exact VRs.cons h1<|VRs.append h2 k
theorem VRs.split{I:In}:∀{l m:List CV} {vs:List Value},VRs I (l++m) vs->∃us ws,vs=us++ws/\us.length=l.length/\VRs I l us/\VRs I m ws
  |[],m,vs,h=>⟨[],vs,rfl,rfl,VRs.nil,h⟩
  | c::r,m,vs,h=>by
    have h:VRs I (c::(r++m)) vs:=h;simp only[VRs]at h;obtain⟨v,ws,rfl,h1,h2⟩:=h;obtain⟨us,ws,rfl,e,h3,a⟩:=VRs.split h2;exact⟨v::us,ws,rfl,by simp[e],VRs.cons h1 h3,a⟩
theorem VRs.take{I:In}:∀(n:Nat) {l:List CV} {vs:List Value},VRs I l vs->VRs I (l.take n) (vs.take n)
  |0,l,vs,h=>by simp only[List.take_zero];exact VRs.nil
  |n+1,[],vs,h=>by simp only[VRs]at h;subst h;exact VRs.nil
  | n+1,c::r,vs,h=>by
    simp only[VRs]at h;obtain⟨v,us,rfl,h1,h2⟩:=h;simp only[List.take_succ_cons];exact VRs.cons h1<|VRs.take n h2
theorem VRs.drop{I:In}:∀(n:Nat) {l:List CV} {vs:List Value},VRs I l vs->VRs I (l.drop n) (vs.drop n)
  |0,l,vs,h=>h
  |n+1,[],vs,h=>by simp only[VRs]at h;subst h;exact VRs.nil
  | n+1,c::r,vs,h=>by
    simp only[VRs]at h;obtain⟨v,us,rfl,h1,h2⟩:=h;simp only[List.drop_succ_cons];exact VRs.drop n h2
theorem VRs.get{I:In}:∀{i:Nat} {l:List CV} {vs:List Value} {c:CV},VRs I l vs->l[i]? =some c->∃v,vs[i]? =some v/\VR I c v
  |i,[],vs,c,h,e=>by simp at e
  | 0,a::r,vs,c,h,e=>by
    simp only[VRs]at h;obtain⟨v,us,rfl,h1,h2⟩:=h;simp at e;subst e;exact⟨v,rfl,h1⟩
  | i+1,a::r,vs,c,h,e=>by
    simp only[VRs]at h;obtain⟨v,us,rfl,h1,h2⟩:=h;simpa using VRs.get h2 (by simpa using e)
theorem VRs.un{I:In}{c:CV}{r:List CV}{vs:List Value}(h:VRs I (c::r) vs):∃v us,vs=v::us/\VR I c v/\VRs I r us:=by simpa only[VRs]using h
theorem VRs.un0{I:In}{vs:List Value}(h:VRs I [] vs):vs= []:=by simpa only[VRs]using h
theorem ZNQ:∀(t:Ty) (y:den t),(spC t y).length=szY t:=λt=>by
 induction t with
 |st k=>intro y;cases k<;>rfl
 |pr a b i c=>intro y;show(spC a y.1++spC b y.2).length=szY a+szY b;rw[TG,i,c]
 |_=>intro y;rfl
theorem RT.cells{I:In}(t:Ty):∀(x:den t) (cs:List Value),RT t I.H cs x↔VRs I (spC t x) cs:=by
  induction t with
  |i=>intro x cs;show cs=_↔_;simp[spC,VRs,VR]
  |w8=>intro x cs;show cs=_↔_;simp[spC,VRs,VR]
  |w32=>intro x cs;show cs=_↔_;simp[spC,VRs,VR]
  |w64=>intro x cs;show cs=_↔_;simp[spC,VRs,VR]
  |b=>intro x cs;show cs=_↔_;simp[spC,VRs,VR]
  |s=>intro x cs;show cs=_↔_;simp[spC,VRs,VR]
  | sl t => intro x cs;show(∃v,cs= [v]/\_)↔_;simp[spC,VRs,VR];constructor
            . rintro⟨v,rfl,h⟩;exact⟨v,rfl,h⟩
            . rintro⟨v,rfl,h⟩;exact⟨v,rfl,h⟩
  | pr a b z A=>
    intro x cs;show(∃D E,cs=D++E/\D.length=szY a/\RT a I.H D x.1/\RT b I.H E x.2)↔VRs I (spC a x.1++spC b x.2) cs;constructor
    . rintro⟨D,E,rfl,_,h1,h2⟩;exact VRs.append ((z _ _).1 h1)<|(A _ _).1 h2
    . intro h;obtain⟨us,ws,rfl,e,h1,h2⟩:=h.split;exact⟨us,ws,rfl,by rw[e,ZNQ],(z _ _).2 h1,(A _ _).2 h2⟩
  | st k=>
    intro x cs;cases k with
    | Write=>
      constructor
      . rintro⟨c,rfl,h0⟩;exact(VRs.cons rfl<|VRs.cons h0 VRs.nil)
      . intro g;obtain⟨_,_,rfl,rfl,d⟩:=g.un;obtain⟨c,_,rfl,h0,f⟩:=d.un;cases f.un0;exact⟨c,rfl,h0⟩
    | Disk=>
      constructor
      . rintro⟨c,n,rfl,h0,h1⟩;exact(VRs.cons h0<|VRs.cons h1 VRs.nil)
      . intro g;obtain⟨c,_,rfl,h0,d⟩:=g.un;obtain⟨n,_,rfl,h1,f⟩:=d.un;cases f.un0;exact⟨c,n,rfl,h0,h1⟩
    | Ptr=>
      constructor
      . intro h;cases(show cs=_ from h);exact(VRs.cons rfl<|VRs.cons rfl<|VRs.cons rfl<|VRs.cons rfl<|VRs.cons rfl VRs.nil)
      . intro g;obtain⟨_,_,rfl,rfl,d⟩:=g.un;obtain⟨_,_,rfl,rfl,f⟩:=d.un;obtain⟨_,_,rfl,rfl,j⟩:=f.un;obtain⟨_,_,rfl,rfl,l⟩:=j.un;obtain⟨_,_,rfl,rfl,m⟩:=l.un;cases m.un0;exact rfl
    | Label=>
      constructor
      . intro h;cases(show cs=_ from h);exact(VRs.cons rfl<|VRs.cons rfl<|VRs.cons rfl<|VRs.cons rfl<|VRs.cons rfl<|VRs.cons rfl<|VRs.cons rfl VRs.nil)
      . intro g;obtain⟨_,_,rfl,rfl,d⟩:=g.un;obtain⟨_,_,rfl,rfl,f⟩:=d.un;obtain⟨_,_,rfl,rfl,j⟩:=f.un;obtain⟨_,_,rfl,rfl,l⟩:=j.un;obtain⟨_,_,rfl,rfl,m⟩:=l.un;obtain⟨_,_,rfl,rfl,u⟩:=m.un;obtain⟨_,_,rfl,rfl,w⟩:=u.un;cases w.un0;exact rfl
    | Object=>
      constructor
      . rintro⟨c,rfl,h0⟩;exact(VRs.cons rfl<|VRs.cons rfl<|VRs.cons rfl<|VRs.cons h0 VRs.nil)
      . intro g;obtain⟨_,_,rfl,rfl,d⟩:=g.un;obtain⟨_,_,rfl,rfl,f⟩:=d.un;obtain⟨_,_,rfl,rfl,j⟩:=f.un;obtain⟨c,_,rfl,h0,l⟩:=j.un;cases l.un0;exact⟨c,rfl,h0⟩
    | Line=>
      constructor
      . rintro⟨c,rfl,h0⟩;exact(VRs.cons rfl<|VRs.cons rfl<|VRs.cons rfl<|VRs.cons rfl<|VRs.cons rfl<|VRs.cons rfl<|VRs.cons rfl<|VRs.cons rfl<|VRs.cons rfl<|VRs.cons rfl<|VRs.cons rfl<|VRs.cons rfl<|VRs.cons h0 VRs.nil)
      . intro g;obtain⟨_,_,rfl,rfl,d⟩:=g.un;obtain⟨_,_,rfl,rfl,f⟩:=d.un;obtain⟨_,_,rfl,rfl,j⟩:=f.un;obtain⟨_,_,rfl,rfl,l⟩:=j.un;obtain⟨_,_,rfl,rfl,m⟩:=l.un;obtain⟨_,_,rfl,rfl,u⟩:=m.un;obtain⟨_,_,rfl,rfl,w⟩:=u.un;obtain⟨_,_,rfl,rfl,B⟩:=w.un;obtain⟨_,_,rfl,rfl,C⟩:=B.un;obtain⟨_,_,rfl,rfl,o⟩:=C.un;obtain⟨_,_,rfl,rfl,p⟩:=o.un;obtain⟨_,_,rfl,rfl,q⟩:=p.un;obtain⟨c,_,rfl,h0,y⟩:=q.un;cases y.un0;exact⟨c,rfl,h0⟩
    | Store=>
      constructor
      . rintro⟨c,n,r,rfl,h0,h1,h2⟩;exact(VRs.cons h0<|VRs.cons h1<|VRs.cons h2<|VRs.cons rfl<|VRs.cons rfl VRs.nil)
      . intro g;obtain⟨c,_,rfl,h0,d⟩:=g.un;obtain⟨n,_,rfl,h1,f⟩:=d.un;obtain⟨r,_,rfl,h2,j⟩:=f.un;obtain⟨_,_,rfl,rfl,l⟩:=j.un;obtain⟨_,_,rfl,rfl,m⟩:=l.un;cases m.un0;exact⟨c,n,r,rfl,h0,h1,h2⟩
    | Change=>
      constructor
      . rintro⟨c,rfl,h0⟩;exact(VRs.cons rfl<|VRs.cons rfl<|VRs.cons rfl<|VRs.cons rfl<|VRs.cons rfl<|VRs.cons rfl<|VRs.cons h0<|VRs.cons rfl<|VRs.cons rfl<|VRs.cons rfl<|VRs.cons rfl<|VRs.cons rfl VRs.nil)
      . intro g;obtain⟨_,_,rfl,rfl,d⟩:=g.un;obtain⟨_,_,rfl,rfl,f⟩:=d.un;obtain⟨_,_,rfl,rfl,j⟩:=f.un;obtain⟨_,_,rfl,rfl,l⟩:=j.un;obtain⟨_,_,rfl,rfl,m⟩:=l.un;obtain⟨_,_,rfl,rfl,u⟩:=m.un;obtain⟨c,_,rfl,h0,w⟩:=u.un;obtain⟨_,_,rfl,rfl,B⟩:=w.un;obtain⟨_,_,rfl,rfl,C⟩:=B.un;obtain⟨_,_,rfl,rfl,o⟩:=C.un;obtain⟨_,_,rfl,rfl,p⟩:=o.un;obtain⟨_,_,rfl,rfl,q⟩:=p.un;cases q.un0;exact⟨c,rfl,h0⟩
    | Pool=>
      constructor
      . rintro⟨c,n,r,R,S,T,U,V,rfl,h0,h1,h2,h3,F,G,J,K⟩;exact(VRs.cons h0<|VRs.cons h1<|VRs.cons h2<|VRs.cons rfl<|VRs.cons rfl<|VRs.cons rfl<|VRs.cons rfl<|VRs.cons rfl<|VRs.cons rfl<|VRs.cons rfl<|VRs.cons rfl<|VRs.cons h3<|VRs.cons F<|VRs.cons G<|VRs.cons J<|VRs.cons K<|VRs.cons rfl<|VRs.cons rfl<|VRs.cons rfl VRs.nil)
      . intro g;obtain⟨c,_,rfl,h0,d⟩:=g.un;obtain⟨n,_,rfl,h1,f⟩:=d.un;obtain⟨r,_,rfl,h2,j⟩:=f.un;obtain⟨_,_,rfl,rfl,l⟩:=j.un;obtain⟨_,_,rfl,rfl,m⟩:=l.un;obtain⟨_,_,rfl,rfl,u⟩:=m.un;obtain⟨_,_,rfl,rfl,w⟩:=u.un;obtain⟨_,_,rfl,rfl,B⟩:=w.un;obtain⟨_,_,rfl,rfl,C⟩:=B.un;obtain⟨_,_,rfl,rfl,o⟩:=C.un;obtain⟨_,_,rfl,rfl,p⟩:=o.un;obtain⟨R,_,rfl,h3,q⟩:=p.un;obtain⟨S,_,rfl,F,y⟩:=q.un;obtain⟨T,_,rfl,G,L⟩:=y.un;obtain⟨U,_,rfl,J,M⟩:=L.un;obtain⟨V,_,rfl,K,N⟩:=M.un;obtain⟨_,_,rfl,rfl,O⟩:=N.un;obtain⟨_,_,rfl,rfl,P⟩:=O.un;obtain⟨_,_,rfl,rfl,Q⟩:=P.un;cases Q.un0;exact⟨c,n,r,R,S,T,U,V,rfl,h0,h1,h2,h3,F,G,J,K⟩
    | Signer=>
      constructor
      . rintro⟨c,rfl,h0⟩;exact(VRs.cons h0<|VRs.cons rfl VRs.nil)
      . intro g;obtain⟨c,_,rfl,h0,d⟩:=g.un;obtain⟨_,_,rfl,rfl,f⟩:=d.un;cases f.un0;exact⟨c,rfl,h0⟩
    | Part=>
      constructor
      . rintro⟨c,rfl,h0⟩;exact(VRs.cons rfl<|VRs.cons rfl<|VRs.cons rfl<|VRs.cons rfl<|VRs.cons h0 VRs.nil)
      . intro g;obtain⟨_,_,rfl,rfl,d⟩:=g.un;obtain⟨_,_,rfl,rfl,f⟩:=d.un;obtain⟨_,_,rfl,rfl,j⟩:=f.un;obtain⟨_,_,rfl,rfl,l⟩:=j.un;obtain⟨c,_,rfl,h0,m⟩:=l.un;cases m.un0;exact⟨c,rfl,h0⟩
    | Stream=>
      constructor
      . rintro⟨c,n,r,rfl,h0,h1,h2⟩;exact(VRs.cons rfl<|VRs.cons rfl<|VRs.cons h0<|VRs.cons h1<|VRs.cons h2 VRs.nil)
      . intro g;obtain⟨_,_,rfl,rfl,d⟩:=g.un;obtain⟨_,_,rfl,rfl,f⟩:=d.un;obtain⟨c,_,rfl,h0,j⟩:=f.un;obtain⟨n,_,rfl,h1,l⟩:=j.un;obtain⟨r,_,rfl,h2,m⟩:=l.un;cases m.un0;exact⟨c,n,r,rfl,h0,h1,h2⟩
section
variable{β:Type}{r:β}
theorem Zb{α:Type}{a:Option α}{k:α->Option β}(h:oB a k=some r):∃x,a=some x/\k x=some r:=by cases a with|none=>cases h|some x=>exact⟨x,rfl,h⟩
theorem ZC{b:Bool}{x:Option β}(h:bb b x none=some r):b=true/\x=some r:=by cases b with|false=>cases h|true=>exact⟨rfl,h⟩
theorem Y7{α:Type}:∀(l:List α) (k:List α->Option β),Xq l k=k l
 |[],k=>rfl
 |a::l,k=>Y7 l λr=>k (a::r)
theorem ZJC (c:CV)(k:CV->Option β):fC c k=k c:=by
 cases c<;>first|rfl|exact Y7 _ _|exact(Y7 _ _).trans<|Y7 _ _
theorem Zp{t u:Ty}{x:den t}{k:den u->Option β}(h:cast t u x k=some r):∃e:t=u,k (e▸x)=some r:=by
 unfold cast at h;have a:∀(b:Bool) (e:eqT t u=b),castB t u x k b e=some r->∃e:t=u,k (e▸x)=some r:=λb e h=>by
  cases b with
  |false=>cases h
  |true=>exact⟨Vk e,h⟩
 exact a _ _ h
def CLe (c d:CV):Prop:=∀(I:In) (v:Value),VR I c v->VR I d v
def LeL (l m:List CV):Prop:=∀(I:In) (vs:List Value),VRs I l vs->VRs I m vs
theorem PW (c:CV):CLe c c:=λ_ _ h=>h
theorem OU (l:List CV):LeL l l:=λ_ _ h=>h
theorem LeL.cons{c d:CV}{l m:List CV}(h:CLe c d)(k:LeL l m):LeL (c::l) (d::m):=λI vs e=>by
 obtain⟨v,us,rfl,e1,e2⟩:=e.un;exact VRs.cons (h _ _ e1)<|k _ _ e2
structure CR (c d:CV):Prop where
  le:CLe c d
  sl:∀t m,c=.sl t m->d=.sl t m
  nil:c=.nils->∃t,d=.sl t []
inductive CRs:List CV->List CV->Prop
  |nil:CRs [] []
  |cons {c d l m}:CR c d->CRs l m->CRs (c::l) (d::m)
theorem CRs.append{l m l' m':List CV}(h:CRs l m)(k:CRs l' m'):CRs (l++l') (m++m'):=by
 induction h with
 |nil=>exact k
 |cons e _ i=>exact .cons e i
theorem CRs.le{l m:List CV}(h:CRs l m):LeL l m:=by
 induction h with
 |nil=>exact OU _
 |cons e _ i=>exact LeL.cons e.le i
theorem CRs.length{l m:List CV}(h:CRs l m):l.length=m.length:=by
 induction h with
 |nil=>rfl
 |cons e _ i=>simp[i]
theorem CRs.get{l m:List CV}(h:CRs l m):∀{i:Nat} {c:CV},l[i]? =some c->∃d,m[i]? =some d/\CR c d:=by
  induction h with
  |nil=>intro i c e;simp at e
  | cons e _ a=>
    intro i c q;cases i with
    |zero=>simp at q;subst q;exact⟨_,rfl,e⟩
    |succ i=>simpa using a (by simpa using q)
theorem CR.of{c d:CV}(h:CLe c d)(h1:∀t m,c≠.sl t m)(h2:c≠.nils):CR c d:=⟨h,λt m e=>absurd e<|h1 t m,λe=>absurd e h2⟩
theorem Zy{c:CV}{k:Int->Option β}(h:oI c k=some r):∃n,CR c (.i n)/\k n=some r:=by
 unfold oI at h;split at h
 . exact⟨_,.of (PW _) (by simp) (by simp),h⟩
 . exact⟨_,.of (λI v e=>by simp only[VR]at e|-;exact e.2.2) (by simp) (by simp),h⟩
 . exact⟨_,.of (λI v e=>by simp only[VR]at e|-;exact e.2) (by simp) (by simp),h⟩
 . cases h
theorem ZF8{c:CV}{k:UInt8->Option β}(h:o8 c k=some r):∃n,CR c (.w8 n)/\k n=some r:=by
 unfold o8 at h;split at h
 . exact⟨_,.of (PW _) (by simp) (by simp),h⟩
 . cases h
theorem Zc{c:CV}{k:UInt32->Option β}(h:o32 c k=some r):∃n,CR c (.w32 n)/\k n=some r:=by
 unfold o32 at h;split at h
 . exact⟨_,.of (PW _) (by simp) (by simp),h⟩
 . cases h
theorem ZPY{c:CV}{k:UInt64->Option β}(h:o64 c k=some r):∃n,CR c (.w64 n)/\k n=some r:=by
 unfold o64 at h;split at h
 . exact⟨_,.of (PW _) (by simp) (by simp),h⟩
 . cases h
theorem ZRB{c:CV}{k:List UInt8->Option β}(h:oS c k=some r):∃n,CR c (.s n)/\k n=some r:=by
 unfold oS at h;split at h
 . exact⟨_,.of (PW _) (by simp) (by simp),h⟩
 . cases h
theorem GM{c:CV}{k:Bool->Option β}(h:oBo c k=some r):∃n,CR c (.b n)/\k n=some r:=by
 unfold oBo at h;split at h
 . exact⟨_,.of (PW _) (by simp) (by simp),h⟩
 . exact⟨_,.of (λI v e=>by simp only[VR]at e|-;exact e.2.2.2) (by simp) (by simp),h⟩
 . cases h
theorem Zw{t:Ty}{c:CV}{k:List (den t)->Option β}(h:oSl t c k=some r):∃m,CR c (.sl t m)/\k m=some r:=by
 unfold oSl at h;split at h
 . obtain⟨e,h⟩:=Zp h;cases e;exact⟨_,⟨PW _,λ_ _ e=>e,λe=>by cases e⟩,h⟩
 . obtain⟨e,h⟩:=Zp h;cases e;exact⟨_,.of (λI v e=>by simp only[VR]at e|-;exact e.1) (by simp) (by simp),h⟩
 . exact⟨_,⟨λI v e=>by simp only[VR]at e|-;subst e;exact IsSlice.nil _ _ _,λ_ _ e=>(by cases e),λ_=>⟨_,rfl⟩⟩,h⟩
 . cases h
theorem ZG{α:Type}{f:CV->(α->Option β)->Option β}{l:List CV}{k:α->List CV->Option β}(h:t1 f l k=some r):∃c m,l=c::m/\f c (λx=>k x m)=some r:=by
 cases l with
 |nil=>cases h
 |cons c m=>exact⟨c,m,rfl,h⟩
theorem ZPJ{s:Sn}{l:List CV}{k:stT s->List CV->Option β}(h:stM s l k=some r):∃x d m,l=d++m/\CRs d (stC s x)/\k x m=some r:=by
  cases s with
    | Write=>
      obtain⟨c0,l0,rfl,h⟩:=ZG h;obtain⟨a,e0,h⟩:=Zy h;obtain⟨c,d,rfl,h⟩:=ZG h;obtain⟨b,e1,h⟩:=Zw h;exact⟨⟨a,b⟩,[c0,c],d,rfl,.cons e0<|.cons e1 (.nil),h⟩
    | Disk=>
      obtain⟨c0,l0,rfl,h⟩:=ZG h;obtain⟨a,e0,h⟩:=Zw h;obtain⟨c,d,rfl,h⟩:=ZG h;obtain⟨b,e1,h⟩:=Zw h;exact⟨⟨a,b⟩,[c0,c],d,rfl,.cons e0<|.cons e1 (.nil),h⟩
    | Ptr=>
      obtain⟨c0,l0,rfl,h⟩:=ZG h;obtain⟨a,e0,h⟩:=Zy h;obtain⟨c,d,rfl,h⟩:=ZG h;obtain⟨b,e1,h⟩:=Zc h;obtain⟨e,w,rfl,h⟩:=ZG h;obtain⟨f,e2,h⟩:=Zc h;obtain⟨g,v,rfl,h⟩:=ZG h;obtain⟨i,e3,h⟩:=Zc h;obtain⟨j,o,rfl,h⟩:=ZG h;obtain⟨n,e4,h⟩:=Zc h;exact⟨⟨a,b,f,i,n⟩,[c0,c,e,g,j],o,rfl,.cons e0<|.cons e1<|.cons e2<|.cons e3<|.cons e4 (.nil),h⟩
    | Label=>
      obtain⟨c0,l0,rfl,h⟩:=ZG h;obtain⟨a,e0,h⟩:=Zc h;obtain⟨c,d,rfl,h⟩:=ZG h;obtain⟨b,e1,h⟩:=Zc h;obtain⟨e,w,rfl,h⟩:=ZG h;obtain⟨f,e2,h⟩:=Zy h;obtain⟨g,v,rfl,h⟩:=ZG h;obtain⟨i,e3,h⟩:=Zc h;obtain⟨j,o,rfl,h⟩:=ZG h;obtain⟨n,e4,h⟩:=Zc h;obtain⟨y,O,rfl,h⟩:=ZG h;obtain⟨z,e5,h⟩:=Zc h;obtain⟨A,N,rfl,h⟩:=ZG h;obtain⟨B,e6,h⟩:=Zc h;exact⟨⟨a,b,⟨f,i,n,z,B⟩⟩,[c0,c,e,g,j,y,A],N,rfl,.cons e0<|.cons e1<|.cons e2<|.cons e3<|.cons e4<|.cons e5<|.cons e6 (.nil),h⟩
    | Object=>
      obtain⟨c0,l0,rfl,h⟩:=ZG h;obtain⟨a,e0,h⟩:=ZF8 h;obtain⟨c,d,rfl,h⟩:=ZG h;obtain⟨b,e1,h⟩:=Zy h;obtain⟨e,w,rfl,h⟩:=ZG h;obtain⟨f,e2,h⟩:=Zy h;obtain⟨g,v,rfl,h⟩:=ZG h;obtain⟨i,e3,h⟩:=Zw h;exact⟨⟨a,b,f,i⟩,[c0,c,e,g],v,rfl,.cons e0<|.cons e1<|.cons e2<|.cons e3 (.nil),h⟩
    | Line=>
      obtain⟨c0,l0,rfl,h⟩:=ZG h;obtain⟨a,e0,h⟩:=Zy h;obtain⟨c,d,rfl,h⟩:=ZG h;obtain⟨b,e1,h⟩:=ZF8 h;obtain⟨e,w,rfl,h⟩:=ZG h;obtain⟨f,e2,h⟩:=Zy h;obtain⟨g,v,rfl,h⟩:=ZG h;obtain⟨i,e3,h⟩:=Zy h;obtain⟨j,o,rfl,h⟩:=ZG h;obtain⟨n,e4,h⟩:=Zc h;obtain⟨y,O,rfl,h⟩:=ZG h;obtain⟨z,e5,h⟩:=Zc h;obtain⟨A,N,rfl,h⟩:=ZG h;obtain⟨B,e6,h⟩:=Zy h;obtain⟨F,l7,rfl,h⟩:=ZG h;obtain⟨G,e7,h⟩:=Zy h;obtain⟨H,l8,rfl,h⟩:=ZG h;obtain⟨I,e8,h⟩:=Zc h;obtain⟨J,l9,rfl,h⟩:=ZG h;obtain⟨K,e9,h⟩:=Zc h;obtain⟨p,L,rfl,h⟩:=ZG h;obtain⟨q,e10,h⟩:=Zc h;obtain⟨t,C,rfl,h⟩:=ZG h;obtain⟨u,e11,h⟩:=Zc h;obtain⟨D,M,rfl,h⟩:=ZG h;obtain⟨E,e12,h⟩:=Zw h;exact⟨⟨a,b,f,i,n,z,B,⟨G,I,K,q,u⟩,E⟩,[c0,c,e,g,j,y,A,F,H,J,p,t,D],M,rfl,.cons e0<|.cons e1<|.cons e2<|.cons e3<|.cons e4<|.cons e5<|.cons e6<|.cons e7<|.cons e8<|.cons e9<|.cons e10<|.cons e11<|.cons e12 (.nil),h⟩
    | Store=>
      obtain⟨c0,l0,rfl,h⟩:=ZG h;obtain⟨a,e0,h⟩:=Zw h;obtain⟨c,d,rfl,h⟩:=ZG h;obtain⟨b,e1,h⟩:=Zw h;obtain⟨e,w,rfl,h⟩:=ZG h;obtain⟨f,e2,h⟩:=Zw h;obtain⟨g,v,rfl,h⟩:=ZG h;obtain⟨i,e3,h⟩:=Zc h;obtain⟨j,o,rfl,h⟩:=ZG h;obtain⟨n,e4,h⟩:=Zc h;exact⟨⟨⟨a,b⟩,f,i,n⟩,[c0,c,e,g,j],o,rfl,.cons e0<|.cons e1<|.cons e2<|.cons e3<|.cons e4 (.nil),h⟩
    | Change=>
      obtain⟨c0,l0,rfl,h⟩:=ZG h;obtain⟨a,e0,h⟩:=Zy h;obtain⟨c,d,rfl,h⟩:=ZG h;obtain⟨b,e1,h⟩:=Zy h;obtain⟨e,w,rfl,h⟩:=ZG h;obtain⟨f,e2,h⟩:=Zy h;obtain⟨g,v,rfl,h⟩:=ZG h;obtain⟨i,e3,h⟩:=ZF8 h;obtain⟨j,o,rfl,h⟩:=ZG h;obtain⟨n,e4,h⟩:=Zy h;obtain⟨y,O,rfl,h⟩:=ZG h;obtain⟨z,e5,h⟩:=Zy h;obtain⟨A,N,rfl,h⟩:=ZG h;obtain⟨B,e6,h⟩:=Zw h;obtain⟨F,l7,rfl,h⟩:=ZG h;obtain⟨G,e7,h⟩:=Zy h;obtain⟨H,l8,rfl,h⟩:=ZG h;obtain⟨I,e8,h⟩:=Zc h;obtain⟨J,l9,rfl,h⟩:=ZG h;obtain⟨K,e9,h⟩:=Zc h;obtain⟨p,L,rfl,h⟩:=ZG h;obtain⟨q,e10,h⟩:=Zc h;obtain⟨t,C,rfl,h⟩:=ZG h;obtain⟨u,e11,h⟩:=Zc h;exact⟨⟨a,b,f,i,n,z,B,⟨G,I,K,q,u⟩⟩,[c0,c,e,g,j,y,A,F,H,J,p,t],C,rfl,.cons e0<|.cons e1<|.cons e2<|.cons e3<|.cons e4<|.cons e5<|.cons e6<|.cons e7<|.cons e8<|.cons e9<|.cons e10<|.cons e11 (.nil),h⟩
    | Pool=>
      obtain⟨c0,l0,rfl,h⟩:=ZG h;obtain⟨a,e0,h⟩:=Zw h;obtain⟨c,d,rfl,h⟩:=ZG h;obtain⟨b,e1,h⟩:=Zw h;obtain⟨e,w,rfl,h⟩:=ZG h;obtain⟨f,e2,h⟩:=Zw h;obtain⟨g,v,rfl,h⟩:=ZG h;obtain⟨i,e3,h⟩:=Zc h;obtain⟨j,o,rfl,h⟩:=ZG h;obtain⟨n,e4,h⟩:=Zc h;obtain⟨y,O,rfl,h⟩:=ZG h;obtain⟨z,e5,h⟩:=Zc h;obtain⟨A,N,rfl,h⟩:=ZG h;obtain⟨B,e6,h⟩:=Zy h;obtain⟨F,l7,rfl,h⟩:=ZG h;obtain⟨G,e7,h⟩:=Zc h;obtain⟨H,l8,rfl,h⟩:=ZG h;obtain⟨I,e8,h⟩:=Zc h;obtain⟨J,l9,rfl,h⟩:=ZG h;obtain⟨K,e9,h⟩:=Zc h;obtain⟨p,L,rfl,h⟩:=ZG h;obtain⟨q,e10,h⟩:=Zc h;obtain⟨t,C,rfl,h⟩:=ZG h;obtain⟨u,e11,h⟩:=Zw h;obtain⟨D,M,rfl,h⟩:=ZG h;obtain⟨E,e12,h⟩:=Zw h;obtain⟨P,l13,rfl,h⟩:=ZG h;obtain⟨Q,e13,h⟩:=Zw h;obtain⟨R,l14,rfl,h⟩:=ZG h;obtain⟨S,e14,h⟩:=Zw h;obtain⟨T,l15,rfl,h⟩:=ZG h;obtain⟨U,e15,h⟩:=Zw h;obtain⟨V,l16,rfl,h⟩:=ZG h;obtain⟨W,X,h⟩:=Zy h;obtain⟨Y,l17,rfl,h⟩:=ZG h;obtain⟨Z,e17,h⟩:=Zy h;obtain⟨c18,l18,rfl,h⟩:=ZG h;obtain⟨a18,e18,h⟩:=Zc h;exact⟨⟨⟨⟨a,b⟩,f,i,n⟩,z,⟨B,G,I,K,q⟩,u,E,Q,S,U,W,Z,a18⟩,[c0,c,e,g,j,y,A,F,H,J,p,t,D,P,R,T,V,Y,c18],l18,rfl,.cons e0<|.cons e1<|.cons e2<|.cons e3<|.cons e4<|.cons e5<|.cons e6<|.cons e7<|.cons e8<|.cons e9<|.cons e10<|.cons e11<|.cons e12<|.cons e13<|.cons e14<|.cons e15<|.cons X<|.cons e17<|.cons e18 (.nil),h⟩
    | Signer=>
      obtain⟨c0,l0,rfl,h⟩:=ZG h;obtain⟨a,e0,h⟩:=Zw h;obtain⟨c,d,rfl,h⟩:=ZG h;obtain⟨b,e1,h⟩:=Zy h;exact⟨⟨a,b⟩,[c0,c],d,rfl,.cons e0<|.cons e1 (.nil),h⟩
    | Part=>
      obtain⟨c0,l0,rfl,h⟩:=ZG h;obtain⟨a,e0,h⟩:=Zy h;obtain⟨c,d,rfl,h⟩:=ZG h;obtain⟨b,e1,h⟩:=Zy h;obtain⟨e,w,rfl,h⟩:=ZG h;obtain⟨f,e2,h⟩:=Zc h;obtain⟨g,v,rfl,h⟩:=ZG h;obtain⟨i,e3,h⟩:=Zc h;obtain⟨j,o,rfl,h⟩:=ZG h;obtain⟨n,e4,h⟩:=Zw h;exact⟨⟨a,b,f,i,n⟩,[c0,c,e,g,j],o,rfl,.cons e0<|.cons e1<|.cons e2<|.cons e3<|.cons e4 (.nil),h⟩
    | Stream=>
      obtain⟨c0,l0,rfl,h⟩:=ZG h;obtain⟨a,e0,h⟩:=Zc h;obtain⟨c,d,rfl,h⟩:=ZG h;obtain⟨b,e1,h⟩:=Zc h;obtain⟨e,w,rfl,h⟩:=ZG h;obtain⟨f,e2,h⟩:=Zw h;obtain⟨g,v,rfl,h⟩:=ZG h;obtain⟨i,e3,h⟩:=Zw h;obtain⟨j,o,rfl,h⟩:=ZG h;obtain⟨n,e4,h⟩:=Zw h;exact⟨⟨a,b,f,i,n⟩,[c0,c,e,g,j],o,rfl,.cons e0<|.cons e1<|.cons e2<|.cons e3<|.cons e4 (.nil),h⟩
theorem ZQv:∀{t:Ty} {l:List CV} {k:den t->List CV->Option β},tk t l k=some r->∃x d m,l=d++m/\CRs d (spC t x)/\k x m=some r:=λ{t}=>by
  induction t with
  |i=>intro l k h;obtain⟨c,m,rfl,h⟩:=ZG h;obtain⟨x,e,h⟩:=Zy h;exact⟨x,[c],m,rfl,.cons e .nil,h⟩
  |w8=>intro l k h;obtain⟨c,m,rfl,h⟩:=ZG h;obtain⟨x,e,h⟩:=ZF8 h;exact⟨x,[c],m,rfl,.cons e .nil,h⟩
  |w32=>intro l k h;obtain⟨c,m,rfl,h⟩:=ZG h;obtain⟨x,e,h⟩:=Zc h;exact⟨x,[c],m,rfl,.cons e .nil,h⟩
  |w64=>intro l k h;obtain⟨c,m,rfl,h⟩:=ZG h;obtain⟨x,e,h⟩:=ZPY h;exact⟨x,[c],m,rfl,.cons e .nil,h⟩
  |b=>intro l k h;obtain⟨c,m,rfl,h⟩:=ZG h;obtain⟨x,e,h⟩:=GM h;exact⟨x,[c],m,rfl,.cons e .nil,h⟩
  |s=>intro l k h;obtain⟨c,m,rfl,h⟩:=ZG h;obtain⟨x,e,h⟩:=ZRB h;exact⟨x,[c],m,rfl,.cons e .nil,h⟩
  |sl t o=>intro l k h;obtain⟨c,m,rfl,h⟩:=ZG h;obtain⟨x,e,h⟩:=Zw h;exact⟨x,[c],m,rfl,.cons e .nil,h⟩
  |st q=>intro l k h;exact ZPJ h
  | pr a b f g=>
    intro l k h;obtain⟨x,d,m,rfl,e,h⟩:=f<|show tk a l (λa l=>tk b l λb l=>k (a,b) l)=some r from h
    obtain⟨y,j,n,rfl,e2,h⟩:=g h;exact⟨(x,y),d++j,n,by simp,e.append e2,h⟩
theorem JG{t:Ty}{l:List CV}{k:den t->Option β}(h:oT t l k=some r):∃x,k x=some r/\CRs l (spC t x):=by
 obtain⟨x,b,m,rfl,e,h⟩:=ZQv (show tk t l (λx q=>List.rec (k x) (λ_ _ _=>none) q)=some r from h)
 cases m with
 |cons a m=>cases h
 |nil=>exact⟨x,h,by simpa using e⟩
theorem ZRJ{t:Ty}(h:isAg t=true)(x:den t):dV t x=.ag (spC t x):=by
 cases t<;>first|(cases h;done)|rfl
theorem ZPo{t:Ty}(h:isAg t=false)(x:den t):spC t x= [dV t x]:=by
 cases t<;>first|(cases h;done)|rfl
theorem ZRC{t:Ty}{c:CV}{k:den t->Option β}(h:oD t c k=some r):∃x,CLe c (dV t x)/\k x=some r:=by
  have s:∀c,(Bool.rec (oT t [c] k) none (isAg t):Option β)=some r->∃x,CLe c (dV t x)/\k x=some r:=λc h=>by
    cases hi:isAg t with
    |true=>rw[hi]at h;cases h
    | false=>
      rw[hi]at h;obtain⟨x,h,e⟩:=JG h;refine⟨x,λI v a=> ?_,h⟩;have:=e.le I [v]<|VRs.cons a VRs.nil;rw[ZPo hi]at this;obtain⟨v',us,e1,e2,_⟩:=this.un;cases e1;exact e2
  cases c with
  | ag l=>
    have h:(Bool.rec none (oT t l k) (isAg t):Option β)=some r:=h;cases hi:isAg t with
    |false=>rw[hi]at h;cases h
    | true=>
      rw[hi]at h;obtain⟨x,h,e⟩:=JG h;refine⟨x,λI v a=> ?_,h⟩;rw[ZRJ hi];simp only[VR]at a|-;obtain⟨vs,rfl,a⟩:=a;exact⟨vs,rfl,e.le _ _ a⟩
  |_=>exact s _ h
theorem BB{t u:Ty}{x:Option (den t)}{k:Option (den u)->Option β}(h:castO t u x k=some r):∃e:t=u,k (e▸x)=some r:=by
 unfold castO at h;have a:∀(b:Bool) (e:eqT t u=b),ZQK t u x k b e=some r->∃e:t=u,k (e▸x)=some r:=λb e h=>by
  cases b with
  |false=>cases h
  |true=>exact⟨Vk e,h⟩
 exact a _ _ h
theorem ZKn{h:Hy}{v:HV}{k:Hd h->Option β}(e:toH h v k=some r):∃x,v=ofH h x/\k x=some r:=by
  cases h with
  | d y=>cases v with
    |d z x=>obtain⟨q,e⟩:=Zp e;subst q;exact⟨x,rfl,e⟩
    |_=>cases e
  | n=>cases v with
    |n j=>exact⟨j,rfl,e⟩
    |_=>cases e
  | o y=>cases v with
    |o z x=>obtain⟨q,e⟩:=BB e;subst q;exact⟨x,rfl,e⟩
    |_=>cases e
theorem UD:∀{hs:List Hy} {l:List HV} {k:VH hs->Option β},toVH hs l k=some r->∃x,l=ofVH hs x/\k x=some r
  | [],l,k,h=>by
    cases l with
    |nil=>exact⟨(),rfl,h⟩
    |cons=>cases h
  | [a],l,k,h=>by
    cases l with
    |nil=>cases h
    | cons v vs=>
      have h0:toH a v (λx=>List.rec (k x) (λ_ _ _=>none) vs)=some r:=h;clear h;obtain⟨x,e,h2⟩:=ZKn h0;subst e;cases vs with
      |nil=>exact⟨x,rfl,h2⟩
      |cons=>cases h2
  | a ::b::hs,l,k,h=>by
    cases l with
    |nil=>cases h
    | cons v vs=>
      have h0:toH a v (λx=>toVH (b::hs) vs λy=>k (x,y))=some r:=h;clear h;obtain⟨x,e,h2⟩:=ZKn h0;subst e;obtain⟨y,e,h3⟩:=UD (hs:=b::hs) h2;subst e;exact⟨(x,y),rfl,h3⟩
end
theorem Vr{a b:Nat}(h:a≠b):Nat.beq a b=false:=by
 cases hb:Nat.beq a b with
 |false=>rfl
 |true=>exact absurd (TA hb) h
section
variable{α β:Type}{r:β}
theorem ZH (p:Nat×α)(l:List (Nat×α))(i:Nat):ZK (p::l) i=if p.1=i then some p.2 else ZK l i:=by
 show(Bool.rec (ZK l i) (some p.2) (Nat.beq p.1 i):Option α)=_;by_cases h:p.1=i
 . rw[TJ h,show Nat.beq p.1 i=true from by simpa using h]
 . rw[TK h,Vr h]
theorem DZ (p:(Nat×Nat)×α)(l:List ((Nat×Nat)×α))(i j:Nat):lkO (p::l) i j=if p.1=(i,j)then some p.2 else lkO l i j:=by
 obtain⟨⟨a,b⟩,v⟩:=p;show(Bool.rec (lkO l i j) (Bool.rec (lkO l i j) (some v) (Nat.beq b j)) (Nat.beq a i):Option α)=_;by_cases h:a=i
 . rw[show Nat.beq a i=true from by simpa using h];by_cases h2:b=j
   . rw[show Nat.beq b j=true from by simpa using h2];simp[h,h2]
   . rw[Vr h2];simp[h,h2]
 . rw[Vr h];simp[h]
theorem XX{l:List Nat}{i:Nat}:Xu l i=true↔i∈l:=by
  induction l with
  |nil=>simp[Xu]
  | cons a l b=>
    show(Bool.rec (Xu l i) true (Nat.beq a i):Bool)=true↔_;by_cases h:a=i
    . rw[show Nat.beq a i=true from by simpa using h];simp[h]
    . rw[Vr h];simp only[b,Ta];exact⟨.inr,λk=>k.resolve_left λe=>h e.symm⟩
theorem Zd{f:α->Bool}{l:List α}:allB f l=true↔∀a∈l,f a=true:=by
  induction l with
  |nil=>simp[allB]
  | cons a l i=>
    show(Bool.rec false (allB f l) (f a):Bool)=true↔_;cases h:f a with
    |false=>simp[h]
    |true=>simp[h,i]
theorem ZAW{c:CV}{k:CV->Option β}(h:kn c k=some r):c≠.unk/\k c=some r:=by
 cases c<;>first|(cases h;done)|exact⟨by simp,h⟩
end
def PS.st (s:PS)(d:Nat)(c:CV):PS:=⟨s.N,(d,c)::s.l,s.o,s.z,s.n,s.f,s.c,s.r⟩
def dN (v:Value):Nat:=match v with| .int .u64 n=>n.toNat|_=>0
def RwOk (H:Heaplet)(v:Value)(K:Own):RC->Prop
 | .own t E m=>RowOf H (RT t) 0 E (szY t) v m K
 | .pub t m=>IsSlice H (RT t) (szY t) v m
 | .mrk E m=>RowOfM H RU8 0 E 1 v m K
 | .dead=>True
 | .junk=>K= [(dN v,.deferred<|some [])]
theorem RwOk.mono{H a:Heaplet}{v:Value}{K:Own}:∀{c:RC},Hle H a->RwOk H v K c->RwOk a v K c
 | .own t E m,h,k=>RowOf.mono (RT.mono t) h k
 | .pub t m,h,k=>IsSlice.mono (RT.mono t) h k
 | .mrk E m,h,k=>RowOfM.mono RU8.mono h k
 | .dead,h,k=>trivial
 | .junk,h,k=>k
structure RS (x:Cx) (s:PS) (I:In) (seg:Nat->Own) (l:Slots) (own:List Own) (H:Heaplet):Prop where
  N:s.N=x.n
  H:I.H=H
  n:I.n=s.n
  q:I.q=s.c
  own:own=(List.range s.n).map seg
  sl:∀t c,ZK s.l t=some c->c=.unk\/∃v,lk l t=some v/\VR I c v
  ze:∀a m,ZK s.z a=some m->a<s.n/\∃cur T,seg a= [((I.ν a).1,.cells cur T (0,0))]/\cur.size=m
  ce:∀a o c,lkO s.o a o=some c->c=.unk\/(a<s.n/\∃cur T v,seg a= [((I.ν a).1,.cells cur T (0,0))]/\cur.toList[o]? =some v/\VR I c v)
  fx:∀c∈s.f,c<s.c/\I.κ c<MAX
  rw:∀k c,ZK s.r k=some c->c=.dead\/(k<s.n/\RwOk I.H (I.ν k).2 (seg k) c)
  rz:∀k c,ZK s.r k=some c->c=.dead\/ZK s.z k=none
  ro:∀k c o d,ZK s.r k=some c->lkO s.o k o=some d->c=.dead\/d=.unk
structure Ext (s t:PS):Prop where
  N:t.N=s.N
  l:∃m,t.l=m++s.l
  o:∃m,t.o=m++s.o
  z:∃m,t.z=m++s.z/\∀p∈m,s.n<=p.1
  n:s.n<=t.n
  f:∃m,t.f=m++s.f
  c:s.c<=t.c
  r:∃m,t.r=m++s.r
theorem Pf (s:PS):Ext s s:=⟨rfl,⟨[],rfl⟩,⟨[],rfl⟩,⟨[],rfl,by simp⟩,TF _,⟨[],rfl⟩,TF _,⟨[],rfl⟩⟩
theorem Ext.trans{s t u:PS}(h:Ext s t)(k:Ext t u):Ext s u:=by
 obtain⟨m,e1⟩:=h.l;obtain⟨b,e2⟩:=k.l;obtain⟨d,e⟩:=h.o;obtain⟨g,i⟩:=k.o;obtain⟨j,q,v⟩:=h.z;obtain⟨w,x,y⟩:=k.z;obtain⟨A,B⟩:=h.f;obtain⟨C,D⟩:=k.f;obtain⟨E,F⟩:=h.r;obtain⟨G,H⟩:=k.r;refine⟨k.N.trans h.N,⟨b++m,by rw[e2,e1,TE]⟩,⟨g++d,by rw[i,e,TE]⟩,⟨w++j,by rw[x,q,TE],λp a=> ?_⟩,TS h.n k.n,⟨C++A,by rw[D,B,TE]⟩,TS h.c k.c,⟨G++E,by rw[H,F,TE]⟩⟩;rcases TR.1 a with a|a
 . exact TS h.n<|y p a
 . exact v p a
theorem Ext.st (s:PS)(d:Nat)(c:CV):Ext s (s.st d c):=⟨rfl,⟨[(d,c)],rfl⟩,⟨[],rfl⟩,⟨[],rfl,by simp⟩,TF _,⟨[],rfl⟩,TF _,⟨[],rfl⟩⟩
section
variable{β:Type}{r:β}{x:Cx}{s:PS}{I:In}{seg:Nat->Own}{l:Slots}{own:List Own}{H:Heaplet}
theorem YZ{d:Nat}{c:CV}{k:PS->Option β}(h:s.put d c k=some r):Nat.blt d s.N=true/\k (s.st d c)=some r:=by
 unfold PS.put at h;rw[ZJC]at h;obtain⟨h1,h2⟩:=ZC h;exact⟨h1,h2⟩
theorem RS.put (h:RS x s I seg l own H){d:Nat}{c:CV}{v:Value}(a:VR I c v):RS x (s.st d c) I seg ((d,v)::l) own H:=by
 refine⟨h.N,h.H,h.n,h.q,h.own,λt c' e=> ?_,h.ze,h.ce,h.fx,h.rw,h.rz,h.ro⟩;have e:ZK ((d,c)::s.l) t=some c':=e;rw[ZH]at e;by_cases q:d=t
 . subst q;rw[TJ rfl]at e;cases e;exact .inr ⟨v,by simp[lk],a⟩
 . rw[TK q]at e;have hb:=Vr q;rcases h.sl t c' e with h1|⟨u,h1,h2⟩
   . exact .inl h1
   . exact .inr ⟨u,by simp[lk,hb,h1],h2⟩
theorem ZJW{v:Value}{c:CV}(h:vC v=some c):VR I c v:=by
  unfold vC at h;split at h
  . cases h;simp only[VR]
  . rename_i n;have h:(Bool.rec none (some (.w8 (UInt8.ofNat n.toNat))) (Bool.and (decide (0<=n)) (decide (n<256))):Option CV)=some c:=h;cases hb:(Bool.and (decide (0<=n)) (decide (n<256)))with
    |false=>rw[hb]at h;cases h
    | true=>
      rw[hb]at h;cases h;simp only[TD,SL]at hb;simp only[VR];congr 1;rw[Rp];omega
  . rename_i n;have h:(Bool.rec none (some (.w32 (UInt32.ofNat n.toNat))) (Bool.and (decide (0<=n)) (decide (n<4294967296))):Option CV)=some c:=h;cases hb:(Bool.and (decide (0<=n)) (decide (n<4294967296)))with
    |false=>rw[hb]at h;cases h
    | true=>
      rw[hb]at h;cases h;simp only[TD,SL]at hb;simp only[VR];congr 1;rw[UInt32.toNat_ofNat'];omega
  . rename_i n;have h:(Bool.rec none (some (.w64 (UInt64.ofNat n.toNat))) (Bool.and (decide (0<=n)) (decide (n<18446744073709551616))):Option CV)=some c:=h;cases hb:(Bool.and (decide (0<=n)) (decide (n<18446744073709551616)))with
    |false=>rw[hb]at h;cases h
    | true=>
      rw[hb]at h;cases h;simp only[TD,SL]at hb;simp only[VR];congr 1;rw[Rl];omega
  . cases h;simp only[VR]
  . cases h;simp only[VR];rfl
  . cases h;simp only[VR]
  . cases h;simp only[VR]
  . cases h;simp only[VR]
  . cases h;simp only[VR]
  . cases h
theorem ZCl:∀{l:List Value} {k:List CV->Option β},vCs l k=some r->∃m,VRs I m l/\k m=some r
  |[],k,h=>⟨[],VRs.nil,h⟩
  | v::l,k,h=>by
    obtain⟨c,e,h⟩:=Zb<|show oB (vC v) (λc=>vCs l λr=>k (c::r))=some r from h
    obtain⟨m,e2,h⟩:=ZCl h;exact⟨c::m,VRs.cons (ZJW e) e2,h⟩
theorem ZKw (hs:RS x s I seg l own H){c:CV}{v:Value}{k:CV->Option β}(a:VR I c v)(h:rsv s c k=some r):∃c',VR I c' v/\k c'=some r:=by
 unfold rsv at h;split at h
 . rename_i j;split at h
   . rename_i t m e;rcases hs.rw _ _ e with h1|⟨_,h1⟩
     . cases h1
     . simp only[VR]at a;obtain⟨_,rfl,_⟩:=a;exact⟨.sl t m,by simp only[VR];exact h1,h⟩
   . exact⟨_,a,h⟩
   . exact⟨_,a,h⟩
   . cases h
 . exact⟨_,a,h⟩
theorem ZIr (hs:RS x s I seg l own H):∀{cs:List CV} {vs:List Value} {k:List CV->Option β},VRs I cs vs->rsvD s cs k=some r->∃a,VRs I a vs/\k a=some r
  |[],vs,k,b,h=>⟨[],b,h⟩
  | c::cs,vs,k,b,h=>by
    obtain⟨v,us,rfl,h1,h2⟩:=b.un;obtain⟨c',e,h⟩:=ZKw hs h1<|show rsv s c (λc=>rsvD s cs λr=>k (c::r))=some r from h
    obtain⟨a,e2,h⟩:=ZIr hs h2 h;exact⟨c'::a,VRs.cons e e2,h⟩
theorem ZZ (hs:RS x s I seg l own H){o:Operand}{k:CV->Option β}(h:ev s o k=some r):∃c v,evo l o=some v/\VR I c v/\k c=some r:=by
 unfold ev at h;split at h
 . obtain⟨c,e,h⟩:=Zb h;obtain⟨h0,h⟩:=ZAW h;obtain⟨v,e1,e2⟩:=(hs.sl _ _ e).resolve_left h0;obtain⟨c',e3,h⟩:=ZKw hs e2 h;exact⟨c',v,e1,e3,h⟩
 . rename_i v;split at h
   . rename_i cs;obtain⟨m,e,h⟩:=ZCl (I:=I) h;exact⟨_,_,rfl,by simp only[VR];exact⟨_,rfl,e⟩,h⟩
   . obtain⟨c,e,h⟩:=Zb h;rw[ZJC]at h;exact⟨c,_,rfl,ZJW e,h⟩
 . exact⟨_,_,rfl,by simp only[VR],h⟩
 . cases h
theorem ZDR (hs:RS x s I seg l own H):∀{os:List Operand} {k:List CV->Option β},evL s os k=some r->∃cs vs,os.mapM (evo l)=some vs/\VRs I cs vs/\k cs=some r
  |[],k,h=>⟨[],[],rfl,VRs.nil,h⟩
  | o::os,k,h=>by
    obtain⟨c,v,e1,e2,h⟩:=ZZ hs<|show ev s o (λc=>evL s os λr=>k (c::r))=some r from h
    obtain⟨cs,vs,e3,e4,h⟩:=ZDR hs h;exact⟨c::cs,v::vs,by simp[SM,e1,e3],VRs.cons e2 e4,h⟩
theorem ZHc (hs:RS x s I seg l own H):∀{os:List (Nat×Operand)} {k:List (Nat×CV)->Option β},evP s os k=some r->∃(cs:List (Nat×CV)) (vs:List (Nat×Value)),os.mapM (λp=>(evo l p.2).map λu=>(p.1,u))=some vs/\cs.map (·.1)=vs.map (·.1)/\VRs I (cs.map (·.2)) (vs.map (·.2))/\k cs=some r
  |[],k,h=>⟨[],[],rfl,rfl,VRs.nil,h⟩
  | o::os,k,h=>by
    obtain⟨c,v,e1,e2,h⟩:=ZZ hs<|show ev s o.2 (λc=>evP s os λr=>k ((o.1,c)::r))=some r from h
    obtain⟨cs,vs,e3,e5,e4,h⟩:=ZHc hs h;exact⟨(o.1,c)::cs,(o.1,v)::vs,by simp[SM,e1,e3],by simp[e5],VRs.cons e2 e4,h⟩
end
section
variable{β:Type}{r:β}{x:Cx}{s:PS}{I:In}{seg:Nat->Own}{l:Slots}{own:List Own}{H:Heaplet}
variable{p q:Operand}{t u:TypeId}{ty:TypeId}{k:CV->Option β}
abbrev Yl (x:Cx)(I:In)(op:Op)(ty:TypeId)(l:Slots)(M:List Own->Heaplet->Prop)(k:CV->Option β)(r:β):Prop:=∃c v,(∀own H,M own H->Runs x op ty l own H v)/\VR I c v/\k c=some r
variable{M:List Own->Heaplet->Prop}
theorem Yl.of{op:Op}{c:CV}{v:Value}(a:∀own H,M own H->Runs x op ty l own H v)(b:VR I c v)(h:k c=some r):Yl x I op ty l M k r:=⟨c,v,a,b,h⟩
theorem ZQN{op:BinOp}{m n:Int}(h1:evo l p=some (.int .i64 m))(h2:evo l q=some (.int .i64 n))(h:bI op m n k=some r):Yl x I (.binOp op t p q u) ty l M k r:=by
 cases op with
 |add=>exact Yl.of (λ_ _ _=>BT h1 h2) (by simp only[VR]) h
 |sub=>exact Yl.of (λ_ _ _=>ZNt h1 h2) (by simp only[VR]) h
 |mul=>exact Yl.of (λ_ _ _=>ZNz h1 h2) (by simp only[VR]) h
 |quo=>exact Yl.of (λ_ _ _=>ZNw h1 h2 (ZI h).1) (by simp only[VR]) (ZI h).2
 |rem=>exact Yl.of (λ_ _ _=>ZRt h1 h2 (ZI h).1) (by simp only[VR]) (ZI h).2
 |and=>exact Yl.of (λ_ _ _=>ZSA h1 h2) (by simp only[VR]) h
 |or=>exact Yl.of (λ_ _ _=>ZTR h1 h2) (by simp only[VR]) h
 |xor=>exact Yl.of (λ_ _ _=>ZRl h1 h2) (by simp only[VR]) h
 |lss=>exact Yl.of (λ_ _ _=>ZKP h1 h2) (by simp only[VR]) h
 |leq=>exact Yl.of (λ_ _ _=>ZN1 h1 h2) (by simp only[VR]) h
 |gtr=>exact Yl.of (λ_ _ _=>ZN3 h1 h2) (by simp only[VR]) h
 |geq=>exact Yl.of (λ_ _ _=>ZN5 h1 h2) (by simp only[VR]) h
 |eql=>exact Yl.of (λ_ _ _=>ZN6 h1 h2) (by simp only[VR]) h
 |neq=>exact Yl.of (λ_ _ _=>ZNy h1 h2) (by simp only[VR]) h
 |shl=>exact Yl.of (λ_ _ _=>ZNv h1 h2 (ZI h).1) (by simp only[VR]) (ZI h).2
 |shr=>exact Yl.of (λ_ _ _=>ZNu h1 h2 (ZI h).1) (by simp only[VR]) (ZI h).2
 |_=>cases h
theorem b8_ok{op:BinOp}{m n:UInt8}(h1:evo l p=some (.int .u8 (m.toNat:Int)))(h2:evo l q=some (.int .u8 (n.toNat:Int)))(h:b8 op m n k=some r):Yl x I (.binOp op t p q u) ty l M k r:=by
 cases op with
 |add=>exact Yl.of (λ_ _ _=>ZTf h1 h2) (by simp only[VR]) h
 |sub=>exact Yl.of (λ_ _ _=>ZTJ h1 h2) (by simp only[VR]) h
 |mul=>exact Yl.of (λ_ _ _=>ZTV h1 h2) (by simp only[VR]) h
 |quo=>exact Yl.of (λ_ _ _=>ZTQ h1 h2 (ZI h).1) (by simp only[VR]) (ZI h).2
 |rem=>exact Yl.of (λ_ _ _=>ZTP h1 h2 (ZI h).1) (by simp only[VR]) (ZI h).2
 |and=>exact Yl.of (λ_ _ _=>ZTe h1 h2) (by simp only[VR]) h
 |or=>exact Yl.of (λ_ _ _=>R.or8 h1 h2) (by simp only[VR]) h
 |xor=>exact Yl.of (λ_ _ _=>ZQQ h1 h2) (by simp only[VR]) h
 |lss=>exact Yl.of (λ_ _ _=>ZTX h1 h2) (by simp only[VR]) h
 |leq=>exact Yl.of (λ_ _ _=>ZTY h1 h2) (by simp only[VR]) h
 |gtr=>exact Yl.of (λ_ _ _=>ZTb h1 h2) (by simp only[VR]) h
 |geq=>exact Yl.of (λ_ _ _=>ZTc h1 h2) (by simp only[VR]) h
 |eql=>exact Yl.of (λ_ _ _=>ZTd h1 h2) (by simp only[VR]) h
 |neq=>exact Yl.of (λ_ _ _=>ZTU h1 h2) (by simp only[VR]) h
 |_=>cases h
theorem ZTI{op:BinOp}{m n:UInt32}(h1:evo l p=some (.int .u32 (m.toNat:Int)))(h2:evo l q=some (.int .u32 (n.toNat:Int)))(h:b32 op m n k=some r):Yl x I (.binOp op t p q u) ty l M k r:=by
 cases op with
 |add=>exact Yl.of (λ_ _ _=>ZSC h1 h2) (by simp only[VR]) h
 |sub=>exact Yl.of (λ_ _ _=>ZRp h1 h2) (by simp only[VR]) h
 |mul=>exact Yl.of (λ_ _ _=>ZR1 h1 h2) (by simp only[VR]) h
 |quo=>exact Yl.of (λ_ _ _=>ZRx h1 h2 (ZI h).1) (by simp only[VR]) (ZI h).2
 |rem=>exact Yl.of (λ_ _ _=>ZRv h1 h2 (ZI h).1) (by simp only[VR]) (ZI h).2
 |and=>exact Yl.of (λ_ _ _=>ZSB h1 h2) (by simp only[VR]) h
 |or=>exact Yl.of (λ_ _ _=>ZTT h1 h2) (by simp only[VR]) h
 |xor=>exact Yl.of (λ_ _ _=>ZRn h1 h2) (by simp only[VR]) h
 |lss=>exact Yl.of (λ_ _ _=>ZR3 h1 h2) (by simp only[VR]) h
 |leq=>exact Yl.of (λ_ _ _=>ZKQ h1 h2) (by simp only[VR]) h
 |gtr=>exact Yl.of (λ_ _ _=>ZN4 h1 h2) (by simp only[VR]) h
 |geq=>exact Yl.of (λ_ _ _=>ZR7 h1 h2) (by simp only[VR]) h
 |eql=>exact Yl.of (λ_ _ _=>ZR9 h1 h2) (by simp only[VR]) h
 |neq=>exact Yl.of (λ_ _ _=>ZRz h1 h2) (by simp only[VR]) h
 |_=>cases h
theorem ZTH{op:BinOp}{m n:UInt64}(h1:evo l p=some (.int .u64 (m.toNat:Int)))(h2:evo l q=some (.int .u64 (n.toNat:Int)))(h:b64 op m n k=some r):Yl x I (.binOp op t p q u) ty l M k r:=by
 cases op with
 |add=>exact Yl.of (λ_ _ _=>ZDl h1 h2) (by simp only[VR]) h
 |sub=>exact Yl.of (λ_ _ _=>ZRo h1 h2) (by simp only[VR]) h
 |mul=>exact Yl.of (λ_ _ _=>ZAd h1 h2) (by simp only[VR]) h
 |quo=>exact Yl.of (λ_ _ _=>ZRw h1 h2 (ZI h).1) (by simp only[VR]) (ZI h).2
 |rem=>exact Yl.of (λ_ _ _=>ZRu h1 h2 (ZI h).1) (by simp only[VR]) (ZI h).2
 |and=>exact Yl.of (λ_ _ _=>ZGJ h1 h2) (by simp only[VR]) h
 |or=>exact Yl.of (λ_ _ _=>ZTS h1 h2) (by simp only[VR]) h
 |xor=>exact Yl.of (λ_ _ _=>ZRm h1 h2) (by simp only[VR]) h
 |lss=>exact Yl.of (λ_ _ _=>ZN0 h1 h2) (by simp only[VR]) h
 |leq=>exact Yl.of (λ_ _ _=>ZR4 h1 h2) (by simp only[VR]) h
 |gtr=>exact Yl.of (λ_ _ _=>ZDk h1 h2) (by simp only[VR]) h
 |geq=>exact Yl.of (λ_ _ _=>ZR6 h1 h2) (by simp only[VR]) h
 |eql=>exact Yl.of (λ_ _ _=>ZR8 h1 h2) (by simp only[VR]) h
 |neq=>exact Yl.of (λ_ _ _=>ZRy h1 h2) (by simp only[VR]) h
 |_=>cases h
theorem ZKI{op:BinOp}{a:CV}{v:Value}{n:Int}(h1:evo l p=some v)(b:VR I a v)(h2:evo l q=some (.int .i64 n))(h:ZQM op a n k=some r):Yl x I (.binOp op t p q u) ty l M k r:=by
 unfold ZQM at h;split at h
 . simp only[VR]at b;subst b;exact ZQN h1 h2 h
 . simp only[VR]at b;obtain⟨_,_,rfl⟩:=b;exact ZQN h1 h2 h
 . simp only[VR]at b;obtain⟨_,rfl⟩:=b;exact ZQN h1 h2 h
 . cases h
theorem ZHV{P:Program}{T:Nat}(h:isInt P T=true):∃k,P.underlying T=some (.int k):=by
 unfold isInt at h;split at h
 . rename_i k e;exact⟨k,e⟩
 . cases h
theorem ZJD{P:Program}{T:Nat}(h:eqOk P T=true):P.underlying T=some (.struct<|P.fieldsOf T)/\P.stoodInHeld T=false/\P.eqGuardType P.depth T=false:=by
 unfold eqOk at h;simp only[TD,Bool.not_eq_true']at h;obtain⟨h1,h2,h3⟩:=h;refine⟨?_,h2,h3⟩;split at h1
 . rename_i fs e;simp[Program.fieldsOf,e]
 . cases h1
theorem ZLk{α:Type}{a:Array α}{o n:Nat}:(a.extract o (o+n)).toList=(a.toList.drop o).take n:=by
 simp[Array.toList_extract,List.extract_eq_take_drop]
theorem ZDS{P:Program}{d:Nat}{ih:Nat->List CV->List CV->(Bool->Option β)->Option β}{xs ys:List CV}{vs us:List Value}(hx:VRs I xs vs)(hy:VRs I ys us)
    (hi:∀(T:Nat) (xs ys:List CV) (vs us:List Value) (k:Bool->Option β),VRs I xs vs->VRs I ys us->ih T xs ys k=some r->eqOk P T=true/\∃b,EqF P d vs.toArray us.toArray (P.fieldsOf T).toList b/\k b=some r):
    ∀{fs:List Field} {k:Bool->Option β},ZP2 P ih xs ys fs k=some r->∃b,EqF P (d+1) vs.toArray us.toArray fs b/\k b=some r
  |[],k,h=>⟨true,EqF.nil,h⟩
  | f ::fs,k,h=>by
    have h : bb (decide<|f.name ≠ "_") (match ZE P f.type with
      |some (true,n)=>bb (Bool.and (Nat.ble (f.offset+n) xs.length)<|Nat.ble (f.offset+n) ys.length) (ih f.type ((xs.drop f.offset).take n) ((ys.drop f.offset).take n) λe=>ZP2 P ih xs ys fs λr=>k<|and e r) none
      |some (false,_)=>oB xs[f.offset]? λx=>oB ys[f.offset]? λy=>bb (isInt P f.type) (eqC x y λe=>ZP2 P ih xs ys fs λr=>k<|and e r) none
      |none=>none) none=some r:=h
    obtain⟨hn,h⟩:=ZC h;have hn:=TO hn;split at h
    . rename_i n hsh;obtain⟨_,h⟩:=ZC h;obtain⟨ho,b,e1,h⟩:=hi _ _ _ _ _ _ (VRs.take n<|VRs.drop f.offset hx) (VRs.take n<|VRs.drop f.offset hy) h;obtain⟨o1,o2,o3⟩:=ZJD ho;obtain⟨b2,e2,h⟩:=ZDS hx hy hi h;refine⟨b&&b2,EqF.s hn hsh o1 o2 rfl ?_ ?_ e1 e2,h⟩
      . apply Sr.1;rw[ZLk]
      . apply Sr.1;rw[ZLk]
    . rename_i n hsh;obtain⟨a,ea,h⟩:=Zb h;obtain⟨b,eb,h⟩:=Zb h;obtain⟨hI,h⟩:=ZC h;obtain⟨kk,hu⟩:=ZHV hI;obtain⟨va,fa,ga⟩:=hx.get ea;obtain⟨vb,fb,gb⟩:=hy.get eb;unfold eqC at h;split at h
      . simp only[VR]at ga gb;subst ga;subst gb;obtain⟨b2,e2,h⟩:=ZDS hx hy hi h;exact⟨_,EqF.i hn hsh hu (by simpa using fa) (by simpa using fb) e2,h⟩
      . simp only[VR]at ga gb;subst ga;subst gb;obtain⟨b2,e2,h⟩:=ZDS hx hy hi h;exact⟨_,EqF.u8 hn hsh hu (by simpa using fa) (by simpa using fb) e2,h⟩
      . simp only[VR]at ga gb;subst ga;subst gb;obtain⟨b2,e2,h⟩:=ZDS hx hy hi h;exact⟨_,EqF.u32 hn hsh hu (by simpa using fa) (by simpa using fb) e2,h⟩
      . cases h
    . cases h
theorem ZP3{P:Program}:∀{n d T:Nat} {xs y:List CV} {vs us:List Value} {k:Bool->Option β},n<=d->VRs I xs vs->VRs I y us->eqA P n T xs y k=some r->eqOk P T=true/\∃b,EqF P d vs.toArray us.toArray (P.fieldsOf T).toList b/\k b=some r
  |0,d,T,xs,y,vs,us,k,e,a,c,h=>by cases h
  |n+1,0,T,xs,y,vs,us,k,e,a,c,h=>by omega
  | n+1,d+1,T,xs,y,vs,us,k,e,a,c,h=>by
    obtain⟨h1,h⟩:=ZC<|show bb (eqOk P T) (ZP2 P (eqA P n) xs y (P.fieldsOf T).toList k) none=some r from h
    exact⟨h1,ZDS a c (λT xs y vs us k e1 e2 e3=>ZP3 (by omega) e1 e2 e3) h⟩
end
end Go.Pv
namespace Go.Ow
open Go.RowKit
variable{x:Cx}{ops:Array Oper}{Q:Exit->Act->World->Prop}{rest:List Oper}{l:Slots}{own:List Own}{H HF:Heaplet}
structure Tab where
  shp:List (Nat×(Bool×Nat))
  fof:List (Nat×(Nat×Nat))
  zer:List (Nat×Value)
  plc:List (Nat×List (Nat×Nat))
def tl{β:Type}(i:Nat):List (Nat×β)->Option β
 |[]=>none
 |(k,v)::r=>bif Nat.beq k i then some v else tl i r
def tl2 (i j:Nat):List (Nat×(Nat×Nat))->Option Nat
 |[]=>none
 |(k,q,v)::r=>bif Nat.beq k i&&Nat.beq q j then some v else tl2 i j r
def Each{α:Type}(p:α->Prop):List α->Prop
 |[]=>True
 |a::r=>p a/\Each p r
structure Tab.Ok (tb:Tab) (P:Program):Prop where
  shp:Each (λe=>ZE P e.1=some e.2) tb.shp
  fof:Each (λe=>YG P e.1 e.2.1=some e.2.2) tb.fof
  zer:Each (λe=>YK P e.1=some e.2) tb.zer
  plc:Each (λe=>QW P e.1=some e.2) tb.plc
theorem ZIg{β:Type}{p:Nat->β->Prop}{i:Nat}{v:β}:∀{l:List (Nat×β)},Each (λe=>p e.1 e.2) l->tl i l=some v->p i v
  |[],_,h=>by cases h
  | (k,u)::r,h,e=>by
    simp only[tl]at e;cases hb:Nat.beq k i with
    |true=>rw[hb]at e;have:=TA hb;subst this;cases e;exact h.1
    |false=>rw[hb]at e;exact ZIg h.2 e
theorem ZMR{p:Nat->Nat->Nat->Prop}{i j v:Nat}:∀{l:List (Nat×(Nat×Nat))},Each (λe=>p e.1 e.2.1 e.2.2) l->tl2 i j l=some v->p i j v
  |[],_,h=>by cases h
  | (k,q,u)::r,h,e=>by
    simp only[tl2]at e;cases hb:Nat.beq k i with
    | true=>
      cases a:Nat.beq q j with
      |true=>rw[hb,a]at e;have:=TA hb;have:=TA a;subst_vars;cases e;exact h.1
      |false=>rw[hb,a]at e;exact ZMR h.2 e
    |false=>rw[hb]at e;exact ZMR h.2 e
def evs (l:Slots):List Operand->Option (List Value)
  |[]=>some []
  | o ::r=>match evo l o with
    | some v=>match evs l r with
      |some vs=>some (v::vs)
      |none=>none
    |none=>none
theorem ZJ9{l:Slots}:∀{os:List Operand} {vs:List Value},evs l os=some vs->os.mapM (evo l)=some vs
  |[],vs,h=>by simp[evs]at h;simp[h]
  | o ::r,vs,h=>by
    simp only[evs]at h;split at h
    . rename_i v a;split at h
      . rename_i us b;cases h;simp[SM,a,ZJ9 b]
      . cases h
    . cases h
def evp (l:Slots):List (Nat×Operand)->Option (List (Nat×Value))
  |[]=>some []
  | (k,o)::r=>match evo l o with
    | some v=>match evp l r with
      |some vs=>some ((k,v)::vs)
      |none=>none
    |none=>none
theorem ZP1{l:Slots}:∀{os:List (Nat×Operand)} {vs:List (Nat×Value)},evp l os=some vs->os.mapM (λp=>(evo l p.2).map λu=>(p.1,u))=some vs
  |[],vs,h=>by simp[evp]at h;simp[h]
  | (k,o)::r,vs,h=>by
    simp only[evp]at h;split at h
    . rename_i v a;split at h
      . rename_i us b;cases h;simp[SM,a,ZP1 b]
      . cases h
    . cases h
def spine{α β:Type}:List α->(List α->Option β)->Option β
 |[],k=>k []
 |a::r,k=>spine r λb=>k (a::b)
theorem J6{α β:Type}:∀(l:List α) (k:List α->Option β),spine l k=k l
 |[],_=>rfl
 |a::r,k=>by unfold spine;rw[J6 r]
def binI (op:BinOp)(m n:Int):Option Value:=match op with
 | .add=>some (.int .i64<|w64 (m+n))
 | .sub=>some (.int .i64<|w64 (m-n))
 | .mul=>some (.int .i64<|w64 (m*n))
 | .lss=>some (.bool<|decide (m<n))
 | .leq=>some (.bool<|decide (m<=n))
 | .gtr=>some (.bool<|decide (n<m))
 | .geq=>some (.bool<|decide (n<=m))
 | .eql=>some (.bool<|decide (m=n))
 | .neq=>some (.bool<|!decide (m=n))
 |_=>none
def vop (tb :Tab)(own:List Own)(l:Slots)(hs:List Nat):Op->Option (Value×List Nat×List Nat×List Nat)
  | .move o=>match evo l o with
    |some v=>some (v,hs,[],[])
    |none=>none
  | .assign o=>match evo l o with
    |some v=>some (v,hs,[],[])
    |none=>none
  | .nilCheck o=>match evo l o with
    |some (.pointer<|some a)=>some (.pointer<|some a,hs,[],[])
    |_=>none
  | .pick c a b=>match evo l c with
    | some (.bool true)=>match evo l a with
      |some v=>some (v,hs,[],[])
      |none=>none
    | some (.bool false)=>match evo l b with
      |some v=>some (v,hs,[],[])
      |none=>none
    |_=>none
  | .unOp .not _ o=>match evo l o with
    |some (.bool b)=>some (.bool (!b),hs,[],[])
    |_=>none
  | .extract o i=>match evo l o with
    | some (.tuple vs)=>match vs.toList[i]? with
      |some v=>some (v,hs,[],[])
      |none=>none
    |_=>none
  | .binOp op _ a b _=>match evo l a with
    | some (.int .i64 m)=>match evo l b with
      | some (.int .i64 n)=>match binI op m n with
        |some v=>some (v,hs,[],[])
        |none=>none
      |_=>none
    |_=>none
  | .fieldAddr S o k=>match evo l o with
    | some (.pointer<|some ⟨b,q,none⟩)=>match tl2 S k tb.fof with
      |some n=>some (.pointer<|some ⟨b,q+n,none⟩,hs,[],[])
      |none=>none
    |_=>none
  | .load T o=>match evo l o with
    | some (.pointer<|some ⟨b,q,none⟩)=>match hs with
      | i ::h=>match own[i]? with
        | some [(e,.cells cur t f)]=>match tl T tb.shp with
          | some (false,_)=>match cur.toList[q]? with
            |some v=>some (v,h,[b],[e])
            |none=>none
          | some (true,n)=>spine ((cur.toList.drop q).take n) λvs=>
            bif Nat.beq vs.length n then some (.agg vs.toArray,h,[b],[e])else none
          |none=>none
        |_=>none
      |[]=>none
    |_=>none
  | .makeFunc fn fs cs=>match evs l fs.toList with
    | some vf=>match evs l cs.toList with
      |some vc=>some (.func fn vf.toArray vc.toArray,hs,[],[])
      |none=>none
    |none=>none
  | .build T d=>match evp l d.toList with
    | some vs=>match tl T tb.zer with
      | some z=>match tl T tb.plc with
        |some p=>bif vs.all (fitsP p z.cells.toList.length)then spine (setP p z.cells.toList vs) λcs=>some (.agg cs.toArray,hs,[],[])else none
        |none=>none
      |none=>none
    |none=>none
  |_=>none
theorem ZKi{tb:Tab}{own:List Own}{l:Slots}{hs:List Nat}{op:Op}{r:Value×List Nat×List Nat×List Nat}(h:vop tb own l hs op=some r):noDefer op=true:=by
 cases op<;>first|rfl|(simp[vop]at h)
theorem ZPD {x:Cx}{tb:Tab}(ht:tb.Ok x.P){own:List Own}{l:Slots}{H:Heaplet}{hs e e1 e2:List Nat}{op:Op}{ty:TypeId}{v:Value}
    (h:vop tb own l hs op=some (v,e,e1,e2))(i:e1=e2):Runs x op ty l own H v:=by
  unfold vop at h;split at h
  . split at h<;>first|cases h|skip
    rename_i d;exact Yd d
  . split at h<;>first|cases h|skip
    rename_i d;exact Uz d
  . split at h<;>first|cases h|skip
    rename_i d;exact Ux d
  . split at h
    . rename_i f;split at h<;>first|cases h|skip
      rename_i d;exact ZKO f d
    . rename_i f;split at h<;>first|cases h|skip
      rename_i d;exact ZNx f d
    . cases h
  . split at h<;>first|cases h|skip
    rename_i d;exact ZQR d
  . split at h
    . rename_i d;split at h<;>first|cases h|skip
      rename_i hi;exact R.extract d<|by simpa using hi
    . cases h
  . split at h
    . rename_i h1;split at h
      . rename_i h2;split at h
        . rename_i h3;cases h;unfold binI at h3;split at h3<;>first|(cases h3;done)|skip
          . cases h3;exact BT h1 h2
          . cases h3;exact ZNt h1 h2
          . cases h3;exact ZNz h1 h2
          . cases h3;exact ZKP h1 h2
          . cases h3;exact ZN1 h1 h2
          . cases h3;exact ZN3 h1 h2
          . cases h3;exact ZN5 h1 h2
          . cases h3;exact ZN6 h1 h2
          . cases h3;exact ZNy h1 h2
        . cases h
      . cases h
    . cases h
  . split at h
    . rename_i h1;split at h
      . rename_i h2;cases h;exact ZMC (ZMR (p:=λa b c=>YG x.P a b=some c) ht.fof h2) h1
      . cases h
    . cases h
  . split at h
    . rename_i h1;split at h
      . split at h
        . rename_i h2;split at h
          . rename_i h3;split at h
            . rename_i j;cases h;have hb:=Tv i;rw[<-hb.1]at h2;exact Jc _ (ZIg (p:=λa b=>ZE x.P a=some b) ht.shp h3) h1 h2 j
            . cases h
          . rename_i h3;rw[J6]at h;cases hb:Nat.beq (List.length<|List.take _<|List.drop _ _) _ with
            | true=>
              rw[hb]at h;cases h;have g:=Tv i;rw[<-g.1]at h2;exact ZKR _ (ZIg (p:=λa b=>ZE x.P a=some b) ht.shp h3) h1 h2 rfl (TA hb)
            |false=>rw[hb]at h;cases h
          . cases h
        . cases h
      . cases h
    . cases h
  . split at h
    . rename_i h1;split at h
      . rename_i h2;cases h;exact ZNE (ZJ9 h1)<|ZJ9 h2
      . cases h
    . cases h
  . split at h
    . rename_i h1;split at h
      . rename_i h2;split at h
        . rename_i h3;cases hb:List.all _ (fitsP _ _)with
          | true=>
            rw[hb]at h;rw[RG,J6]at h;cases h;exact ZKa (ZIg (p:=λa b=>YK x.P a=some b) ht.zer h2) (ZIg (p:=λa b=>QW x.P a=some b) ht.plc h3) (ZP1 h1) hb rfl
          |false=>rw[hb]at h;cases h
        . cases h
      . cases h
    . cases h
  . cases h
inductive Cf where
  |c (c:Code)
  |l (ops:Array Oper) (rest:List Oper)
  |n (e:Exit)
inductive KK where
  |s (d:Code)
  |b (id:Nat)
  |k (K:Act->World->Prop)
@[reducible] def den (x:Cx):List KK->(Exit->Act->World->Prop)->(Exit->Act->World->Prop)
  |[],Q=>Q
  | .s d::ks,Q=>Exit.then (d.wpIn (Fw x.r) 0 x.P<|den x ks Q) (den x ks Q)
  | .b id::ks,Q=>Exit.inBlock id (den x ks Q)
  | .k K::ks,Q=>Exit.then K<|den x ks Q
structure RS where
  cf:Cf
  ks:List KK
  l:Slots
  o:List Own
  hs:List Nat
  e1:List Nat
  e2:List Nat
def Goal (x:Cx)(Q:Exit->Act->World->Prop)(H:Heaplet)(s:RS):Prop:=match s.cf with
 | .c c=>JC x c (den x s.ks Q) s.l s.o H
 | .l ops rest=>JL x ops (den x s.ks Q) rest s.l s.o H
 | .n e=>JN x (den x s.ks Q e) s.l s.o H
def setK{β:Type}:List Own->Nat->Own->(List Own->Option β)->Option β
 |[],_,_,_=>none
 |_::r,0,s,k=>k (s::r)
 |a::r,i+1,s,k=>setK r i s λb=>k (a::b)
theorem ZNS{β:Type}:∀{own:List Own} {i:Nat} {s:Own} {k:List Own->Option β} {r:β},setK own i s k=some r->k (own.set i s)=some r
 |[],_,_,_,_,h=>by cases h
 |_::_,0,_,_,_,h=>h
 |a::r,i+1,s,k,_,h=>ZNS (own:=r) (i:=i) (k:=λb=>k (a::b)) h
def mstep (tb : Tab)(N:Nat):RS->Option RS
  |⟨.c .skip,ks,l,o,hs,e1,e2⟩=>some ⟨.n .normal,ks,l,o,hs,e1,e2⟩
  |⟨.c .ret,ks,l,o,hs,e1,e2⟩=>some ⟨.n .ret,ks,l,o,hs,e1,e2⟩
  |⟨.c<|.exit id,ks,l,o,hs,e1,e2⟩=>some ⟨.n<|.exit id,ks,l,o,hs,e1,e2⟩
  |⟨.c<|.seq c d,ks,l,o,hs,e1,e2⟩=>some ⟨.c c,.s d::ks,l,o,hs,e1,e2⟩
  |⟨.c<|.block id c,ks,l,o,hs,e1,e2⟩=>some ⟨.c c,.b id::ks,l,o,hs,e1,e2⟩
  |⟨.c<|.region _ ops false,ks,l,o,hs,e1,e2⟩=>some ⟨.l ops ops.toList,ks,l,o,hs,e1,e2⟩
  | ⟨.c<|.cond c a b,ks,l,o,hs,e1,e2⟩=>match evo l c with
    |some (.bool true)=>some ⟨.c a,ks,l,o,hs,e1,e2⟩
    |some (.bool false)=>some ⟨.c b,ks,l,o,hs,e1,e2⟩
    |_=>none
  |⟨.n .normal,.s d::ks,l,o,hs,e1,e2⟩=>some ⟨.c d,ks,l,o,hs,e1,e2⟩
  |⟨.n .normal,.b _::ks,l,o,hs,e1,e2⟩=>some ⟨.n .normal,ks,l,o,hs,e1,e2⟩
  |⟨.n .ret,.s _::ks,l,o,hs,e1,e2⟩=>some ⟨.n .ret,ks,l,o,hs,e1,e2⟩
  |⟨.n .ret,.b _::ks,l,o,hs,e1,e2⟩=>some ⟨.n .ret,ks,l,o,hs,e1,e2⟩
  |⟨.n<|.exit id,.s _::ks,l,o,hs,e1,e2⟩=>some ⟨.n<|.exit id,ks,l,o,hs,e1,e2⟩
  |⟨.n .ret,.k _::ks,l,o,hs,e1,e2⟩=>some ⟨.n .ret,ks,l,o,hs,e1,e2⟩
  |⟨.n<|.exit id,.k _::ks,l,o,hs,e1,e2⟩=>some ⟨.n<|.exit id,ks,l,o,hs,e1,e2⟩
  |⟨.n<|.exit f,.b id::ks,l,o,hs,e1,e2⟩=>bif Nat.beq f id then some ⟨.n .normal,ks,l,o,hs,e1,e2⟩else some ⟨.n<|.exit f,ks,l,o,hs,e1,e2⟩
  |⟨.l ops [],ks,l,o,hs,e1,e2⟩=>some ⟨.n .normal,ks,l,o,hs,e1,e2⟩
  | ⟨.l ops (⟨some d,op,ty,pos,aft,none⟩::rest),ks,l,o,hs,e1,e2⟩=>match vop tb o l hs op with
    |some (v,h,m,r)=>bif Nat.blt d N then some ⟨.l ops rest,ks,(d,v)::l,o,h,m++e1,r++e2⟩else none
    |none=>none
  | ⟨.l ops (⟨none,.store T p q,ty,pos,aft,none⟩::rest),ks,l,o,hs,e1,e2⟩=>match evo l p with
    | some (.pointer<|some ⟨b,k,none⟩)=>match evo l q with
      | some v=>match hs with
        | i ::h=>match o[i]? with
          | some [(g,.cells cur t (0,0))]=>match tl T tb.shp with
            | some (_,n)=>bif Nat.beq v.cells.toList.length n&&(v.cells.toList.all (·.oneCell')&&Nat.ble (k+n) cur.toList.length)then
                spine (cur.toList.take k++v.cells.toList++cur.toList.drop (k+n)) λcs=>setK o i [(g,.cells cs.toArray t (0,0))] λo'=>some ⟨.l ops rest,ks,l,o',h,b::e1,g::e2⟩
              else none
            |none=>none
          |_=>none
        |[]=>none
      |none=>none
    |_=>none
  | ⟨.l ops (⟨e,op,ty,pos,aft,some (j,b)⟩::rest),ks,l,o,hs,e1,e2⟩=>match ops.toList[j]? with
    | some u=>match u.dst with
      | some t=>match lk l t with
        | some (.bool true)=>bif b then some ⟨.l ops (⟨e,op,ty,pos,aft,none⟩::rest),ks,l,o,hs,e1,e2⟩else match e with
          |some d=>bif Nat.blt d N then some ⟨.l ops rest,ks,(d,undef)::l,o,hs,e1,e2⟩else none
          |none=>none
        | some (.bool false)=>bif b then(match e with
          |some d=>bif Nat.blt d N then some ⟨.l ops rest,ks,(d,undef)::l,o,hs,e1,e2⟩else none
          |none=>none)else some ⟨.l ops (⟨e,op,ty,pos,aft,none⟩::rest),ks,l,o,hs,e1,e2⟩
        | some (.tuple ⟨[]⟩)=>match e with
          |some d=>bif Nat.blt d N then some ⟨.l ops rest,ks,(d,undef)::l,o,hs,e1,e2⟩else none
          |none=>none
        |_=>none
      |none=>none
    |none=>none
  |_=>none
theorem ZJU{tb:Tab}{own:List Own}{l:Slots}{hs a e1 e2:List Nat}{op:Op}{v:Value}(h:vop tb own l hs op=some (v,a,e1,e2)):e1.length=e2.length:=by
  cases op with
  | load T o=>
    simp only[vop]at h
    repeat' (first|(split at h)|(cases h;done))
    all_goals first|(cases h;rfl)|(cases h;done)|skip
    rw[J6]at h;cases hb:Nat.beq (List.length<|List.take _<|List.drop _ _) _<;>rw[hb]at h<;>cases h;rfl
  | build T ps=>
    simp only[vop]at h
    repeat' (first|(split at h)|(cases h;done))
    all_goals first|(cases h;done)|skip
    cases hb:List.all _ (fitsP _ _)with
    |true=>rw[hb]at h;rw[RG,J6]at h;cases h;rfl
    |false=>rw[hb]at h;cases h
  | unOp q t p=>
    cases q<;>simp only[vop]at h
    all_goals first
      |(cases h;done)
      | (split at h
         . cases h;rfl
         . cases h)
  | _=>
    simp only[vop]at h
    repeat' (first|(split at h)|(cases h;done))
    all_goals first|(cases h;rfl)|(cases h;done)
theorem ZPb {x:Cx}{tb:Tab}(ht:tb.Ok x.P){Q:Exit->Act->World->Prop}{H:Heaplet}{s s':RS}(h:mstep tb x.n s=some s')(c:s'.e1=s'.e2):
    s.e1=s.e2/\(Goal x Q H s'->Goal x Q H s):=by
  unfold mstep at h;split at h
  . cases h;exact⟨c,JC.skip⟩
  . cases h;exact⟨c,BX⟩
  . cases h;exact⟨c,ZAf⟩
  . cases h;exact⟨c,Y0⟩
  . cases h;exact⟨c,JC.block⟩
  . cases h;exact⟨c,Zj⟩
  . split at h
    . rename_i i;cases h;exact⟨c,ZH7 i⟩
    . rename_i i;cases h;exact⟨c,ZDp i⟩
    . cases h
  . cases h;exact⟨c,Z9⟩
  . cases h;exact⟨c,KH⟩
  . cases h;exact⟨c,Wa⟩
  . cases h;exact⟨c,ZKb⟩
  . cases h;exact⟨c,U0⟩
  . cases h;exact⟨c,Wa⟩
  . cases h;exact⟨c,U0⟩
  . rename_i j id ks l o hs e1 e2;cases hb:Nat.beq j id with
    |true=>rw[hb]at h;cases h;have:=TA hb;subst this;exact⟨c,Kb⟩
    |false=>rw[hb]at h;cases h;exact⟨c,BU hb⟩
  . cases h;exact⟨c,JL.nil⟩
  . split at h
    . rename_i k;cases hb:Nat.blt _ x.n with
      | true=>
        rw[hb]at h;cases h;have q:=ZJU k;obtain⟨h1,h2⟩:=List.append_inj c q;exact⟨h2,λg=>ZA hb (ZKi k) (ZPD ht k h1) g⟩
      |false=>rw[hb]at h;cases h
    . cases h
  . split at h
    . rename_i h1;split at h
      . rename_i h2;split at h
        . split at h
          . rename_i h3;split at h
            . rename_i r;cases hb:(Nat.beq _ _&&(List.all _ (λz:Value=>z.oneCell')&&Nat.ble _ _))with
              | true=>
                rw[hb,RG,J6]at h;have t:=ZNS h;cases t;obtain⟨m,u⟩:=Tv c;rw[<-m]at h3;rw[TD,TD]at hb;refine⟨u,λg=>ZAL _ (ZIg (p:=λa b=>ZE x.P a=some b) ht.shp r) h1 h2 h3 (by simpa using TA hb.1) hb.2.1 (by simpa using TI hb.2.2) ?_⟩;rw[m];exact g
              |false=>rw[hb]at h;cases h
            . cases h
          . cases h
        . cases h
      . cases h
    . cases h
  . split at h
    . rename_i e;split at h
      . rename_i f;split at h
        . rename_i d;rename_i b _ _ _ _ _ _ _ _ _ _ _ _;cases b with
          |true=>cases h;exact⟨c,ZGK (by simpa using e) f d⟩
          | false=>
            rw[cond_false]at h;split at h<;>first|(cases h;done)|skip
            cases hb:Nat.blt _ x.n with
            |true=>rw[hb]at h;cases h;exact⟨c,ZNI (by simpa using e) f d rfl hb⟩
            |false=>rw[hb]at h;cases h
        . rename_i d;rename_i b _ _ _ _ _ _ _ _ _ _ _ _;cases b with
          |false=>cases h;exact⟨c,ZGK (by simpa using e) f d⟩
          | true=>
            rw[RG]at h;split at h<;>first|(cases h;done)|skip
            cases hb:Nat.blt _ x.n with
            |true=>rw[hb]at h;cases h;exact⟨c,ZNI (by simpa using e) f d rfl hb⟩
            |false=>rw[hb]at h;cases h
        . rename_i d;split at h<;>first|(cases h;done)|skip
          cases hb:Nat.blt _ x.n with
          |true=>rw[hb]at h;cases h;exact⟨c,ZN8 (by simpa using e) f d hb⟩
          |false=>rw[hb]at h;cases h
        . cases h
      . cases h
    . cases h
  . cases h
def mrun (tb:Tab)(N:Nat):Nat->RS->Option RS
  |0,s=>some s
  | k+1,s=>match mstep tb N s with
    |some s'=>mrun tb N k s'
    |none=>none
theorem Ze{x:Cx}{tb:Tab}(ht:tb.Ok x.P){Q:Exit->Act->World->Prop}{H:Heaplet}:∀{k:Nat} {s s':RS},mrun tb x.n k s=some s'->s'.e1=s'.e2->
    s.e1=s.e2/\(Goal x Q H s'->Goal x Q H s)
  |0,s,s',h,a=>by cases h;exact⟨a,id⟩
  | k +1,s,s',h,a=>by
    simp only[mrun]at h;split at h
    . rename_i h1;obtain⟨e1,b⟩:=Ze ht (k:=k) h a;obtain⟨e2,c⟩:=ZPb ht (H:=H) (Q:=Q) h1 e1;exact⟨e2,λg=>c<|b g⟩
    . cases h
section runs
variable{x:Cx}{tb:Tab}{Q:Exit->Act->World->Prop}{l l':Slots}{own own':List Own}{H:Heaplet}{ks':List KK}{E:List Nat}{c c':Code}{ops ops':Array Oper}{rest rest':List Oper}{e e':Exit}
variable{d0 d1 d2:Code}{i0 i1 i2:Nat}{k0 k1 k2:Act->World->Prop}
theorem PA (hs:List Nat)(k:Nat)(ht:tb.Ok x.P)(h:mrun tb x.n k ⟨.c c,[],l,own,hs,[],[]⟩=some ⟨.c c',ks',l',own',[],E,E⟩)(g:JC x c' (den x ks' Q) l' own' H):JC x c Q l own H:=(Ze (Q:=Q) ht h rfl).2 g
theorem Px (hs:List Nat)(k:Nat)(ht:tb.Ok x.P)(h:mrun tb x.n k ⟨.c c,[],l,own,hs,[],[]⟩=some ⟨.c c',[],l',own',[],E,E⟩)(g:JC x c' Q l' own' H):JC x c Q l own H:=(Ze (Q:=Q) ht h rfl).2 g
theorem Run.cl (hs:List Nat)(k:Nat)(ht:tb.Ok x.P)(h:mrun tb x.n k ⟨.c c,[],l,own,hs,[],[]⟩=some ⟨.l ops' rest',ks',l',own',[],E,E⟩)(g:JL x ops' (den x ks' Q) rest' l' own' H):JC x c Q l own H:=(Ze (Q:=Q) ht h rfl).2 g
theorem Pd (hs:List Nat)(k:Nat)(ht:tb.Ok x.P)(h:mrun tb x.n k ⟨.c c,[],l,own,hs,[],[]⟩=some ⟨.l ops' rest',[],l',own',[],E,E⟩)(g:JL x ops' Q rest' l' own' H):JC x c Q l own H:=(Ze (Q:=Q) ht h rfl).2 g
theorem Run.cnz (hs:List Nat)(k:Nat)(ht:tb.Ok x.P)(h:mrun tb x.n k ⟨.c c,[],l,own,hs,[],[]⟩=some ⟨.n e',[],l',own',[],E,E⟩)(g:JN x (Q e') l' own' H):JC x c Q l own H:=(Ze (Q:=Q) ht h rfl).2 g
theorem PC (hs:List Nat)(k:Nat)(ht:tb.Ok x.P)(h:mrun tb x.n k ⟨.l ops rest,[],l,own,hs,[],[]⟩=some ⟨.l ops' rest',[],l',own',[],E,E⟩)(g:JL x ops' Q rest' l' own' H):JL x ops Q rest l own H:=(Ze (Q:=Q) ht h rfl).2 g
theorem R6 (hs:List Nat)(k:Nat)(ht:tb.Ok x.P)(h:mrun tb x.n k ⟨.l ops rest,[],l,own,hs,[],[]⟩=some ⟨.n e',[],l',own',[],E,E⟩)(g:JN x (Q e') l' own' H):JL x ops Q rest l own H:=(Ze (Q:=Q) ht h rfl).2 g
theorem PX (hs:List Nat)(k:Nat)(ht:tb.Ok x.P)(h:mrun tb x.n k ⟨.c c,[.s d0],l,own,hs,[],[]⟩=some ⟨.c c',ks',l',own',[],E,E⟩)(g:JC x c' (den x ks' Q) l' own' H):JC x c (Exit.then (d0.wpIn (Fw x.r) 0 x.P Q) Q) l own H:=(Ze (Q:=Q) ht h rfl).2 g
theorem R5 (hs:List Nat)(k:Nat)(ht:tb.Ok x.P)(h:mrun tb x.n k ⟨.c c,[.s d0],l,own,hs,[],[]⟩=some ⟨.l ops' rest',ks',l',own',[],E,E⟩)(g:JL x ops' (den x ks' Q) rest' l' own' H):JC x c (Exit.then (d0.wpIn (Fw x.r) 0 x.P Q) Q) l own H:=(Ze (Q:=Q) ht h rfl).2 g
theorem OP (hs:List Nat)(k:Nat)(ht:tb.Ok x.P)(h:mrun tb x.n k ⟨.c c,[.s d0],l,own,hs,[],[]⟩=some ⟨.l ops' rest',[],l',own',[],E,E⟩)(g:JL x ops' Q rest' l' own' H):JC x c (Exit.then (d0.wpIn (Fw x.r) 0 x.P Q) Q) l own H:=(Ze (Q:=Q) ht h rfl).2 g
theorem P8 (hs:List Nat)(k:Nat)(ht:tb.Ok x.P)(h:mrun tb x.n k ⟨.c c,[.s d0],l,own,hs,[],[]⟩=some ⟨.n e',[],l',own',[],E,E⟩)(g:JN x (Q e') l' own' H):JC x c (Exit.then (d0.wpIn (Fw x.r) 0 x.P Q) Q) l own H:=(Ze (Q:=Q) ht h rfl).2 g
theorem PE (hs:List Nat)(k:Nat)(ht:tb.Ok x.P)(h:mrun tb x.n k ⟨.l ops rest,[.s d0],l,own,hs,[],[]⟩=some ⟨.c c',ks',l',own',[],E,E⟩)(g:JC x c' (den x ks' Q) l' own' H):JL x ops (Exit.then (d0.wpIn (Fw x.r) 0 x.P Q) Q) rest l own H:=(Ze (Q:=Q) ht h rfl).2 g
theorem R0 (hs:List Nat)(k:Nat)(ht:tb.Ok x.P)(h:mrun tb x.n k ⟨.l ops rest,[.s d0],l,own,hs,[],[]⟩=some ⟨.c c',[],l',own',[],E,E⟩)(g:JC x c' Q l' own' H):JL x ops (Exit.then (d0.wpIn (Fw x.r) 0 x.P Q) Q) rest l own H:=(Ze (Q:=Q) ht h rfl).2 g
theorem R1 (hs:List Nat)(k:Nat)(ht:tb.Ok x.P)(h:mrun tb x.n k ⟨.l ops rest,[.s d0],l,own,hs,[],[]⟩=some ⟨.l ops' rest',ks',l',own',[],E,E⟩)(g:JL x ops' (den x ks' Q) rest' l' own' H):JL x ops (Exit.then (d0.wpIn (Fw x.r) 0 x.P Q) Q) rest l own H:=(Ze (Q:=Q) ht h rfl).2 g
theorem PG (hs:List Nat)(k:Nat)(ht:tb.Ok x.P)(h:mrun tb x.n k ⟨.l ops rest,[.s d0],l,own,hs,[],[]⟩=some ⟨.l ops' rest',[],l',own',[],E,E⟩)(g:JL x ops' Q rest' l' own' H):JL x ops (Exit.then (d0.wpIn (Fw x.r) 0 x.P Q) Q) rest l own H:=(Ze (Q:=Q) ht h rfl).2 g
theorem PD (hs:List Nat)(k:Nat)(ht:tb.Ok x.P)(h:mrun tb x.n k ⟨.l ops rest,[.s d0],l,own,hs,[],[]⟩=some ⟨.n e',[],l',own',[],E,E⟩)(g:JN x (Q e') l' own' H):JL x ops (Exit.then (d0.wpIn (Fw x.r) 0 x.P Q) Q) rest l own H:=(Ze (Q:=Q) ht h rfl).2 g
theorem OD (hs:List Nat)(k:Nat)(ht:tb.Ok x.P)(h:mrun tb x.n k ⟨.n e,[.s d0],l,own,hs,[],[]⟩=some ⟨.c c',ks',l',own',[],E,E⟩)(g:JC x c' (den x ks' Q) l' own' H):JN x ((Exit.then (d0.wpIn (Fw x.r) 0 x.P Q) Q) e) l own H:=(Ze (Q:=Q) ht h rfl).2 g
theorem PB (hs:List Nat)(k:Nat)(ht:tb.Ok x.P)(h:mrun tb x.n k ⟨.n e,[.s d0],l,own,hs,[],[]⟩=some ⟨.l ops' rest',ks',l',own',[],E,E⟩)(g:JL x ops' (den x ks' Q) rest' l' own' H):JN x ((Exit.then (d0.wpIn (Fw x.r) 0 x.P Q) Q) e) l own H:=(Ze (Q:=Q) ht h rfl).2 g
theorem OQ (hs:List Nat)(k:Nat)(ht:tb.Ok x.P)(h:mrun tb x.n k ⟨.n e,[.s d0],l,own,hs,[],[]⟩=some ⟨.l ops' rest',[],l',own',[],E,E⟩)(g:JL x ops' Q rest' l' own' H):JN x ((Exit.then (d0.wpIn (Fw x.r) 0 x.P Q) Q) e) l own H:=(Ze (Q:=Q) ht h rfl).2 g
theorem PK (hs:List Nat)(k:Nat)(ht:tb.Ok x.P)(h:mrun tb x.n k ⟨.n e,[.s d0],l,own,hs,[],[]⟩=some ⟨.n e',[],l',own',[],E,E⟩)(g:JN x (Q e') l' own' H):JN x ((Exit.then (d0.wpIn (Fw x.r) 0 x.P Q) Q) e) l own H:=(Ze (Q:=Q) ht h rfl).2 g
theorem R8 (hs:List Nat)(k:Nat)(ht:tb.Ok x.P)(h:mrun tb x.n k ⟨.c c,[.k k0],l,own,hs,[],[]⟩=some ⟨.n e',[],l',own',[],E,E⟩)(g:JN x (Q e') l' own' H):JC x c (Exit.then k0 Q) l own H:=(Ze (Q:=Q) ht h rfl).2 g
theorem OJ (hs:List Nat)(k:Nat)(ht:tb.Ok x.P)(h:mrun tb x.n k ⟨.c c,[.k k0,.b i1],l,own,hs,[],[]⟩=some ⟨.n e',[],l',own',[],E,E⟩)(g:JN x (Q e') l' own' H):JC x c (Exit.then k0<|Exit.inBlock i1 Q) l own H:=(Ze (Q:=Q) ht h rfl).2 g
theorem R3 (hs:List Nat)(k:Nat)(ht:tb.Ok x.P)(h:mrun tb x.n k ⟨.n e,[.k k0,.b i1],l,own,hs,[],[]⟩=some ⟨.n e',[],l',own',[],E,E⟩)(g:JN x (Q e') l' own' H):JN x ((Exit.then k0<|Exit.inBlock i1 Q) e) l own H:=(Ze (Q:=Q) ht h rfl).2 g
theorem PI (hs:List Nat)(k:Nat)(ht:tb.Ok x.P)(h:mrun tb x.n k ⟨.l ops rest,[.s d0,.k k1],l,own,hs,[],[]⟩=some ⟨.n e',[],l',own',[],E,E⟩)(g:JN x (Q e') l' own' H):JL x ops (Exit.then (d0.wpIn (Fw x.r) 0 x.P<|Exit.then k1 Q)<|Exit.then k1 Q) rest l own H:=(Ze (Q:=Q) ht h rfl).2 g
theorem OK (hs:List Nat)(k:Nat)(ht:tb.Ok x.P)(h:mrun tb x.n k ⟨.n e,[.s d0,.k k1],l,own,hs,[],[]⟩=some ⟨.n e',[],l',own',[],E,E⟩)(g:JN x (Q e') l' own' H):JN x ((Exit.then (d0.wpIn (Fw x.r) 0 x.P<|Exit.then k1 Q)<|Exit.then k1 Q) e) l own H:=(Ze (Q:=Q) ht h rfl).2 g
theorem OR (hs:List Nat)(k:Nat)(ht:tb.Ok x.P)(h:mrun tb x.n k ⟨.c c,[.b i0,.s d1],l,own,hs,[],[]⟩=some ⟨.l ops' rest',ks',l',own',[],E,E⟩)(g:JL x ops' (den x ks' Q) rest' l' own' H):JC x c (Exit.inBlock i0<|Exit.then (d1.wpIn (Fw x.r) 0 x.P Q) Q) l own H:=(Ze (Q:=Q) ht h rfl).2 g
theorem P2 (hs:List Nat)(k:Nat)(ht:tb.Ok x.P)(h:mrun tb x.n k ⟨.c c,[.b i0,.s d1],l,own,hs,[],[]⟩=some ⟨.l ops' rest',[],l',own',[],E,E⟩)(g:JL x ops' Q rest' l' own' H):JC x c (Exit.inBlock i0<|Exit.then (d1.wpIn (Fw x.r) 0 x.P Q) Q) l own H:=(Ze (Q:=Q) ht h rfl).2 g
theorem R9 (hs:List Nat)(k:Nat)(ht:tb.Ok x.P)(h:mrun tb x.n k ⟨.l ops rest,[.b i0,.s d1],l,own,hs,[],[]⟩=some ⟨.l ops' rest',[],l',own',[],E,E⟩)(g:JL x ops' Q rest' l' own' H):JL x ops (Exit.inBlock i0<|Exit.then (d1.wpIn (Fw x.r) 0 x.P Q) Q) rest l own H:=(Ze (Q:=Q) ht h rfl).2 g
theorem Po (hs:List Nat)(k:Nat)(ht:tb.Ok x.P)(h:mrun tb x.n k ⟨.n e,[.b i0,.s d1],l,own,hs,[],[]⟩=some ⟨.l ops' rest',[],l',own',[],E,E⟩)(g:JL x ops' Q rest' l' own' H):JN x ((Exit.inBlock i0<|Exit.then (d1.wpIn (Fw x.r) 0 x.P Q) Q) e) l own H:=(Ze (Q:=Q) ht h rfl).2 g
theorem OL (hs:List Nat)(k:Nat)(ht:tb.Ok x.P)(h:mrun tb x.n k ⟨.n e,[.b i0,.s d1],l,own,hs,[],[]⟩=some ⟨.n e',[],l',own',[],E,E⟩)(g:JN x (Q e') l' own' H):JN x ((Exit.inBlock i0<|Exit.then (d1.wpIn (Fw x.r) 0 x.P Q) Q) e) l own H:=(Ze (Q:=Q) ht h rfl).2 g
theorem P3 (hs:List Nat)(k:Nat)(ht:tb.Ok x.P)(h:mrun tb x.n k ⟨.n e,[.k k0,.k k1],l,own,hs,[],[]⟩=some ⟨.n e',[],l',own',[],E,E⟩)(g:JN x (Q e') l' own' H):JN x ((Exit.then k0<|Exit.then k1 Q) e) l own H:=(Ze (Q:=Q) ht h rfl).2 g
theorem P4 (hs:List Nat)(k:Nat)(ht:tb.Ok x.P)(h:mrun tb x.n k ⟨.c c,[.b i0,.k k1],l,own,hs,[],[]⟩=some ⟨.n e',[],l',own',[],E,E⟩)(g:JN x (Q e') l' own' H):JC x c (Exit.inBlock i0<|Exit.then k1 Q) l own H:=(Ze (Q:=Q) ht h rfl).2 g
theorem P5 (hs:List Nat)(k:Nat)(ht:tb.Ok x.P)(h:mrun tb x.n k ⟨.n e,[.b i0,.k k1],l,own,hs,[],[]⟩=some ⟨.n e',[],l',own',[],E,E⟩)(g:JN x (Q e') l' own' H):JN x ((Exit.inBlock i0<|Exit.then k1 Q) e) l own H:=(Ze (Q:=Q) ht h rfl).2 g
theorem P9 (hs:List Nat)(k:Nat)(ht:tb.Ok x.P)(h:mrun tb x.n k ⟨.c c,[.b i0],l,own,hs,[],[]⟩=some ⟨.n e',[],l',own',[],E,E⟩)(g:JN x (Q e') l' own' H):JC x c (Exit.inBlock i0 Q) l own H:=(Ze (Q:=Q) ht h rfl).2 g
theorem Pu (hs:List Nat)(k:Nat)(ht:tb.Ok x.P)(h:mrun tb x.n k ⟨.l ops rest,[.b i0],l,own,hs,[],[]⟩=some ⟨.n e',[],l',own',[],E,E⟩)(g:JN x (Q e') l' own' H):JL x ops (Exit.inBlock i0 Q) rest l own H:=(Ze (Q:=Q) ht h rfl).2 g
theorem PP (hs:List Nat)(k:Nat)(ht:tb.Ok x.P)(h:mrun tb x.n k ⟨.l ops rest,[.s d0,.b i1,.k k2],l,own,hs,[],[]⟩=some ⟨.n e',[],l',own',[],E,E⟩)(g:JN x (Q e') l' own' H):JL x ops (Exit.then (d0.wpIn (Fw x.r) 0 x.P<|Exit.inBlock i1<|Exit.then k2 Q)<|Exit.inBlock i1<|Exit.then k2 Q) rest l own H:=(Ze (Q:=Q) ht h rfl).2 g
theorem PQ (hs:List Nat)(k:Nat)(ht:tb.Ok x.P)(h:mrun tb x.n k ⟨.l ops rest,[.s d0,.b i1,.s d2],l,own,hs,[],[]⟩=some ⟨.l ops' rest',[],l',own',[],E,E⟩)(g:JL x ops' Q rest' l' own' H):JL x ops (Exit.then (d0.wpIn (Fw x.r) 0 x.P<|Exit.inBlock i1<|Exit.then (d2.wpIn (Fw x.r) 0 x.P Q) Q)<|Exit.inBlock i1<|Exit.then (d2.wpIn (Fw x.r) 0 x.P Q) Q) rest l own H:=(Ze (Q:=Q) ht h rfl).2 g
theorem OG (hs:List Nat)(k:Nat)(ht:tb.Ok x.P)(h:mrun tb x.n k ⟨.l ops rest,[.s d0,.b i1,.s d2],l,own,hs,[],[]⟩=some ⟨.n e',[],l',own',[],E,E⟩)(g:JN x (Q e') l' own' H):JL x ops (Exit.then (d0.wpIn (Fw x.r) 0 x.P<|Exit.inBlock i1<|Exit.then (d2.wpIn (Fw x.r) 0 x.P Q) Q)<|Exit.inBlock i1<|Exit.then (d2.wpIn (Fw x.r) 0 x.P Q) Q) rest l own H:=(Ze (Q:=Q) ht h rfl).2 g
theorem PR (hs:List Nat)(k:Nat)(ht:tb.Ok x.P)(h:mrun tb x.n k ⟨.c c,[.k k0,.k k1,.b i2],l,own,hs,[],[]⟩=some ⟨.n e',[],l',own',[],E,E⟩)(g:JN x (Q e') l' own' H):JC x c (Exit.then k0<|Exit.then k1<|Exit.inBlock i2 Q) l own H:=(Ze (Q:=Q) ht h rfl).2 g
theorem Pz (hs:List Nat)(k:Nat)(ht:tb.Ok x.P)(h:mrun tb x.n k ⟨.c c,[.k k0,.b i1,.k k2],l,own,hs,[],[]⟩=some ⟨.n e',[],l',own',[],E,E⟩)(g:JN x (Q e') l' own' H):JC x c (Exit.then k0<|Exit.inBlock i1<|Exit.then k2 Q) l own H:=(Ze (Q:=Q) ht h rfl).2 g
theorem OH (hs:List Nat)(k:Nat)(ht:tb.Ok x.P)(h:mrun tb x.n k ⟨.n e,[.k k0,.b i1,.k k2],l,own,hs,[],[]⟩=some ⟨.n e',[],l',own',[],E,E⟩)(g:JN x (Q e') l' own' H):JN x ((Exit.then k0<|Exit.inBlock i1<|Exit.then k2 Q) e) l own H:=(Ze (Q:=Q) ht h rfl).2 g
end runs
end Go.Ow
