import Derived.Test.YtooeopogefefiaaGreatDoorOwMb
import Derived.Test.YtooeopogefefiaaGreatDoorOwMa
import Derived.KernelRfl
/-
  What is proved here: slices of arrays of one's own: append to one that is full, copy into one.
-/
set_option linter.constructorNameAsVariable false
set_option linter.unusedSimpArgs false
set_option linter.unusedVariables false
namespace Go.Ow
open Go.RowKit
variable{x:Cx}{ops:Array Oper}{Q:Exit->Act->World->Prop}{rest:List Oper}{l:Slots}{own:List Own}{H HF:Heaplet}
variable{ty:TypeId}{d:Nat}{pos:String}{aft:Array Edge}{v:Value}{p q:Operand}{t u:TypeId}
theorem ZLZ{w:World}{b o:Nat}{cur:Array Value}{T:TypeId}{f:Nat×Nat}(h:w.heap[b]? =some (.cells cur T f)){j:Nat}{u:Value}(a:cur[o+j]? =some u):w.cell? ⟨b,o+j,none⟩=some u:=by
 simp only[World.cell?,h];simpa using a
theorem ZUC{α:Type}{R:Rep α}(i:Nat){m E:TypeId}{z y:Value}{size bytes b o:Nat}{cur:Array Value}{T:TypeId}{cells:List Value}{ls s N:List α}(F:x.P.underlying t=some (.slice E))(U:eInfo x.P E=some (z,size,bytes))
 (hi:own[i]? =some [(b,.cells cur T (0,0))])(h1:evo l p=some (.slice (some ⟨b,o,none⟩) ls.length ls.length))(O:Flat HF R size cells ls)(hone:YU cells)(V:∀j u,cells[j]? =some u->cur[o+j]? =some u)(h2:evo l q=some y)(v:SrcF x H HF own R size m y s)
 (W:s≠[])(G:N=ls++s)(S:ls.length+s.length<=LIM)(hb:Nat.ble bytes 128=true)(X:Nat.blt d x.n=true)
 (h:∀v' K',RowOf HF R x.w0.heap.size E size v' N K'->JL x ops Q rest ((d,v')::l) (K'::own) H):
 JL x ops Q (⟨some d,.call ⟨.builtin .append,#[p,q],#[t,m]⟩,ty,pos,aft,none⟩::rest) l own H:=λa w c=>by
 subst G;simp only[wpLs,ZJ,if_true];refine⟨λ_ _=>trivial,?_⟩;obtain⟨A,I,f,J⟩:=v;have e:cells.length=ls.length*size:=O.length;have K:=(Zj c.mem hi).here (b,.cells cur T (0,0)) (by simp);have B:(Builtin.firstCells size ls.length (.slice (some ⟨b,o,none⟩) ls.length ls.length)).run x.P w.drew=.ok cells.toArray w.drew:=
  run_firstCells_some (P:=x.P) w.drew size ls.length ⟨b,o,none⟩ ls.length ls.length cells e (λj u h=>by
   rw[add_lit];exact ZLZ (w:=w) K (V j u h))
 have L:0<s.length:=Rl.2 W;obtain⟨v',K',Y,C,g,D⟩:=ZFx (ty:=ty) F U c.mem.agr e B (J w c.mem) L (Qc S) (Xv S hb) c.mem.kept.size;have k:(execOp a.eval ⟨some d,.call ⟨.builtin .append,#[p,q],#[t,m]⟩,ty,pos,aft,none⟩).run x.P w=.ok (.value v') Y:=by
  have e1:=ZI c h1;have e2:=ZI c h2;have:(execOp a.eval ⟨some d,.call ⟨.builtin .append,#[p,q],#[t,m]⟩,ty,pos,aft,none⟩).run x.P w=((Builtin.append_ #[t,m] ty #[.slice (some ⟨b,o,none⟩) ls.length ls.length,y]).run x.P w).andThen (λr M=>.ok (.value r) M):=by
   generalize a.eval=ρ at e1 e2;have e3:Array.map ρ #[p,q]= #[.slice (some ⟨b,o,none⟩) ls.length ls.length,y]:=(by simp[e1,e2]);simp only[execOp,resolve,e3,Sem.run_bind,Sem.run_pure,Result.andThen,invoke,builtin]
  rw[this,C];rfl
 rw[ZO rfl,k];refine h v' K' ⟨cells++A,by simpa using g,Flat.append I O,λu F=>(TU.1 F).elim (hone u) (f u)⟩ _ _ (Holds.put (x:=x) (l:=l) ⟨c.size,c.ds,c.slots,?_⟩ X v');simpa using c.mem.go0 (K':=[K']) (by simpa using D)
theorem ZSF{α:Type}{R:Rep α}(i:Nat){G e:TypeId}{g:Bool}{b o n:Nat}{cur:Array Value}{T:TypeId}{c:List α}{y:Value}(I:x.P.underlying t=some (.slice e))(J:ZC x.P e=some (g,1))
 (hi:own[i]? =some [(b,.cells cur T (0,0))])(h1:evo l p=some (.slice (some ⟨b,o,none⟩) n n))(hn:o+n<=cur.size)(h2:evo l q=some y)(hc:CSrc x H HF own R 1 y c)(hd:Nat.blt d x.n=true)
 (h:∀cs,Flat HF R 1 cs (c.take n)->cs.length<=n->JL x ops Q rest ((d,.int .i64 (min (c.length:Int) (n:Int)))::l) (own.set i [(b,.cells (cur.toList.take o++cs++cur.toList.drop (o+cs.length)).toArray T (0,0))]) H):
 JL x ops Q (⟨some d,.call ⟨.builtin .copy,#[p,q],#[t,G]⟩,ty,pos,aft,none⟩::rest) l own H:=λa w f=>by
 have e1:=ZI f h1;have e2:=ZI f h2;simp only[wpLs,ZJ,if_true];refine⟨λ_ _=>trivial,?_⟩;obtain⟨ao,cap,rfl,cells,hf,hone,s⟩:=hc;have base:∀u K,(Builtin.copy_ #[t,G] ty #[.slice (some ⟨b,o,none⟩) n n,.slice ao c.length cap]).run x.P w=.ok u K->
  (execOp a.eval ⟨some d,.call ⟨.builtin .copy,#[p,q],#[t,G]⟩,ty,pos,aft,none⟩).run x.P w=.ok (.value u) K:=λu K hr=>by
  generalize a.eval=ρ at e1 e2;have e3:Array.map ρ #[p,q]= #[.slice (some ⟨b,o,none⟩) n n,.slice ao c.length cap]:=by simp[e1,e2]
  simp only[execOp,resolve,e3,Sem.run_bind,Sem.run_pure,Result.andThen,invoke,builtin,hr]
 obtain⟨N,m⟩:∃N,N=Nat.min c.length n:=⟨_,rfl⟩;have v:N<=c.length:=by rw[m];exact Nat.min_le_left _ _
 have M:N<=n:=by rw[m];exact Nat.min_le_right _ _
 have O:(N:Int)=min (c.length:Int) (n:Int):=by rw[m];show((min c.length n:Nat):Int)=_;omega
 have S:c.take n=c.take N:=by
  by_cases Y:c.length<=n
  . have:N=c.length:=(by rw[m];exact Tw Y);rw[this,Rb,Tg Y]
  . have:N=n:=(by rw[m];exact Rc (by omega));rw[this]
 have j:=s w f.mem N v;rw[Sd]at j;have U:(Go.sizeOf e).run x.P w=.ok 1 w:=run_sizeOf J w;have r:=(PG N hf).1;rw[Sd]at r;have z:(c.take N).length=N:=by rw[TH,Tw v]
 have A:(cells.take N).length=N:=by have:=r.length;rw[z,Sd]at this;exact this
 rw[S]at h;have B:=Zj f.mem hi;rw[<-O]at h;have E:=B.here (b,.cells cur T (0,0)) (by simp);have V:∀o,H b o=none:=λo=>B.apart (b,.cells cur T (0,0)) (by simp) o;have F:o+0+(cells.take N).length<=cur.size:=by rw[A];omega
 have k:=run_storeCells_at x.P b o T (cells.take N) 0 cur w E F (λu I=>hone u (SG I));simp only[SV]at k;obtain⟨C,Z⟩:∃C,C=(cur.toList.take o++cells.take N++cur.toList.drop (o+(cells.take N).length)).toArray:=⟨_,rfl⟩;rw[<-Z]at k;have W:(Builtin.copy_ #[t,G] ty #[.slice (some ⟨b,o,none⟩) n n,.slice ao c.length cap]).run x.P w=.ok (.int .i64 (N:Int)) (w.setRow b C):=by
  generalize c.length=L at m j|-;generalize cells.take N=D at j k;simp[Builtin.copy_,run_underlying I,Builtin.lenOf,U,<-m,j,k,goInt,Sem.run_bind,Sem.run_pure,Result.andThen]
 rw[ZO rfl,base _ _ W];have X:=f.mem.go1 hi (by simpa[ids]using Mem.setRow f.mem.agr E V C);have:=h (cells.take N) r (by rw[A];exact M);rw[<-Z]at this;exact this _ _ (Holds.put (x:=x) (l:=l) ⟨f.size,f.ds,f.slots,X⟩ hd _)
theorem R.slA{N e q b o:Nat}{g:Bool}{lo:Option Operand}(d:x.P.underlying t=some (.array N e))(hs:ZC x.P e=some (g,1))(h1:evo l p=some (.pointer (some ⟨b,o,none⟩)))
    (h:match lo with|none=>q=0|some op=>∃k,evo l op=some (.int k (q:Int)))(f:q<N):Runs x (.slice t p lo none none) ty l own H (.slice (some ⟨b,o+q,none⟩) (N-q) (N-q)):=λρ w _ _ _ _ a i=>by
  simp only[execOp,a _ _ h1];refine YO ?_;have c:(Go.sizeOf e).run x.P w=.ok 1 w:=run_sizeOf hs w;cases lo with
  | none=>
    subst h;have h0:¬N=0:=(by omega);simp[Instr.sliceAt,run_underlying d,Instr.sliceBounds,Instr.sureAddr,asAddr,c,Sem.run_bind,Sem.run_pure,Result.andThen,h0,Addr.add]
  | some op=>
    obtain⟨k,h2⟩:=h;have h0:¬N=q:=(by omega);have h3:(q:Int)<=(N:Int):=(by omega);simp[Instr.sliceAt,run_underlying d,Instr.sliceBounds,ZG7,Instr.sureAddr,asAddr,c,Sem.run_bind,Sem.run_pure,Result.andThen,h0,h3,a _ _ h2,Addr.add,show q<=N by omega]
variable{x:Cx}{l:Slots}{own:List Own}{H:Heaplet}{ty:TypeId}
theorem ZNF{P:Program}{w:World}{v:Value}{m:List UInt8}{c:UInt8}(h:Agrees H w)(hs:IsSlice H RU8 1 v m):
 (Extern.BytealgIndexByte.indexByte #[v,.int .u8 (c.toNat:Int)]).run P w=.ok (.int .i64 (Lib.indexByte m c)) w:=by
 have hb:=ZLN (P:=P) h hs;have h2:=Lib.run_indexByteString (P:=P) ⟨m.toArray⟩ (c.toNat:Int) w;have a:(c.toNat:Int).toNat.toUInt8=c:=by simp
 rw[a]at h2;change Sem.run P (do
  let b<-Extern.Bytes.bytesOf v;let c<-Extern.Bytes.asByte (.int .u8 (c.toNat:Int))
  match (List.range b.size).find? λi=>b[i]! ==c with
  |some i=>pure (goInt i)
  |none=>pure (goInt (-1))) w=_
 change Sem.run P (do
  let b<-Extern.Bytes.bytesOf (.string ⟨m.toArray⟩);let c<-Extern.Bytes.asByte (.int .u8 (c.toNat:Int))
  match (List.range b.size).find? λi=>b[i]! ==c with
  |some i=>pure (goInt i)
  |none=>pure (goInt (-1))) w=_ at h2
 simp only[Extern.Bytes.bytesOf,Sem.run_bind,Sem.run_pure,Result.andThen]at h2;simp only[Sem.run_bind,hb,Result.andThen];exact h2
end Go.Ow
namespace Go.Pv
open Go Go.Ow
noncomputable section
inductive RC where
  |own (t:Ty) (E:Nat) (m:List (den t))
  |pub (t:Ty) (m:List (den t))
  |mrk (E:Nat) (m:List UInt8)
  |dead
  |junk
structure PS where
  N:Nat
  l:List (Nat×CV)
  o:List ((Nat×Nat)×CV)
  z:List (Nat×Nat)
  n:Nat
  f:List Nat
  c:Nat
  r:List (Nat×RC)
inductive Ex where
  |norm|exit (id:Nat)|ret
inductive Pt where
  |d (y:Ty) (w:List (Nat×Nat×Nat))
  |n
  |rr (k:Nat)
  |ptr (k o:Nat)
  |el (y:Ty) (o:Nat)
  |oel (y:Ty)
  |rel (y:Ty) (k o:Nat)
  |orel (y:Ty) (k:Nat)
  |cl (y:Ty)
  |bor (y:Ty) (k E:Nat)
  |rv (y:Ty) (k:Nat)
  |ag (n:Nat)
  |tu (n:Nat)
  |clo (f n m:Nat)
  |c (v:CV)
  |x
inductive Bp where
  |cells (n:Nat) (ps:List Pt)
  |row
structure Sp where
  vs:List Pt
  bs:List Bp
def hyP (p:Pt):List Hy:=match p with
 | .d y _=> [.d y]| .n=> [.n]| .el y _=> [.d y]| .oel y=> [.o y]| .rel _ _ _=> [.d .i]| .orel _ _=> [.o .i]| .cl y=> [.d (.sl y)]| .bor y _ _=> [.d (.sl y)]| .rv _ _=> [.d .i]|_=> []
def hyL (l:List Pt):List Hy:=List.rec [] (λp _ i=>hyP p++i) l
def hyB (l:List Bp):List Hy:=List.rec [] (λb _ i=>match b with| .cells _ ps=>hyL ps++i| .row=>i) l
def hyS (S:Sp):List Hy:=hyL S.vs++hyB S.bs
structure Spec where
  i:Sp
  o:Sp
  f:VH (hyS i)->Option (VH (hyS o))
structure Kx where
  e:Ex
  ts:List Nat
  cs:List (Nat×Nat×Nat)
  S:Sp
  ol:List Nat
structure Cut where
  ks:List Kx
  dc:List (Nat×Nat)
  dr:List Nat
structure Lp where
  h:Kx
  ks:List Kx
  dc:List (Nat×Nat)
  dr:List Nat
abbrev Pa:=Nat×Option Nat
structure HK where
  e:Ex
  ts:List Nat
  cs:List (Nat×Nat×Nat)
  S:Sp
  ol:List Pa
structure HCut where
  ks:List HK
  dc:List (Nat×Nat×Nat)
  dr:List Pa
structure HLp where
  h:HK
  ks:List HK
  dc:List (Nat×Nat×Nat)
  dr:List Pa
  g:List (Pa×Pa)
inductive NK where
  |count|index
structure Env where
  P:Program
  ty:List (Nat×Ty)
  sp:Nat->List Spec
  dsp:Nat->List Spec
  nt:List (Nat×NK)
  hb:List Nat
structure Hints where
  cut:List (Nat×HCut)
  lp:List (Nat×HLp)
  un:List (Nat×Nat)
  mb:List (Nat×List Nat)
  pb:List Nat
  mv:List Nat
section
variable{β:Type}
abbrev ZG{α:Type}(l:List (Nat×α))(i:Nat):Option α:=List.rec none (λp _ a=>Bool.rec a (some p.2) (Nat.beq p.1 i)) l
abbrev lkO{α:Type}(l:List ((Nat×Nat)×α))(i j:Nat):Option α:=List.rec none (λp _ a=>Bool.rec a (Bool.rec a (some p.2) (Nat.beq p.1.2 j)) (Nat.beq p.1.1 i)) l
abbrev oB{α:Type}(a:Option α)(k:α->Option β):Option β:=Option.rec none k a
abbrev bb (b:Bool)(x y:Option β):Option β:=Bool.rec y x b
abbrev QD{α:Type}(l:List α)(k:List α->Option β):Option β:=List.rec (λk=>k []) (λa _ i k=>i λr=>k (a::r)) l k
abbrev kn (c:CV)(k:CV->Option β):Option β:=match c with| .unk=>none|c=>k c
abbrev fC (c:CV)(k:CV->Option β):Option β:=match c with
 | .i n=>k (.i n)| .n i j=>k (.n i j)| .ln j=>k (.ln j)| .bc i m n=>k (.bc i m n)| .w8 x=>k (.w8 x)| .w32 x=>k (.w32 x)| .w64 x=>k (.w64 x)| .b x=>k (.b x)| .s l=>k (.s l)| .sl t m=>k (.sl t m)| .cl t m=>k (.cl t m)| .rv t i g=>k (.rv t i g)| .sv i o n=>k (.sv i o n)| .nils=>k .nils| .nilp=>k .nilp| .nili=>k .nili
 | .ptr a b=>k (.ptr a b)| .el t x o=>k (.el t x o)| .fn f=>k (.fn f)| .row i=>k (.row i)| .rel t i j o=>k (.rel t i j o)| .oel t x=>k (.oel t x)| .orel t i x=>k (.orel t i x)| .clo f l m=>QD l λl=>QD m λm=>k (.clo f l m)| .ag l=>QD l λl=>k (.ag l)| .tu l=>QD l λl=>k (.tu l)| .und=>k .und| .any=>k .any| .unk=>k .unk
abbrev PS.lay (s:PS)(d:Nat)(c:CV)(k:PS->Option β):Option β:=match s with|⟨N,l,o,z,n,f,q,r⟩=>k ⟨N,(d,c)::l,o,z,n,f,q,r⟩
abbrev PS.put (s:PS)(d:Nat)(c:CV)(k:PS->Option β):Option β:=fC c λc=>bb (Nat.blt d s.N) (s.lay d c k) none
def vC (v:Value):Option CV:=match v with
 | .int .i64 n=>some (.i n)
 | .int .u8 n=>Bool.rec none (some (.w8 (UInt8.ofNat n.toNat))) (Bool.and (decide (0<=n)) (decide (n<256)))
 | .int .u32 n=>Bool.rec none (some (.w32 (UInt32.ofNat n.toNat))) (Bool.and (decide (0<=n)) (decide (n<4294967296)))
 | .int .u64 n=>Bool.rec none (some (.w64 (UInt64.ofNat n.toNat))) (Bool.and (decide (0<=n)) (decide (n<18446744073709551616)))
 | .bool b=>some (.b b)
 | .string s=>some (.s s.data.toList)
 | .slice none 0 0=>some .nils
 | .pointer none=>some .nilp
 | .nilIface=>some .nili
 | .nilFunc=>some .any
 |_=>none
abbrev vCs (l:List Value)(k:List CV->Option β):Option β:=List.rec (λk=>k []) (λv _ i k=>oB (vC v) λc=>i λr=>k (c::r)) l k
abbrev rsv (s:PS)(c:CV)(k:CV->Option β):Option β:=match c with
 | .row j=>(match ZG s.r j with|some (.pub t m)=>k (.sl t m)|some (.own _ _ _)=>k (.row j)|some (.mrk _ _)=>k (.row j)|_=>none)
 |c=>k c
abbrev rsvD (s:PS)(l:List CV):(List CV->Option β)->Option β:=List.rec (λk=>k []) (λc _ i k=>rsv s c λc=>i λr=>k (c::r)) l
abbrev ev (s:PS)(o:Operand)(k:CV->Option β):Option β:=match o with
 | .tmp t=>oB (ZG s.l t) λc=>kn c λc=>rsv s c k
 | .const v=>(match v with| .agg cs=>vCs cs.toList λl=>k (.ag l)|v=>oB (vC v) λc=>fC c k)
 | .func f=>k (.fn f)
 | .global _=>none
abbrev evL (s:PS)(l:List Operand)(k:List CV->Option β):Option β:=List.rec (λk=>k []) (λo _ i k=>ev s o λc=>i λr=>k (c::r)) l k
abbrev eqI (a b:Int):Bool:=Int.rec (λx=>Int.rec (λy=>Nat.beq x y) (λ_=>false) b) (λ_=>false) a
abbrev bI (op:BinOp)(m n:Int)(k:CV->Option β):Option β:=match op with
 | .add=>k (.i (Ow.w64 (m+n)))| .sub=>k (.i (Ow.w64 (m-n)))| .mul=>k (.i (Ow.w64 (m*n)))
 | .quo=>chk (n≠0) (k (.i (Ow.w64 (m.tdiv n))))| .rem=>chk (n≠0) (k (.i (m.tmod n)))
 | .and=>k (.i (and64 m n))| .or=>k (.i (or64 m n))| .xor=>k (.i (xor64 m n))
 | .shl=>chk (0<=n) (k (.i (sli m n)))| .shr=>chk (0<=n) (k (.i (sri m n)))
 | .lss=>k (.b (decide (m<n)))| .leq=>k (.b (decide (m<=n)))| .gtr=>k (.b (decide (n<m)))| .geq=>k (.b (decide (n<=m)))
 | .eql=>k (.b (decide (m=n)))| .neq=>k (.b (!decide (m=n)))|_=>none
abbrev b8 (op:BinOp)(m n:UInt8)(k:CV->Option β):Option β:=match op with
 | .add=>k (.w8 (m+n))| .sub=>k (.w8 (m-n))| .mul=>k (.w8 (m*n))| .quo=>chk (n≠0) (k (.w8 (m/n)))| .rem=>chk (n≠0) (k (.w8 (m%n)))
 | .and=>k (.w8 (m&&&n))| .or=>k (.w8 (m |||n))| .xor=>k (.w8 (m^^^n))
 | .lss=>k (.b (decide (m<n)))| .leq=>k (.b (decide (m<=n)))| .gtr=>k (.b (decide (n<m)))| .geq=>k (.b (decide (n<=m)))
 | .eql=>k (.b (decide (m=n)))| .neq=>k (.b (!decide (m=n)))|_=>none
abbrev b32 (op:BinOp)(m n:UInt32)(k:CV->Option β):Option β:=match op with
 | .add=>k (.w32 (m+n))| .sub=>k (.w32 (m-n))| .mul=>k (.w32 (m*n))| .quo=>chk (n≠0) (k (.w32 (m/n)))| .rem=>chk (n≠0) (k (.w32 (m%n)))
 | .and=>k (.w32 (m&&&n))| .or=>k (.w32 (m |||n))| .xor=>k (.w32 (m^^^n))
 | .lss=>k (.b (decide (m<n)))| .leq=>k (.b (decide (m<=n)))| .gtr=>k (.b (decide (n<m)))| .geq=>k (.b (decide (n<=m)))
 | .eql=>k (.b (decide (m=n)))| .neq=>k (.b (!decide (m=n)))|_=>none
abbrev b64 (op:BinOp)(m n:UInt64)(k:CV->Option β):Option β:=match op with
 | .add=>k (.w64 (m+n))| .sub=>k (.w64 (m-n))| .mul=>k (.w64 (m*n))| .quo=>chk (n≠0) (k (.w64 (m/n)))| .rem=>chk (n≠0) (k (.w64 (m%n)))
 | .and=>k (.w64 (m&&&n))| .or=>k (.w64 (m |||n))| .xor=>k (.w64 (m^^^n))
 | .lss=>k (.b (decide (m<n)))| .leq=>k (.b (decide (m<=n)))| .gtr=>k (.b (decide (n<m)))| .geq=>k (.b (decide (n<=m)))
 | .eql=>k (.b (decide (m=n)))| .neq=>k (.b (!decide (m=n)))|_=>none
abbrev eqC (x y:CV)(k:Bool->Option β):Option β:=match x,y with
 | .i a,.i b=>k (decide (a=b))
 | .w8 a,.w8 b=>k (decide (a=b))
 | .w32 a,.w32 b=>k (decide (a=b))
 |_,_=>none
def isInt (P:Program)(T:Nat):Bool:=match P.underlying T with|some (.int _)=>true|_=>false
abbrev ZRc (P:Program)(ih:Nat->List CV->List CV->(Bool->Option β)->Option β)(xs ys:List CV)(fs:List Field):(Bool->Option β)->Option β:=
  List.rec (λk=>k true)
    (fun f _ ihf k => bb (decide (f.name ≠ "_")) (match ZC P f.type with
      |some (true,n)=>bb (Bool.and (Nat.ble (f.offset+n) xs.length) (Nat.ble (f.offset+n) ys.length)) (ih f.type ((xs.drop f.offset).take n) ((ys.drop f.offset).take n) λe=>ihf λr=>k (and e r)) none
      |some (false,_)=>oB xs[f.offset]? λx=>oB ys[f.offset]? λy=>bb (isInt P f.type) (eqC x y λe=>ihf λr=>k (and e r)) none
      |none=>none) none) fs
def eqOk (P:Program)(T:Nat):Bool:=(match P.underlying T with|some (.struct _)=>true|_=>false)&&(!P.stoodInHeld T&& !P.eqGuardType P.depth T)
abbrev eqA (P:Program):Nat->Nat->List CV->List CV->(Bool->Option β)->Option β:=λn=>Nat.rec (λ_ _ _ _=>none) (λ_ i T xs y k=>bb (eqOk P T) (ZRc P i xs y (P.fieldsOf T).toList k) none) n
def isArr (P:Program)(T:Nat):Bool:=match P.underlying T with|some (.array _ _)=>true|_=>false
def arrOk (P:Program)(T n:Nat):Bool:=match P.underlying T with|some (.array m e)=>Bool.and (Nat.beq m n) (Bool.and (match P.underlying e with|some (.int .u8)=>true|_=>false) (Bool.and (match ZC P e with|some (false,1)=>true|_=>false) (Bool.and (Nat.beq (P.cellsOf e) 1) (!P.eqGuardType P.depth T))))|_=>false
abbrev o8l (l:List CV)(k:List UInt8->Option β):Option β:=List.rec (λk=>k []) (λc _ i k=>o8 c λa=>i λr=>k (a::r)) l k
abbrev eqY (P:Program)(T:Nat)(xs y:List CV)(k:Bool->Option β):Option β:=bb (Bool.and (arrOk P T xs.length) (arrOk P T y.length)) (o8l xs λas=>o8l y λbs=>k (decide (as=bs))) none
abbrev fb (op:BinOp)(e:Bool)(k:CV->Option β):Option β:=match op with| .eql=>k (.b e)| .neq=>k (.b (!e))|_=>none
abbrev ZRw (op:BinOp)(x:CV)(n:Int)(k:CV->Option β):Option β:=match x with
 | .i m=>bI op m n k
 | .n _ m=>bI op (m:Int) n k
 | .ln m=>bI op (m:Int) n k
 |_=>none
abbrev QF (l:List Nat)(i:Nat):Bool:=List.rec false (λj _ a=>Bool.rec a true (Nat.beq j i)) l
def isPtr (P:Program)(T:Nat):Bool:=match P.underlying T with|some (.pointer _)=>true|_=>false
abbrev pnl (op:BinOp)(x:CV)(k:CV->Option β):Option β:=match x with
 | .nilp=>fb op true k
 | .ptr _ _=>fb op false k
 | .el _ _ _=>fb op false k
 | .rel _ _ _ _=>fb op false k
 | .oel _ x=>fb op x.isNone k
 | .orel _ _ x=>fb op x.isNone k
 |_=>none
abbrev oIx (c:CV)(k:Int->Option β):Option β:=match c with| .i n=>k n| .n _ j=>k (j:Int)| .ln j=>k (j:Int)| .w8 a=>k (a.toNat:Int)| .w32 a=>k (a.toNat:Int)| .w64 a=>k (a.toNat:Int)|_=>none
def agree (a b:Option β):Option β:=@ite _ (a=b) (Classical.propDecidable _) a none
def nilq{α:Type}(m:List α)(a b:Option β):Option β:=match m with|[]=>agree a b|_::_=>b
def isSlT (P:Program)(T:Nat):Bool:=match P.underlying T with|some (.slice _)=>true|_=>false
abbrev isSh (op:BinOp):Bool:=match op with| .shl=>true| .shr=>true|_=>false
abbrev shW (op:BinOp)(x:CV)(n:Int)(k:CV->Option β):Option β:=match op,x with
 | .shl,.i m=>chk (0<=n) (k (.i (sli m n)))| .shr,.i m=>chk (0<=n) (k (.i (sri m n)))
 | .shl,.w8 m=>chk (0<=n) (k (.w8 (sl8 m n.toNat)))| .shr,.w8 m=>chk (0<=n) (k (.w8 (sr8 m n.toNat)))
 | .shl,.w32 m=>chk (0<=n) (k (.w32 (sl32 m n.toNat)))| .shr,.w32 m=>chk (0<=n) (k (.w32 (sr32 m n.toNat)))
 | .shl,.w64 m=>chk (0<=n) (k (.w64 (sl64 m n.toNat)))| .shr,.w64 m=>chk (0<=n) (k (.w64 (sr64 m n.toNat)))
 |_,_=>none
abbrev bop0 (X:Env)(s:PS)(op:BinOp)(T:Nat)(x y:CV)(k:CV->Option β):Option β:=match y with
  | .i n=>ZRw op x n k
  | .n _ n=>ZRw op x (n:Int) k
  | .ln n=>(match op,x with| .lss,.n c m=>k (.bc c m n)|op,x=>ZRw op x (n:Int) k)
  | .w8 n=>(match x with| .w8 m=>b8 op m n k|_=>none)
  | .w32 n=>(match x with| .w32 m=>b32 op m n k|_=>none)
  | .w64 n=>(match x with| .w64 m=>b64 op m n k|_=>none)
  | .b n=>(match x,X.P.underlying T with| .b m,some .bool=>fb op (m==n) k|_,_=>none)
  | .s n=>(match x with| .s m=>fb op (decide (m=n)) k|_=>none)
  | .nilp=>bb (isPtr X.P T) (pnl op x k) none
  | .nils=>(match x with
    | .sl _ m=>bb (isSlT X.P T) (nilq m (fb op true k) (fb op false k)) none
    | .nils=>bb (isSlT X.P T) (fb op true k) none
    | .row j=>(match ZG s.r j with|some (.own _ _ m)=>bb (isSlT X.P T) (nilq m (fb op true k) (fb op false k)) none|_=>none)
    |_=>none)
  | .ag a=>(match x with| .ag xs=>Bool.rec (eqA X.P 8 T xs a λe=>fb op e k) (eqY X.P T xs a λe=>fb op e k) (isArr X.P T)|_=>none)
  |_=>none
abbrev bop (X:Env)(s:PS)(op:BinOp)(T:Nat)(x y:CV)(k:CV->Option β):Option β:=Bool.rec (bop0 X s op T x y k) (oIx y λn=>shW op x n k) (isSh op)
def isInc (s:PS)(op:BinOp)(x y:CV):Bool:=match op,x,y with| .add,.n c _,.i n=>Bool.and (eqI n 1) (QF s.f c)|_,_,_=>false
abbrev incr (s:PS)(d:Nat)(x:CV)(k:PS->Option β):Option β:=match x,s with| .n _ m,⟨N,l,o,z,n,f,c,r⟩=>PS.put ⟨N,l,o,z,n,f,Nat.succ c,r⟩ d (.n c (m+1)) k|_,_=>none
abbrev cvI (m:Int)(k:IntKind)(c:CV->Option β):Option β:=match k with| .i64=>c (.i (Ow.w64 m))| .u8=>c (.w8 (u8i m))| .u32=>c (.w32 (u32i m))| .u64=>c (.w64 (u64i m))|_=>none
abbrev cv8 (a:UInt8)(k:IntKind)(c:CV->Option β):Option β:=match k with| .i64=>c (.i (a.toNat:Int))| .u8=>c (.w8 a)| .u32=>c (.w32 a.toUInt32)| .u64=>c (.w64 a.toUInt64)|_=>none
abbrev cv32 (a:UInt32)(k:IntKind)(c:CV->Option β):Option β:=match k with| .i64=>c (.i (a.toNat:Int))| .u8=>c (.w8 a.toUInt8)| .u32=>c (.w32 a)| .u64=>c (.w64 a.toUInt64)|_=>none
abbrev cv64 (a:UInt64)(k:IntKind)(c:CV->Option β):Option β:=match k with| .i64=>c (.i (Ow.w64 (a.toNat:Int)))| .u8=>c (.w8 a.toUInt8)| .u32=>c (.w32 a.toUInt32)| .u64=>c (.w64 a)|_=>none
abbrev cvT (x:CV)(c:CV->Option β):Option β:=match x with
 | .sl t m=>cast (.sl t) (.sl .w8) m λm=>c (.s m)
 | .cl t m=>cast (.sl t) (.sl .w8) m λm=>c (.s m)
 | .nils=>c (.s [])
 |_=>none
def isU8 (P:Program)(T:Nat):Bool:=match P.underlying T with|some (.slice e)=>(match P.underlying e with|some (.int .u8)=>true|_=>false)|_=>false
abbrev cvO (X:Env)(S T:Nat)(x:CV)(c:CV->Option β):Option β:=match X.P.underlying T with
  | some (.int k)=>(match X.P.underlying S,x with
    |some _,.i m=>cvI m k c
    |some _,.n _ m=>cvI (m:Int) k c
    |some _,.ln m=>cvI (m:Int) k c
    |some _,.w8 a=>cv8 a k c
    |some _,.w32 a=>cv32 a k c
    |some _,.w64 a=>cv64 a k c
    |_,_=>none)
  |some .string=>bb (isU8 X.P S) (cvT x c) none
  |_=>none
def oneC (c:CV):Bool:=match c with| .ag _=>false| .tu _=>false| .und=>false| .any=>false| .unk=>false|_=>true
def allB{α:Type}(f:α->Bool)(l:List α):Bool:=List.rec true (λa _ i=>Bool.rec false i (f a)) l
abbrev ldN (s:PS)(a:Nat):Nat->Nat->(List CV->Option β)->Option β:=λn=>Nat.rec (λ_ k=>k []) (λ_ i o k=>oB (lkO s.o a o) λc=>kn c λc=>i (Nat.succ o) λr=>k (c::r)) n
abbrev ldO (P:Program)(s:PS)(T a o:Nat)(k:CV->Option β):Option β:=match ZC P T with
 |some (false,_)=>oB (lkO s.o a o) λc=>kn c k
 |some (true,n)=>ldN s a n o λl=>k (.ag l)
 |none=>none
abbrev ldE (P:Program)(T:Nat)(l:List CV)(o:Nat)(k:CV->Option β):Option β:=match ZC P T with
 |some (false,_)=>oB (l.drop o).head? k
 |some (true,n)=>(λm=>bb (Nat.beq m.length n) (k (.ag m)) none) ((l.drop o).take n)
 |none=>none
abbrev ZIQ (a:Nat)(l:List CV):Nat->List ((Nat×Nat)×CV)->(List ((Nat×Nat)×CV)->Option β)->Option β:=List.rec (λ_ m k=>k m) (λc _ i o m k=>i (Nat.succ o) (((a,o),c)::m) k) l
abbrev PS.new (s:PS)(d:Nat)(l:List CV)(k:PS->Option β):Option β:=match s with|⟨N,ls,o,z,n,f,c,r⟩=>ZIQ n l 0 o λo=>PS.put ⟨N,ls,o,(n,l.length)::z,Nat.succ n,f,c,r⟩ d (.ptr n 0) k
abbrev PS.sto (s:PS)(a o:Nat)(l:List CV)(k:PS->Option β):Option β:=match s with|⟨N,ls,b,z,n,f,c,r⟩=>oB (ZG z a) λm=>bb (Nat.ble (o+l.length) m) (ZIQ a l o b λb=>k ⟨N,ls,b,z,n,f,c,r⟩) none
def layL (l:List CV)(o:Nat)(v:List CV):List CV:=l.take o++v++l.drop (o+v.length)
abbrev zC (P:Program)(T:Nat)(k:List CV->Option β):Option β:=match Yx P T with|some z=>vCs z.cells.toList k|none=>none
def fits (p:List (Nat×Nat))(m:Nat)(i:Nat)(v:List CV):Bool:=match p[i]? with|some (o,n)=>Bool.and (Nat.beq v.length n) (Nat.ble (o+n) m)|none=>false
abbrev bldL (a:List (Nat×Nat))(z:List CV)(l:List (Nat×CV)):(List CV->Option β)->Option β:=List.rec (λz k=>QD z k) (λp _ i z k=>(λv=>bb (fits a z.length p.1 v) (match a[p.1]? with|some (o,_)=>i (layL z o v) k|none=>none) none) (XH p.2)) l z
abbrev evP (s:PS)(l:List (Nat×Operand))(k:List (Nat×CV)->Option β):Option β:=List.rec (λk=>k []) (λp _ i k=>ev s p.2 λc=>i λr=>k ((p.1,c)::r)) l k
def isSl (P:Program)(ts:Array TypeId):Bool:=match ts with|⟨[t]⟩=>(match P.underlying t with|some (.slice _)=>true|_=>false)|_=>false
def isStr (P:Program)(ts:Array TypeId):Bool:=match ts with|⟨[t]⟩=>(match P.underlying t with|some .string=>true|_=>false)|_=>false
abbrev lenC (P:Program)(ts:Array TypeId)(c:CV)(k:CV->Option β):Option β:=match c with
 | .sl _ m=>bb (isSl P ts) (k (.ln m.length)) none
 | .cl _ m=>bb (isSl P ts) (k (.ln m.length)) none
 | .sv _ _ n=>bb (isSl P ts) (k (.i (n:Int))) none
 | .nils=>bb (isSl P ts) (k (.i 0)) none
 | .s l=>bb (isStr P ts) (k (.i (l.length:Int))) none
 |_=>none
def packC (l:List CV):CV:=match l with|[c]=>c|l=>.tu l
def eqCV (a b:CV):Bool:=match a,b with
 | .i m,.i n=>decide (m=n)
 | .b m,.b n=>(m==n)
 | .w8 m,.w8 n=>decide (m=n)
 | .w32 m,.w32 n=>decide (m=n)
 | .w64 m,.w64 n=>decide (m=n)
 | .nils,.nils=>true
 | .nilp,.nilp=>true
 | .nili,.nili=>true
 | .fn m,.fn n=>Nat.beq m n
 |_,_=>false
abbrev oNat (c:CV)(k:Nat->Option β):Option β:=match c with| .n _ j=>k j| .i n=>Int.rec (λj=>k j) (λ_=>none) n|_=>none
abbrev Rho:=List (Nat×Option Nat)
def eqON (a b:Option Nat):Bool:=match a,b with|some i,some j=>Nat.beq i j|none,none=>true|_,_=>false
def freeR (ρ:Rho)(a:Option Nat):Bool:=match a with|none=>true|some i=>allB (λp=>match p.2 with|some j=> !(Nat.beq i j)|none=>true) ρ
abbrev JH (ρ:Rho)(i:Nat)(a:Option Nat)(k:Rho->Option β):Option β:=match ZG ρ i with
 |some b=>bb (eqON a b) (k ρ) none
 |none=>bb (freeR ρ a) (k ((i,a)::ρ)) none
def setC (l:List CV)(o:Nat)(c:CV):List CV:=l.take o++c::l.drop (Nat.succ o)
abbrev ZQy (s:PS)(w:List (Nat×Nat×Nat)):List CV->Rho->(List CV->Rho->Option β)->Option β:=List.rec (λl ρ k=>k l ρ) (λp _ i l ρ k=>match l[p.1]? with
 |some (.row j)=>(match ZG s.r j with|some (.own t E m)=>bb (Nat.beq E p.2.2) (JH ρ p.2.1 (some j) λρ=>i (setC l p.1 (.sl t m)) ρ k) none|_=>none)
 |some .nils=>JH ρ p.2.1 none λρ=>i l ρ k
 |_=>none) w
abbrev ZKf (s:PS)(l:List CV):(List CV->List Nat->Option β)->Option β:=List.rec (λk=>k [] []) (λc _ i k=>match c with
 | .row j=>(match ZG s.r j with|some (.pub t m)=>i λr js=>k (.sl t m::r) js|some (.own t _ m)=>i λr js=>k (.sl t m::r) (j::js)|some (.mrk _ m)=>i λr js=>k (.sl .w8 m::r) (j::js)|_=>none)
 | .cl t m=>i λr js=>k (.sl t m::r) js
 | .unk=>none
 |c=>i λr js=>k (c::r) js) l
abbrev Mk (β:Type):=List HV->Rho->List Nat->Option β
def mtP (s:PS)(p:Pt)(c:CV)(cs:List CV)(ρ:Rho)(go:List CV->Rho->Mk β->Option β)(k:Mk β):Option β:=match p with
  | .d y w=>(λn l=>bb (Nat.ble n l.length) (ZQy s w (l.take n) ρ λq ρ=>ZKf s q λq js=>oT y q λx=>go (l.drop n) ρ λhs ρ b=>k (.d y x::hs) ρ (js++b)) none) (szY y) (c::cs)
  | .n=>oNat c λj=>go cs ρ λhs ρ js=>k (.n j::hs) ρ js
  | .rr i=>(match c with| .row j=>JH ρ i (some j) λρ=>go cs ρ k| .nils=>JH ρ i none λρ=>go cs ρ k|_=>none)
  | .ptr i o=>(match c with| .ptr a o'=>bb (Nat.beq o o') (JH ρ i (some a) λρ=>go cs ρ k) none|_=>none)
  | .el y o=>(match c with| .el z x o'=>bb (Nat.beq o o') (cast z y x λx=>go cs ρ λhs ρ js=>k (.d y x::hs) ρ js) none|_=>none)
  | .oel y=>(match c with
    | .el z x o=>bb (Nat.beq o 0) (cast z y x λx=>go cs ρ λhs ρ js=>k (.o y (some x)::hs) ρ js) none
    | .nilp=>go cs ρ λhs ρ js=>k (.o y none::hs) ρ js
    | .oel z x=>castO z y x λx=>go cs ρ λhs ρ js=>k (.o y x::hs) ρ js
    |_=>none)
  | .rel y i o=>(match c with| .rel z a g o'=>bb (Bool.and (eqT z y) (Nat.beq o o')) (JH ρ i (some a) λρ=>go cs ρ λhs ρ js=>k (.d .i g::hs) ρ js) none|_=>none)
  | .orel y i=>(match c with
    | .rel z a g o=>bb (Bool.and (eqT z y) (Nat.beq o 0)) (JH ρ i (some a) λρ=>go cs ρ λhs ρ js=>k (.o .i (some g)::hs) ρ js) none
    | .nilp=>go cs ρ λhs ρ js=>k (.o .i none::hs) ρ js
    | .orel z a g=>bb (eqT z y) (JH ρ i (some a) λρ=>go cs ρ λhs ρ js=>k (.o .i g::hs) ρ js) none
    |_=>none)
  | .cl y=>(match c with| .cl z x=>cast (.sl z) (.sl y) x λx=>go cs ρ λhs ρ js=>k (.d (.sl y) x::hs) ρ js|_=>none)
  | .rv y i=>(match c with| .rv z a g=>bb (eqT z y) (JH ρ i (some a) λρ=>go cs ρ λhs ρ js=>k (.d .i g::hs) ρ js) none|_=>none)
  | .ag n=>(match c with| .ag l=>bb (Nat.beq l.length n) (go (l++cs) ρ k) none|_=>none)
  | .tu n=>(match c with| .tu l=>bb (Nat.beq l.length n) (go (l++cs) ρ k) none|_=>none)
  | .clo f n m=>(match c with| .clo g l l'=>bb (Bool.and (Nat.beq g f) (Bool.and (Nat.beq l.length n) (Nat.beq l'.length m))) (go (l++(l'++cs)) ρ k) none|_=>none)
  | .c v=>bb (eqCV c v) (go cs ρ k) none
  | .x=>go cs ρ k
  | .bor _ _ _=>none
abbrev mtR (s:PS)(y:Ty)(i E:Nat)(ρ:Rho)(k:List (den y)->Option β):Option β:=match ZG ρ i with
 |some (some a)=>(match ZG s.r a with|some (.own t b m)=>bb (Nat.beq b E) (cast (.sl t) (.sl y) m k) none|_=>none)
 |_=>none
def mtL (s:PS)(ps:List Pt):List CV->Rho->Mk β->Option β:=List.rec (λcs ρ k=>List.rec (k [] ρ []) (λ_ _ _=>none) cs) (λp _ a cs ρ k=>match p with
 | .bor y i E=>mtR s y i E ρ λm=>a cs ρ λhs ρ js=>k (.d (.sl y) m::hs) ρ js
 |p=>List.rec none (λc cs _=>mtP s p c cs ρ a k) cs) ps
abbrev ldU (s:PS)(a:Nat):Nat->Nat->(List CV->Option β)->Option β:=λn=>Nat.rec (λ_ k=>k []) (λ_ i o k=>oB (lkO s.o a o) λc=>i (Nat.succ o) λr=>k (c::r)) n
def mtB (s:PS)(bs:List Bp):Nat->Rho->Mk β->Option β:=List.rec (λ_ ρ k=>k [] ρ []) (λb _ c i ρ k=>match b with
  | .row=>c (Nat.succ i) ρ k
  | .cells n ps=>(match ZG ρ i with
    |some (some a)=>oB (ZG s.z a) λm=>bb (Bool.and (Nat.ble 1 n) (Nat.beq m n)) (ldU s a n 0 λl=>mtL s ps l ρ λhs ρ js=>c (Nat.succ i) ρ λh ρ j=>k (hs++h) ρ (js++j)) none
    |_=>none)) bs
def mtS (s:PS)(S:Sp)(cs:List CV)(ρ:Rho)(k:Mk β):Option β:=mtL s S.vs cs ρ λhs ρ js=>mtB s S.bs 0 ρ λh ρ b=>(λjs=>bb (Bool.and (allB (λp=>match p.2 with|some a=>Nat.blt a s.n|none=>true) ρ) (allB (λj=>freeR ρ (some j)) js)) (k (hs++h) ρ js) none) (js++b)
def sg (ρ:Rho)(b i:Nat):Nat:=match ZG ρ i with|some (some a)=>a|_=>b+i
abbrev buW (ρ:Rho)(b:Nat)(w:List (Nat×Nat×Nat)):List CV->(List CV->List (Nat×RC)->Option β)->Option β:=List.rec (λl k=>k l []) (λp _ i l k=>match l[p.1]? with
 |some (.sl t m)=>i (setC l p.1 (.row (sg ρ b p.2.1))) λl r=>k l ((sg ρ b p.2.1,.own t p.2.2 m)::r)
 |_=>none) w
abbrev Bk (β:Type):=List CV->List HV->Nat->List (Nat×RC)->Option β
def buP (ρ:Rho)(b:Nat)(p:Pt)(hs:List HV)(c:Nat)(go:List HV->Nat->Bk β->Option β)(k:Bk β):Option β:=match p with
 | .d y w=>(match hs with| .d z x::hs=>cast z y x λx=>QD (spC y x) λl=>buW ρ b w l λl r=>go hs c λcs hs c a=>k (l++cs) hs c (r++a)|_=>none)
 | .n=>(match hs with| .n j::hs=>go hs (Nat.succ c) λcs hs c' r=>k (.n c j::cs) hs c' r|_=>none)
 | .rr i=>go hs c λcs hs c r=>k (.row (sg ρ b i)::cs) hs c r
 | .ptr i o=>go hs c λcs hs c r=>k (.ptr (sg ρ b i) o::cs) hs c r
 | .el y o=>(match hs with| .d z x::hs=>cast z y x λx=>go hs c λcs hs c r=>k (.el y x o::cs) hs c r|_=>none)
 | .oel y=>(match hs with| .o z x::hs=>castO z y x λx=>go hs c λcs hs c r=>k (.oel y x::cs) hs c r|_=>none)
 | .rel y i o=>(match hs with| .d z x::hs=>cast z .i x λx=>go hs c λcs hs c r=>k (.rel y (sg ρ b i) x o::cs) hs c r|_=>none)
 | .orel y i=>(match hs with| .o z x::hs=>castO z .i x λx=>go hs c λcs hs c r=>k (.orel y (sg ρ b i) x::cs) hs c r|_=>none)
 | .cl y=>(match hs with| .d z x::hs=>cast z (.sl y) x λx=>go hs c λcs hs c r=>k (.cl y x::cs) hs c r|_=>none)
 | .rv y i=>(match hs with| .d z x::hs=>cast z .i x λx=>go hs c λcs hs c r=>k (.rv y (sg ρ b i) x::cs) hs c r|_=>none)
 | .ag n=>go hs c λcs hs c r=>bb (Nat.ble n cs.length) (k (.ag (cs.take n)::cs.drop n) hs c r) none
 | .tu n=>go hs c λcs hs c r=>bb (Nat.ble n cs.length) (k (.tu (cs.take n)::cs.drop n) hs c r) none
 | .clo f n m=>go hs c λcs hs c r=>bb (Nat.ble (n+m) cs.length) (k (.clo f (cs.take n) ((cs.drop n).take m)::cs.drop (n+m)) hs c r) none
 | .c v=>go hs c λcs hs c r=>k (v::cs) hs c r
 | .x=>go hs c λcs hs c r=>k (.any::cs) hs c r
 | .bor y i E=>(match hs with| .d z x::hs=>cast z (.sl y) x λx=>go hs c λcs hs c r=>k cs hs c ((sg ρ b i,.own y E x)::r)|_=>none)
def buL (ρ:Rho)(b:Nat)(ps:List Pt):List HV->Nat->Bk β->Option β:=List.rec (λhs c k=>k [] hs c []) (λp _ i hs c k=>buP ρ b p hs c i k) ps
def buB (ρ:Rho)(b:Nat)(bs:List Bp):Nat->List HV->Nat->(List (Nat×List CV)->Nat->List (Nat×RC)->Option β)->Option β:=List.rec (λ_ _ c k=>k [] c []) (λB _ a i hs c k=>match B with
 | .row=>a (Nat.succ i) hs c k
 | .cells n ps=>buL ρ b ps hs c λcs hs c d=>bb (Nat.beq cs.length n) (QD cs λcs=>a (Nat.succ i) hs c λl c r=>k ((sg ρ b i,cs)::l) c (d++r)) none) bs
abbrev ZRy (N:Nat)(l:List (Nat×List CV)):List ((Nat×Nat)×CV)->List (Nat×Nat)->(List ((Nat×Nat)×CV)->List (Nat×Nat)->Option β)->Option β:=List.rec (λo z k=>k o z) (λp _ i o z k=>ZIQ p.1 p.2 0 o λo=>Bool.rec (i o z k) (i o ((p.1,p.2.length)::z) k) (Nat.ble N p.1)) l
def rowIx (ps:List Pt):List Nat:=List.rec [] (λp _ a=>match p with| .d _ w=>List.rec a (λq _ a=>q.2.1::a) w| .bor _ i _=>i::a|_=>a) ps
def rowIB (bs:List Bp):List Nat:=List.rec [] (λb _ i=>match b with| .cells _ ps=>rowIx ps++i| .row=>i) bs
def okSp (S:Sp):Bool:=allB (λk=>match S.bs[k]? with|some (.cells _ _)=>false|_=>true) (rowIx S.vs++rowIB S.bs)
def PS.bu (s:PS)(ρ:Rho)(S:Sp)(hs:List HV)(k:List CV->PS->Option β):Option β:=bb (okSp S) (buL ρ s.n S.vs hs s.c λcs hs c b=>QD cs λcs=>buB ρ s.n S.bs 0 hs c λd c a=>match s with
 |⟨N,l,o,z,n,f,_,r⟩=>ZRy n d o z λo z=>k cs ⟨N,l,o,z,n+S.bs.length,f,c,b++(a++r)⟩) none
abbrev JO (l:List Nat):PS->(PS->Option β)->Option β:=List.rec (λs k=>k s) (λj _ i s k=>match ZG s.r j with|some (.own t _ m)=>(match s with|⟨N,l,o,z,n,f,c,r⟩=>i ⟨N,l,o,z,n,f,c,(j,.pub t m)::r⟩ k)|some (.mrk _ m)=>(match s with|⟨N,l,o,z,n,f,c,r⟩=>i ⟨N,l,o,z,n,f,c,(j,.pub .w8 m)::r⟩ k)|_=>i s k) l
def VU (s:PS)(a:Nat):Bool:=match ZG s.r a with|some (.own _ _ _)=>true|_=>false
abbrev Jj (ρ:Rho)(bs:List Bp):Nat->PS->(PS->Option β)->Option β:=List.rec (λ_ s k=>k s) (λb _ d i s k=>match b,ZG ρ i with
 | .row,some (some a)=>bb (VU s a) (match s with|⟨N,l,o,z,n,f,c,r⟩=>d (Nat.succ i) ⟨N,l,o,z,n,f,c,(a,.dead)::r⟩ k) none
 | .cells n _,some (some a)=>bb (Bool.and (Nat.ble 1 n) (match ZG s.z a with|some m=>Nat.beq m n|none=>false)) (d (Nat.succ i) s k) none
 | .cells _ _,_=>none
 |_,_=>d (Nat.succ i) s k) bs
def okIO (i:List Bp):List Bp->Bool:=List.rec (λ_=>true) (λb _ a o=>match b,o with
 | .row,.row::o=>a o
 | .cells n _,.cells m _::o=>Bool.and (Nat.beq m n) (a o)
 |_,_=>false) i
def callK (s:PS)(cs:List CV)(k:List CV->PS->Option β)(l:List Spec):Option β:=List.rec none (λS _ a=>Option.rec a (λq=>JO q.2.2 s λs=>toVH (hyS S.i) q.1 λx=>Option.bind (S.f x) λy=>Jj q.2.1 S.i.bs 0 s λs=>s.bu q.2.1 S.o (ofVH (hyS S.o) y) k)
 (mtS s S.i cs [] λhs ρ js=>bb (Bool.and (okIO S.i.bs S.o.bs) (allB (λp=>Nat.blt p.1 S.i.bs.length) ρ)) (some (hs,ρ,js)) none)) l
def callS (X:Env)(s:PS)(d:Nat)(f:Nat)(cs:List CV)(k:PS->Option β):Option β:=callK s cs (λus s=>s.put d (packC us) k) (X.sp f)
def elOk (P:Program)(T:Nat)(t:Ty):Bool:=match P.underlying T with|some (.slice e)=>(match ZC P e with|some (_,n)=>Nat.beq n (szY t)|none=>false)|_=>false
def isMem (P:Program)(o:Op):Bool:=match o with| .load _ _=>true| .convert _ T _=>(match P.underlying T with|some .string=>true|_=>false)|_=>false
abbrev oLo (s:PS)(o:Option Operand)(n:Int)(k:Int->Option β):Option β:=match o with|none=>k n|some o=>ev s o λc=>oIx c k
def sameP (a b:Operand):Bool:=match a,b with| .tmp t,.tmp u=>Nat.beq t u| .const (.int .i64 m),.const (.int .i64 n)=>eqI m n|_,_=>false
def sameO (a b:Option Operand):Bool:=match a,b with|some a,some b=>sameP a b|_,_=>false
def isZ (o:Option Operand):Bool:=match o with|none=>true|some (.const (.int _ n))=>eqI n 0|_=>false
def slOk (P:Program)(T:Nat):Bool:=match P.underlying T with|some (.slice e)=>(match ZC P e with|some _=>true|none=>false)|_=>false
abbrev slcL (X:Env)(s:PS)(T:Nat)(t:Ty)(m:List (den t))(lo hi mx:Option Operand)(k:CV->Option β):Option β:=bb (Bool.and (elOk X.P T t) (match mx,hi with|some _,none=>false|_,_=>true)) (oLo s lo 0 λa=>oLo s hi (m.length:Int) λb=>(λr=>match mx with|none=>r|some o=>Bool.rec (ev s o λc=>oIx c λc=>chk (b=c) r) r (sameO hi mx)) (Ow.slc m a b λy=>match mx with|none=>k (.sl t y)|some _=>k (.cl t y))) none
abbrev rvS (X:Env)(s:PS)(T:Nat)(x:CV)(lo:Option Operand)(k:CV->Option β):Option β:=match x with
 | .row j=>(match ZG s.r j with|some (.own t _ m)=>bb (elOk X.P T t) (oLo s lo 0 λa=>chk (0<=a/\a<=(m.length:Int)) (k (.rv t j a))) none|_=>none)
 |_=>none
def isZ0 (o:Option Operand):Bool:=match o with|some (.const (.int _ n))=>eqI n 0|_=>false
def zz (lo hi mx:Option Operand):Bool:=Bool.and (isZ lo) (Bool.and (isZ0 hi) (isZ0 mx))
abbrev loN (lo:Option Operand)(k:Nat->Option β):Option β:=match lo with|none=>k 0|some (.const (.int _ n))=>Int.rec (λj=>k j) (λ_=>none) n|_=>none
abbrev svP (P:Program)(T a o:Nat)(lo hi mx:Option Operand)(k:CV->Option β):Option β:=match P.underlying T,hi,mx with
 |some (.array N e),none,none=>(match ZC P e with|some (_,1)=>loN lo λq=>bb (Nat.blt q N) (k (.sv a (o+q) (N-q))) none|_=>none)
 |_,_,_=>none
abbrev slcC (X:Env)(s:PS)(T:Nat)(x:CV)(lo hi mx:Option Operand)(k:CV->Option β):Option β:=match x with
 | .sl t m=>slcL X s T t m lo hi mx k
 | .cl t m=>slcL X s T t m lo hi mx k
 | .ptr a o=>svP X.P T a o lo hi mx k
 | .row j=>(match hi,mx with|none,none=>rvS X s T (.row j) lo k|hi,mx=>bb (zz lo hi mx) (match ZG s.r j with|some (.own t _ _)=>bb (elOk X.P T t) (k (.cl t [])) none|_=>none) none)
 | .nils=>bb (Bool.and (slOk X.P T) (Bool.and (isZ lo) (Bool.and (isZ hi) (match mx with|none=>true|some _=>false)))) (k .nils) none
 |_=>none
abbrev mnC (x y:CV)(k:CV->Option β):Option β:=oI x λm=>oI y λn=>k (.i (min m n))
abbrev mxC (x y:CV)(k:CV->Option β):Option β:=match x with
 | .w8 m=>(match y with| .w8 n=>k (.w8 (maxB m n))|_=>none)
 |x=>oI x λm=>oI y λn=>k (.i (max m n))
abbrev lenR (X:Env)(s:PS)(ts:Array TypeId)(c:CV)(k:CV->Option β):Option β:=match c with
 | .row j=>(match ZG s.r j with|some (.own _ _ m)=>bb (isSl X.P ts) (k (.ln m.length)) none|_=>none)
 | .rv t j g=>(match ZG s.r j with|some (.own u _ m)=>bb (Bool.and (eqT t u) (isSl X.P ts)) (k (.i ((m.length:Int)-g))) none|_=>none)
 |c=>lenC X.P ts c k
abbrev bltC (X:Env)(s:PS)(b:Builtin)(as:List Operand)(ts:Array TypeId)(k:CV->Option β):Option β:=match as with
 |[x]=>(match b with| .len=>ev s x λx=>lenR X s ts x k|_=>none)
 |[x,y]=>(match b with| .min=>ev s x λx=>ev s y λy=>mnC x y k| .max=>ev s x λx=>ev s y λy=>mxC x y k|_=>none)
 |_=>none
def tyU (P:Program)(tb:List (Nat×Ty)):Nat->Nat->Option Ty:=Nat.rec (λ_=>none) (λ_ a E=>match ZG tb E with
  |some t=>some t
  | none=>(match P.underlying E with
    |some (.int .i64)=>some .i
    |some (.int .u8)=>some .w8
    |some (.int .u32)=>some .w32
    |some (.int .u64)=>some .w64
    |some .bool=>some .b
    |some .string=>some .s
    |some (.slice e)=>Option.rec none (λt=>some (.sl t)) (a e)
    |_=>none))
abbrev oDl (t:Ty)(l:List CV):(List (den t)->Option β)->Option β:=List.rec (λk=>k []) (λc _ i k=>oD t c λx=>i λr=>k (x::r)) l
def idxOk (l:List (Nat×CV)):Nat->Bool:=List.rec (λ_=>true) (λp _ a i=>Bool.rec false (a (Nat.succ i)) (Nat.beq p.1 i)) l
def snds (l:List (Nat×CV)):List CV:=List.rec [] (λp _ i=>p.2::i) l
abbrev drf (c:CV)(k:CV->Option β):Option β:=match c with
 | .oel t x=>Option.bind x λy=>k (.el t y 0)
 | .orel t i x=>Option.bind x λg=>k (.rel t i g 0)
 |c=>k c
abbrev ldR (P:Program)(s:PS)(T:Nat)(t:Ty)(j:Nat)(g:Int)(o:Nat)(k:CV->Option β):Option β:=match ZG s.r j with
 |some (.own u E m)=>bb (eqT t u) (idx m g λy=>ldE P T (spC u y) o k) none
 |_=>none
def ixA (P:Program)(T:Nat)(n:Int)(k:Nat->Option β):Option β:=match P.underlying T with|some (.array m e)=>(match ZC P e with|some (_,s)=>Int.rec (λj=>bb (Nat.blt j m) (k (j*s)) none) (λ_=>none) n|none=>none)|_=>none
def arT (t:Ty)(n:Nat):Ty:=Nat.rec t (λ_ i=>.pr t i) n
def arV (t:Ty)(m:List (den t))(n:Nat):Int->(den (arT t n)->Option β)->Option β:=Nat.rec (motive:=λn=>Int->(den (arT t n)->Option β)->Option β) (λi k=>idx m i k) (λ_ a i k=>idx m i λy=>a (i+1) λz=>k (y,z)) n
def s2aC (P:Program)(T:Nat)(t:Ty)(m:List (den t))(k:CV->Option β):Option β:=match P.underlying T with
 |some (.array N e)=>(match N,ZC P e with|n+1,some (_,s)=>bb (Nat.beq s (szY t)) (arV t m n 0 λz=>k (.el (arT t n) z 0)) none|_,_=>none)
 |_=>none
def pvl (X:Env)(s:PS)(o:Op)(k:CV->Option β):Option β:=match o with
  | .move x=>ev s x k
  | .assign x=>ev s x k
  | .nilCheck x=>ev s x λc=>drf c λc=>(match c with| .ptr a o=>k (.ptr a o)| .el t x o=>k (.el t x o)| .rel t j g o=>k (.rel t j g o)|_=>none)
  | .pick c a b=>ev s c λc=>oBo c λc=>cond c (ev s a k) (ev s b k)
  | .binOp op T x y _=>ev s x λx=>ev s y λy=>bop X s op T x y k
  | .unOp op _ x=>ev s x λx=>(match op,x with| .not,.b t=>k (.b (!t))| .not,.bc _ m n=>k (.b (!decide ((m:Int)<(n:Int))))| .neg,.i n=>k (.i (Ow.w64 (-n)))|_,_=>none)
  | .convert S T x=>ev s x λx=>cvO X S T x k
  | .extract x i=>ev s x λx=>(match x with| .tu l=>oB l[i]? k|_=>none)
  | .index T x i=>ev s x λx=>ev s i λi=>(match x,i with
    | .ag l,.i n=>(match X.P.underlying T with
      |some (.array m e)=>(match ZC X.P e with|some (false,1)=>Int.rec (λj=>bb (Nat.blt j m) (oB l[j]? λc=>fC c k) none) (λ_=>none) n|_=>none)
      |_=>none)
    |_,_=>none)
  | .fieldAddr T x i=>ev s x λx=>drf x λx=>oB (XG X.P T i) λq=>(match x with| .ptr a o=>k (.ptr a (o+q))| .el t y o=>k (.el t y (o+q))| .rel t j g o=>k (.rel t j g (o+q))|_=>none)
  | .load T x=>ev s x λx=>drf x λx=>(match x with
    | .ptr a o=>ldO X.P s T a o k
    | .el t y o=>ldE X.P T (spC t y) o k
    | .rel t j g o=>ldR X.P s T t j g o k
    |_=>none)
  | .makeFunc (.func f) fs cs=>evL s fs.toList λfs=>evL s cs.toList λcs=>bb (Bool.and (allB oneC fs) (allB oneC cs)) (k (.clo f fs cs)) none
  | .indexAddr T x i=>ev s x λx=>ev s i λi=>(match x with
    | .sl t m=>bb (elOk X.P T t) (oIx i λg=>idx m g λy=>k (.el t y 0)) none
    | .cl t m=>bb (elOk X.P T t) (oIx i λg=>idx m g λy=>k (.el t y 0)) none
    | .rv t j d=>(match ZG s.r j with|some (.own u _ m)=>bb (Bool.and (eqT t u) (elOk X.P T t)) (oIx i λg=>chk (0<=g/\g<(m.length:Int)-d) (k (.rel t j (d+g) 0))) none|_=>none)
    | .sv j o n=>(match i with| .i i=>(match X.P.underlying T with|some (.slice e)=>(match ZC X.P e with|some (_,1)=>Int.rec (λq=>bb (Nat.blt q n) (k (.ptr j (o+q))) none) (λ_=>none) i|_=>none)|_=>none)| .n _ i=>(match X.P.underlying T with|some (.slice e)=>(match ZC X.P e with|some (_,1)=>bb (Nat.blt i n) (k (.ptr j (o+i))) none|_=>none)|_=>none)|_=>none)
    | .row j=>(match ZG s.r j with|some (.own t _ m)=>bb (elOk X.P T t) (oIx i λg=>chk (0<=g/\g.toNat<m.length) (k (.rel t j g 0))) none|_=>none)
    | .ptr a o=>(match i with| .i n=>ixA X.P T n λq=>k (.ptr a (o+q))|_=>none)
    |_=>none)
  | .build T ps=>evP s ps.toList λl=>zC X.P T λz=>oB (match X.P.underlying T with|some (.array n _)=>ZJ9 X.P T n|_=>KI X.P T) λh=>bb (allB (λp=>Bool.or (allB oneC (XH p.2)) (match p.2 with| .ag _=>true|_=>false)) l) (bldL h z l λc=>k (.ag c)) none
  | .call ⟨.builtin b,as,ts⟩=>bltC X s b as.toList ts k
  | .slice T x lo hi mx=>ev s x λx=>slcC X s T x lo hi mx k
  | .sliceToArrayPointer T x=>ev s x λx=>(match x with| .sl t m=>s2aC X.P T t m k| .cl t m=>s2aC X.P T t m k| .sv a o n=>(match X.P.underlying T with|some (.array N e)=>bb (Nat.ble N n) (k (.ptr a o)) none|_=>none)|_=>none)
  |_=>none
abbrev ntC (n:NK)(cs:List CV)(k:CV->Option β):Option β:=match cs with
 |[x,.w8 c]=>oSl .w8 x λm=>(match n with| .count=>k (.i ((Ow.cntB m c:Nat):Int))| .index=>k (.i (Lib.indexByte m c)))
 |_=>none
def pop (X:Env)(s:PS)(d:Nat)(o:Op)(k:PS->Option β):Option β:=match o with
 | .binOp op T x y u=>ev s x λa=>ev s y λb=>bb (isInc s op a b) (incr s d a k) (pvl X s (.binOp op T x y u) λc=>s.put d c k)
 | .box T x=>ev s x λx=>(λl=>bb (allB oneC l) (s.new d l k) none) (XH x)
 | .alloc T=>zC X.P T λz=>s.new d z k
 | .call ⟨.value f,as,_⟩=>ev s f λf=>evL s as.toList λas=>(match f with| .fn f=>(match ZG X.nt f with|some n=>ntC n as λc=>s.put d c k|none=>callS X s d f as k)| .clo f l m=>callS X s d f (l++(as++m)) k|_=>none)
 |o=>pvl X s o λc=>s.put d c k
def pst (X:Env)(s:PS)(o:Op)(k:PS->Option β):Option β:=match o with
  | .store T x y=>ev s x λx=>ev s y λy=>(match x with
    | .ptr a o=>(λl=>match ZC X.P T with|some (_,n)=>bb (Bool.and (Nat.ble 1 n) (Bool.and (Nat.beq l.length n) (allB oneC l))) (s.sto a o l k) none|none=>none) (XH y)
    |_=>none)
  |_=>none
def rowsV (l:List CV):List Nat:=List.rec [] (λc _ i=>match c with| .row j=>j::i|_=>i) l
def ownO (s:PS)(o:Operand):List Nat:=match o with| .tmp t=>(match ZG s.l t with|some c=>rowsV (XH c)|none=> [])|_=> []
def ownL (s:PS)(l:List Operand):List Nat:=List.rec [] (λo _ i=>ownO s o++i) l
abbrev pubL (l:List Operand)(s:PS)(k:PS->Option β):Option β:=JO (ownL s l) s k
def sndL (l:List (Nat×Operand)):List Operand:=List.rec [] (λp _ i=>p.2::i) l
def wants (s:PS)(o:Op):List Operand:=match o with
 | .call ⟨.builtin b,⟨[_,y]⟩,_⟩=>(match b with| .append=> []| .copy=> []|_=> [y])
 | .slice _ x lo hi mx=>Bool.rec [x] [] (zz lo hi mx)
 | .convert _ _ x=> [x]
 | .sliceToArrayPointer _ x=> [x]
 | .buildSlice _ _ ps=>sndL ps.toList
 | .store _ (.tmp t) y=>(match ZG s.l t with|some (.rel _ _ _ _)=> [y]|some (.orel _ _ _)=> [y]|_=> [])
 |_=> []
abbrev hbO (X:Env)(d:Option Nat):Bool:=match d with|some d=>QF X.hb d|none=>false
def GB (X:Env)(s:PS)(l:List Oper):List Operand:=List.rec [] (λo _ i=>Bool.rec (wants s o.op) [] (hbO X o.dst)++i) l
abbrev PS.mrow (s:PS)(d:Nat)(E:Nat)(m:List UInt8)(k:PS->Option β):Option β:=match s with|⟨N,l,o,z,n,f,c,r⟩=>PS.put ⟨N,l,o,z,Nat.succ n,f,c,(n,.mrk E m)::r⟩ d (.row n) k
abbrev PS.row (s:PS)(d:Nat)(t:Ty)(E:Nat)(m:List (den t))(k:PS->Option β):Option β:=match s with|⟨N,l,o,z,n,f,c,r⟩=>PS.put ⟨N,l,o,z,Nat.succ n,f,c,(n,.own t E m)::r⟩ d (.row n) k
def PS.kill (s:PS)(j:Nat):PS:=match s with|⟨N,l,o,z,n,f,c,r⟩=>⟨N,l,o,z,n,f,c,(j,.dead)::r⟩
abbrev ZNC (s:PS)(P:Program)(U:Nat)(t:Ty)(b:CV)(k:List (den t)->Option β):Option β:=match P.underlying U with
 |some (.slice _)=>(match b with| .sl u m=>cast (.sl u) (.sl t) m k| .cl u m=>cast (.sl u) (.sl t) m k| .nils=>k []| .row j=>(match ZG s.r j with|some (.own u _ m)=>cast (.sl u) (.sl t) m k|_=>none)| .sv j o n=>(match n with|n'+1=>bb (Nat.beq (szY t) 1) (ldN s j (n'+1) o λcs=>bb (allB oneC cs) (oDl t cs k) none) none|_=>none)|_=>none)
 |some .string=>(match b with| .s m=>cast (.sl .w8) (.sl t) m k|_=>none)
 |_=>none
def appS (X:Env)(s:PS)(d T U:Nat)(a b:CV)(k:PS->Option β):Option β:=match X.P.underlying T with
  | some (.slice E)=>(match eInfo X.P E with
    | some (_,e,bt)=>bb (Nat.ble bt 128) (match a with
      | .row j=>(match ZG s.r j with
        |some (.own t f m)=>bb (Bool.and (Nat.beq f E) (Nat.beq e (szY t))) (ZNC s X.P U t b λc=>app m c λq=>(s.kill j).row d t E q k) none
        |some (.mrk f m)=>bb (Bool.and (Nat.beq f E) (Nat.beq e 1)) (ZNC s X.P U .w8 b λc=>app m c λq=>(s.kill j).mrow d E q k) none
        |_=>none)
      | .cl t m=>bb (Nat.beq e (szY t)) (ZNC s X.P U t b λc=>chk (0<c.length) (app m c λq=>s.row d t E q k)) none
      | .sv j o n=>(match tyU X.P X.ty 4 E,n with|some t,g+1=>bb (Bool.and (Nat.beq e (szY t)) (Nat.beq (szY t) 1)) (ldN s j (g+1) o λcs=>bb (allB oneC cs) (oDl t cs λm=>ZNC s X.P U t b λc=>chk (0<c.length) (app m c λq=>s.row d t E q k)) none) none|_,_=>none)
      | .nils=>(match tyU X.P X.ty 4 E with|some t=>bb (Nat.beq e (szY t)) (ZNC s X.P U t b λc=>app [] c λq=>s.row d t E q k) none|none=>none)
      |_=>none) none
    |none=>none)
  |_=>none
abbrev zrL (z:Value)(t:Ty)(b:CV)(k:List (den t)->Option β):Option β:=vCs z.cells.toList λa=>oT t a λy=>oI b λn=>mks n y k
def appZ (X:Env)(s:PS)(d T:Nat)(a b:CV)(k:PS->Option β):Option β:=match X.P.underlying T with
  | some (.slice E)=>(match eInfo X.P E with
    | some (z,e,bt)=>bb (Nat.ble bt 128) (match a with
      | .row j=>(match ZG s.r j with
        |some (.own t f m)=>bb (Bool.and (Nat.beq f E) (Nat.beq e (szY t))) (zrL z t b λc=>app m c λq=>(s.kill j).row d t E q k) none
        |_=>none)
      | .cl t m=>bb (Nat.beq e (szY t)) (zrL z t b λc=>chk (0<c.length) (app m c λq=>s.row d t E q k)) none
      | .nils=>(match tyU X.P X.ty 4 E with|some t=>bb (Nat.beq e (szY t)) (zrL z t b λc=>app [] c λq=>s.row d t E q k) none|none=>none)
      |_=>none) none
    |none=>none)
  |_=>none
def bslR (X:Env)(s:PS)(d T n:Nat)(l:List (Nat×CV))(k:PS->Option β):Option β:=match X.P.underlying T with
  | some (.slice E)=>(match eInfo X.P E with
    | some (_,a,_)=>(match tyU X.P X.ty 4 E with
      |some t=>bb (Bool.and (Nat.beq a (szY t)) (Bool.and (idxOk l 0) (Bool.and (Nat.beq l.length n) (Nat.ble (n*a) 16777216)))) (oDl t (snds l) λm=>s.row d t E m k) none
      |none=>none)
    |none=>none)
  |_=>none
def mkS (X:Env)(s:PS)(d T:Nat)(c:CV)(k:PS->Option β):Option β:=match X.P.underlying T with
  | some (.slice E)=>(match eInfo X.P E with
    | some (z,a,bt)=>(match tyU X.P X.ty 4 E with
      |some t=>bb (Bool.and (Nat.beq a (szY t)) (Nat.ble bt 128)) (vCs z.cells.toList λb=>oT t b λy=>oIx c λn=>mks n y λm=>s.row d t E m k) none
      |none=>none)
    |none=>none)
  |_=>none
abbrev ZQc (s:PS)(t:Ty)(b:CV)(k:List (den t)->Option β):Option β:=match b with| .row j=>(match ZG s.r j with|some (.own u _ m)=>cast (.sl u) (.sl t) m k|_=>none)| .sl u m=>cast (.sl u) (.sl t) m k| .cl u m=>cast (.sl u) (.sl t) m k| .nils=>k []|_=>none
def copS (X:Env)(s:PS)(d T U:Nat)(a b:CV)(k:PS->Option β):Option β:=match a with
  | .row j=>(match ZG s.r j with
    |some (.own t E m)=>bb (elOk X.P T t) (ZQc s t b λe=>cpyO m 0 (m.length:Int) e λq=>match s with|⟨N,l,o,z,n,f,c,r⟩=>PS.put ⟨N,l,o,z,n,f,c,(j,.own t E q)::r⟩ d (.i (min (e.length:Int) ((m.length:Int)-0))) k) none
    |_=>none)
  | .rv u j g=>(match ZG s.r j with
    |some (.own t E m)=>bb (Bool.and (eqT u t) (elOk X.P T t)) (ZQc s t b λe=>cpyO m g (m.length:Int) e λq=>match s with|⟨N,l,o,z,n,f,c,r⟩=>PS.put ⟨N,l,o,z,n,f,c,(j,.own t E q)::r⟩ d (.i (min (e.length:Int) ((m.length:Int)-g))) k) none
    |_=>none)
  | .sv j o n=>(match X.P.underlying T with
    | some (.slice E)=>(match ZC X.P E,tyU X.P X.ty 4 E,n with
      |some (_,1),some t,h+1=>bb (Nat.beq (szY t) 1) (ldN s j (h+1) o λcs=>bb (allB oneC cs) (oDl t cs λm=>ZQc s t b λe=>cpyO m 0 ((h+1:Nat):Int) e λq=>arV t q h 0 λz=>s.sto j o (spC (arT t h) z) λs=>s.put d (.i (min (e.length:Int) ((h+1:Nat):Int))) k) none) none
      |_,_,_=>none)
    |_=>none)
  |_=>none
def pvS (X:Env)(s:PS)(d T:Nat)(x:CV)(hi mx:Option Operand)(k:PS->Option β):Option β:=match x with
  | .row j=>(match ZG s.r j with
    |some (.own t E m)=>bb (Bool.and (elOk X.P T t) (match mx with|none=>true|some _=>sameO hi mx)) (oLo s hi (m.length:Int) λb=>chk (0<=b/\b<=(m.length:Int)) ((s.kill j).row d t E (m.take b.toNat) k)) none
    |_=>none)
  |_=>none
def svS (X:Env)(s:PS)(d T n:Nat)(l:List (Nat×CV))(k:PS->Option β):Option β:=match X.P.underlying T with
  | some (.slice E)=>(match eInfo X.P E with
    |some (_,1,_)=>bb (Bool.and (allB oneC (snds l)) (Bool.and (idxOk l 0) (Bool.and (Nat.beq l.length n) (Bool.and (Nat.ble 1 n) (Nat.ble n 16777216))))) (match s with|⟨N,ls,o,z,a,f,c,r⟩=>ZIQ a (snds l) 0 o λo=>PS.put ⟨N,ls,o,(a,n)::z,Nat.succ a,f,c,r⟩ d (.sv a 0 n) k) none
    |_=>none)
  |_=>none
abbrev ZOi (P:Program)(S T:Nat):Bool:=match P.underlying S,P.underlying T with|some .string,some (.slice e)=>(match P.underlying e with|some (.int .u8)=>true|_=>false)|_,_=>false
abbrev ZRL (P:Program)(S T:Nat):Bool:=match P.underlying T with|some (.slice e)=>(match P.underlying e with|some (.int .u8)=>Nat.beq S T|_=>false)|_=>false
def elT (P:Program)(T:Nat):Nat:=match P.underlying T with|some (.slice e)=>e|_=>0
def cvS (X:Env)(s:PS)(d S T:Nat)(x:CV)(k:PS->Option β)(e:Option β):Option β:=match x with
  | .s m=>bb (ZOi X.P S T) (chk (m.length<=LIM) (s.mrow d (elT X.P T) m k)) e
  | .row j=>(match ZG s.r j with
    |some (.own t E m)=>bb (ZRL X.P S T) (cast (.sl t) (.sl .w8) m λm=>chk (0<m.length) ((s.kill j).mrow d E m k)) none
    |_=>none)
  |_=>e
def popR (X:Env)(s:PS)(d:Nat)(o:Op)(k:PS->Option β):Option β:=match o with
 | .call ⟨.builtin .append,⟨[x,y]⟩,⟨[T,U]⟩⟩=>ev s x λa=>ev s y λb=>Bool.rec (appS X s d T U a b k) (appZ X s d T a b k) (isInt X.P U)
 | .call ⟨.builtin .copy,⟨[x,y]⟩,⟨[T,U]⟩⟩=>ev s x λa=>ev s y λb=>copS X s d T U a b k
 | .buildSlice T n ps=>evP s ps.toList λl=>bb (QF X.hb d) (svS X s d T n l k) (bslR X s d T n l k)
 | .makeSlice T p q=>bb (sameP p q) (ev s p λc=>mkS X s d T c k) none
 | .slice T x lo hi mx=>bb (QF X.hb d) (match hi,mx,lo with|none,none,lo=>ev s x λx=>rvS X s T x lo λc=>s.put d c k|some hi,mx,none=>ev s x λx=>pvS X s d T x (some hi) mx k|_,_,_=>none) (pop X s d (.slice T x lo hi mx) k)
 | .convert S T x=>ev s x λc=>cvS X s d S T c k (pop X s d (.convert S T x) k)
 |o=>pop X s d o k
abbrev PS.setR (s:PS)(j:Nat)(c:RC)(k:PS->Option β):Option β:=match s with|⟨N,l,o,z,n,f,q,r⟩=>k ⟨N,l,o,z,n,f,q,(j,c)::r⟩
def stR (X:Env)(s:PS)(T:Nat)(t:Ty)(j:Nat)(g:Int)(o:Nat)(l:List CV)(k:PS->Option β):Option β:=match ZG s.r j with
  | some (.own u E m)=>(match ZC X.P T with
    | some (_,n)=>bb (Bool.and (eqT t u) (Bool.and (Nat.beq l.length n) (Nat.ble (o+n) (szY u))))
      (Bool.rec (idx m g λy=>oT u (layL (spC u y) o l) λz=>setI m g z λm=>s.setR j (.own u E m) k)
        (oT u l λz=>setI m g z λm=>s.setR j (.own u E m) k) (Bool.and (Nat.beq o 0) (Nat.beq n (szY u)))) none
    |none=>none)
  |_=>none
def clrS (X:Env)(s:PS)(T:Nat)(a:CV)(k:PS->Option β):Option β:=match a with
  | .rv u j g=>(match ZG s.r j with
    | some (.own t E m)=>(match X.P.underlying T with
      | some (.slice b)=>(match eInfo X.P b with
        |some (z,c,_)=>bb (Bool.and (eqT u t) (Bool.and (Nat.beq b E) (Nat.beq c (szY t)))) (vCs z.cells.toList λd=>oT t d λy=>s.setR j (.own t E (Ow.clr m g.toNat m.length y)) k) none
        |none=>none)
      |_=>none)
    |_=>none)
  |_=>none
def pstR (X:Env)(s:PS)(o:Op)(k:PS->Option β):Option β:=match o with
  | .store T x y=>ev s x λa=>drf a λa=>(match a with
    | .rel t j g o=>ev s y λb=>bb (allB oneC (XH b)) (rsvD s (XH b) λl=>stR X s T t j g o l k) none
    |_=>pst X s (.store T x y) k)
  | .call ⟨.builtin .clear,⟨[x]⟩,⟨[T]⟩⟩=>ev s x λa=>clrS X s T a k
  |o=>pst X s o k
def popD (X:Env)(s:PS)(d:Option Nat)(o:Op)(k:PS->Option β):Option β:=pubL (Bool.rec (wants s o) [] (hbO X d)) s λs=>match d with|some d=>popR X s d o k|none=>pstR X s o k
abbrev skp (s:PS)(d:Option Nat)(k:PS->Option β):Option β:=match d with|some d=>s.put d .und k|none=>none
abbrev flag (s:PS)(t:Nat)(c:CV)(b:Bool)(k:PS->Option β):Option β:=match c,s with
 | .bc i _ _,⟨N,l,o,z,n,f,q,r⟩=>Bool.rec (k ⟨N,(t,.b false)::l,o,z,n,f,q,r⟩) (k ⟨N,(t,.b true)::l,o,z,n,i::f,q,r⟩) b
 |_,⟨N,l,o,z,n,f,q,r⟩=>k ⟨N,(t,.b b)::l,o,z,n,f,q,r⟩
def gop (X:Env)(ops:List Oper)(s:PS)(o:Oper)(k:PS->Option β):Option β:=match o.guard with
  |none=>popD X s o.dst o.op k
  | some (g,b)=>oB (oB ops[g]? λq=>q.dst) λt=>oB (ZG s.l t) λc=>(match c with
    | .und=>skp s o.dst k
    |c=>oBo c λe=>cond e (flag s t c true λs=>Bool.rec (skp s o.dst k) (popD X s o.dst o.op k) b) (flag s t c false λs=>Bool.rec (popD X s o.dst o.op k) (skp s o.dst k) b))
def pops (X:Env)(ops:List Oper)(l:List Oper):PS->(PS->Option β)->Option β:=List.rec (λs k=>k s) (λo _ i s k=>gop X ops s o λs=>i s k) l
def old1 (c:CV):CV:=match c with| .i n=>.i n| .ln j=>.ln j| .w8 x=>.w8 x| .w32 x=>.w32 x| .w64 x=>.w64 x| .b x=>.b x| .s l=>.s l| .nils=>.nils| .nilp=>.nilp| .nili=>.nili| .fn f=>.fn f| .und=>.und|_=>.any
def mapC (l:List CV):List CV:=List.rec [] (λc _ i=>old1 c::i) l
def oldC (c:CV):CV:=match c with| .tu l=>.tu (mapC l)|c=>old1 c
def full1 (c:CV):Bool:=match c with| .any=>false| .unk=>false|_=>true
def fullC (c:CV):Bool:=match c with| .tu l=>allB full1 l| .ag l=>allB full1 l|c=>full1 c
def allQ (q:PS)(l:List Operand):Bool:=allB (λo=>match o with| .tmp t=>(match ZG q.l t with|some c=>fullC c|none=>false)|_=>true) l
def ZUv (o:Op):Bool:=match o with
 | .move _=>true| .assign _=>true| .nilCheck _=>true| .pick _ _ _=>true| .binOp _ _ _ _ _=>true| .unOp _ _ _=>true| .convert _ _ _=>true| .extract _ _=>true| .fieldAddr _ _ _=>true| .load _ _=>true| .indexAddr _ _ _=>true| .build _ _=>true| .slice _ _ _ _ _=>true| .index _ _ _=>true| .sliceToArrayPointer _ _=>true
 | .call ⟨.builtin b,_,_⟩=>(match b with| .len=>true| .min=>true| .max=>true|_=>false)
 |_=>false
def gtmp (ops:Array Oper)(o:Oper):Option (Nat×Bool):=match o.guard with|none=>none|some (g,b)=>oB (oB ops[g]? λq=>q.dst) λt=>some (t,b)
def gno (ops:Array Oper)(s:PS)(k:List (Nat×Bool))(o:Oper):Bool:=match gtmp ops o with
 |none=>false
 |some (t,b)=>(match ZG s.l t with|some .und=>true|some _=>(match ZG k t with|some a=> !(a==b)|none=>false)|none=>false)
def descL (a:Array Bool)(i:Nat)(l:List Oper):Nat->List Nat->List Nat:=List.rec (λ_ D=>D) (λo _ b j D=>b (Nat.succ j) (Bool.rec D (j::D) (Bool.and (!(a.getD j true)) (o.after.any λe=>Region.binds .any e&&(e.on==i ||D.contains e.on))))) l
def descD (ops:Array Oper)(T:List Nat)(l:Array Bool)(i:Nat):List Nat:=match T with|[]=> []|_::_=>descL l i ops.toList 0 []
def ZAQ (ops:Array Oper)(T:List Nat)(l:Array Bool)(i:Nat):Bool:=(λD=>Bool.and (T.all λt=>D.contains t) (hangs .any ops i D l)) (descD ops T l i)
def wk1 (c:CV):CV:=match c with| .rv _ _ _=>.any| .sv _ _ _=>.any| .ptr _ _=>.any| .row _=>.any| .rel _ _ _ _=>.any| .orel _ _ _=>.any| .clo _ _ _=>.any| .ag _=>.any| .tu _=>.any|c=>c
def wkL (l:List (Nat×CV)):List (Nat×CV):=List.rec [] (λp _ i=>(p.1,wk1 p.2)::i) l
abbrev PS.wk (s:PS)(k:PS->Option β):Option β:=match s with|⟨N,l,_,_,_,f,c,_⟩=>QD (wkL l) λl=>k ⟨N,l,[],[],0,f,c,[]⟩
def allW (q:PS)(l:List Operand):Bool:=allB (λo=>match o with| .tmp t=>(match ZG q.l t with|some c=>fullC (wk1 c)|none=>false)|_=>true) l
def pvD (X:Env)(o:Oper):Bool:=match o.op with| .slice _ _ none (some _) _=>hbO X o.dst|_=>false
def rdOk (X:Env)(ops:Array Oper)(T:List Nat)(l:Array Bool)(s q:PS)(k:List (Nat×Bool))(i:Nat):Bool:=match ops[i]? with
 |some o=>Bool.or (gno ops s k o) (Bool.and (Bool.and (ZUv o.op) (!(pvD X o))) (Bool.or (!isMem X.P o.op) (Bool.rec (allW q o.op.operands.toList) (Bool.or (Bool.rec false true (ZAQ ops T l i)) (allW q o.op.operands.toList)) (allQ q o.op.operands.toList))))
 |none=>false
def findB (f:Nat->Bool)(l:List Nat):Option Nat:=List.rec none (λa _ i=>Bool.rec i (some a) (f a)) l
def ZEa (ops:Array Oper)(l:Array Bool)(i:Nat):Bool:=Bool.and ((Region.ready .any ops l).contains i) (Region.free .any ops l i)
def isOne (l:List Nat)(i:Nat):Bool:=match l with|[j]=>Nat.beq j i|_=>false
abbrev Dk (β:Type):=Nat->Array Bool->List (Nat×Bool)->PS->PS->Option β
def dskp (ops:Array Oper)(m:Nat)(l:Array Bool)(k:List (Nat×Bool))(s q:PS)(i:Nat)(d:Option Nat)(a:Dk β):Option β:=bb (ZEa ops l i) (match m,d with
 |m+1,some d=>s.put d .und λs=>q.lay d .und λq=>a m (l.setIfInBounds i true) k s q
 |_,_=>none) none
def newL{α:Type}(l l0:List α):List α:=l.take (l.length-l0.length)
def okN (n:Nat)(s s':PS):Bool:=Bool.and (allB (λp=>Nat.ble n p.1.1) (newL s'.o s.o)) (allB (λp=>Nat.ble n p.1) (newL s'.r s.r))
def dactE (X:Env)(ops:Array Oper)(T:List Nat)(m:Nat)(a:Array Bool)(b:List (Nat×Bool))(s q:PS)(i:Nat)(o:Oper)(e:Dk β):Option β:=popD X s o.dst o.op λs'=>(λk=>Bool.rec (bb (okN q.n s s') (k q) none) (q.wk k) (QF T i)) λq=>match o.dst with
 |some d=>oB (ZG s'.l d) λc=>q.lay d (oldC c) λq=>e m (a.setIfInBounds i true) b s' q
 |none=>e m (a.setIfInBounds i true) b s' q
def deff1 (X:Env)(ops:Array Oper)(T:List Nat)(m:Nat)(l:Array Bool)(k:List (Nat×Bool))(s q:PS)(a:Dk β)(i:Nat):Option β:=oB ops[i]? λo=>match o.guard with|none=>dactE X ops T m l k s q i o a|some _=>none
def deffL (X:Env)(ops:Array Oper)(T:List Nat)(m:Nat)(l:Array Bool)(k:List (Nat×Bool))(s q:PS)(b:Dk β)(i:Nat)(R:List Nat):Option β:=List.rec (motive:=λ_=>Nat->Option β) (λi=>deff1 X ops T m l k s q b i) (λj _ a i=>agree (deff1 X ops T m l k s q b i) (a j)) R i
def deff (X:Env)(ops:Array Oper)(T:List Nat)(m:Nat)(l:Array Bool)(k:List (Nat×Bool))(s q:PS)(a:Dk β)(i:Nat)(R:List Nat):Option β:=match m with|m+1=>deffL X ops T m l k s q a i R|_=>none
def dlk (X:Env)(m:Nat)(l:Array Bool)(k:List (Nat×Bool))(s q v:PS)(i d:Nat)(o:Op)(a:Dk β):Option β:=bb (allQ v o.operands.toList) (pvl X v o λc=>fC c λc=>s.put d c λs=>q.lay d c λq=>a m (l.setIfInBounds i true) k s q) none
def dact (X:Env)(ops:Array Oper)(T:List Nat)(m:Nat)(l:Array Bool)(k:List (Nat×Bool))(s q:PS)(i:Nat)(r:Bool)(o:Oper)(a:Dk β):Option β:=match m with
  | m + 1=>Bool.rec
    (bb (isOne (Region.ready .any ops l) i) (dactE X ops T m l k s q i o a) none)
    (bb (Bool.and (ZEa ops l i) (!(QF T i))) (match o.dst with
      | some d=>Bool.rec
        (Bool.rec (pvl X s o.op λc=>s.put d c λs'=>fC (oldC c) λc=>q.lay d c λq=>a m (l.setIfInBounds i true) k s' q) (dlk X m l k s q q i d o.op a) (allQ q o.op.operands.toList))
        (Bool.rec (q.wk λv=>dlk X m l k s q v i d o.op a) (dlk X m l k s q q i d o.op a) (Bool.and (allQ q o.op.operands.toList) (ZAQ ops T l i))) (isMem X.P o.op)
      |none=>none) none) r
  |_=>none
def dstep (X:Env)(ops:Array Oper)(T:List Nat)(m:Nat)(a:Array Bool)(k:List (Nat×Bool))(s q:PS)(i:Nat)(r:Bool)(d:Dk β):Option β:=oB ops[i]? λo=>match o.guard with
  |none=>dact X ops T m a k s q i r o d
  | some (g,b)=>oB (oB ops[g]? λq=>q.dst) λt=>oB (ZG s.l t) λc=>(match c with
    | .und=>bb (!(QF T i)) (dskp ops m a k s q i o.dst d) none
    | c=>oBo c λe=>(match ZG k t with
      |none=>cond e (flag s t c true λs=>q.lay t (.b true) λq=>d m a ((t,true)::k) s q) (flag s t c false λs=>q.lay t (.b false) λq=>d m a ((t,false)::k) s q)
      |some _=>cond e (Bool.rec (bb (!(QF T i)) (dskp ops m a k s q i o.dst d) none) (dact X ops T m a k s q i r o d) b) (Bool.rec (dact X ops T m a k s q i r o d) (bb (!(QF T i)) (dskp ops m a k s q i o.dst d) none) b)))
def pdr (X:Env)(ops:Array Oper)(T:List Nat)(k:PS->Option β)(n:Nat):Dk β:=Nat.rec (λ_ _ _ _ _=>none) (λ_ b m l a s q=>match Region.ready .any ops l with
  |[]=>k s
  | i0::R=>(match findB (rdOk X ops T l s q a) (i0::R)with
    |some i=>dstep X ops T m l a s q i true b
    |none=>(match R with|[]=>dstep X ops T m l a s q i0 false b|j::R=>deff X ops T m l a s q b i0 (j::R)))) n
def callA (l:List Oper):List Operand:=List.rec [] (λo _ i=>match o.op with| .call ⟨.value _,as,_⟩=>as.toList++i|_=>i) l
def memO (l:List Operand)(d:Option Nat):Bool:=List.rec false (λo _ i=>match o,d with| .tmp t,some d=>Bool.rec i true (Nat.beq t d)|_,_=>i) l
def mvsL (L:List Operand)(l:List Oper):List Operand:=List.rec [] (λo _ i=>match o.op with| .move x=>Bool.rec i (x::i) (memO L o.dst)|_=>i) l
def drawn (X:Env)(ops:Array Oper)(mb:Option (List Nat))(s:PS)(k:PS->Option β):Option β:=bb (Bool.and (X.P.follows .mixedOrders) (Bool.and (Region.noSelect ops) (ops.all λo=>noDefer o.op)))
 (match mb with
  |none=>pubL ((λL=>mvsL L ops.toList++L) (GB X s ops.toList++callA ops.toList)) s λs=>pdr X ops [] k (2*ops.size+1) ops.size (Array.replicate ops.size false) [] s s
  |some T=>pubL ((λL=>mvsL L ops.toList++L) (GB X s ops.toList)) s λs=>pdr X ops T k (2*ops.size+1) ops.size (Array.replicate ops.size false) [] s s) none
end
section
variable{β:Type}
def eqE (a b:Ex):Bool:=match a,b with| .norm,.norm=>true| .ret,.ret=>true| .exit i,.exit j=>Nat.beq i j|_,_=>false
def dstL (l:List Oper):List Nat:=List.rec [] (λo _ i=>Option.rec i (λd=>d::i) o.dst) l
def dstC (c:Code):List Nat:=Code.rec [] (λ_ ops _=>dstL ops.toList) (λ_ _ a b=>a++b) (λc _ _ a b=>(match c with| .tmp t=>t::(a++b)|_=>a++b)) (λ_ _ a=>a) (λ_ a=>a) (λ_ ps _ _ a b=>ps.toList++(a++b)) (λ_=> []) (λ_ a=>a) (λ_=> []) (λ_=> []) [] (λ_=> []) c
abbrev fgt (D:List Nat):PS->(PS->Option β)->Option β:=List.rec (λs k=>k s) (λt _ i s k=>Option.rec (i s k) (λ_=>s.lay t .unk λs=>i s k) (ZG s.l t)) D
abbrev fgtC (D:List (Nat×Nat)):PS->(PS->Option β)->Option β:=List.rec (λs k=>k s) (λp _ i s k=>(match s with|⟨N,l,o,z,n,f,c,r⟩=>i ⟨N,l,(p,.unk)::o,z,n,f,c,r⟩ k)) D
abbrev fgtR (D:List Nat):PS->(PS->Option β)->Option β:=List.rec (λs k=>k s) (λa _ i s k=>(match s with|⟨N,l,o,z,n,f,c,r⟩=>i ⟨N,l,o,z,n,f,c,(a,.dead)::r⟩ k)) D
def cells (a:Nat)(n:Nat):Nat->List (Nat×Nat):=Nat.rec (λ_=> []) (λ_ i o=>(a,o)::i (Nat.succ o)) n
def memP (l:List (Nat×Nat))(a o:Nat):Bool:=List.rec false (λp _ i=>Bool.rec i (Bool.rec i true (Nat.beq p.2 o)) (Nat.beq p.1 a)) l
def tsK (l:List Kx):List Nat:=List.rec [] (λp _ i=>p.ts++i) l
def okT (s s':PS)(D:List Nat):Bool:=allB (λp=>Option.rec true (λ_=>QF D p.1) (ZG s.l p.1)) (newL s'.l s.l)
def okC (s s':PS)(dc:List (Nat×Nat))(dr:List Nat):Bool:=Bool.and (allB (λp=>Bool.rec true (memP dc p.1.1 p.1.2) (Nat.blt p.1.1 s.n)) (newL s'.o s.o)) (allB (λp=>Bool.rec true (QF dr p.1) (Nat.blt p.1 s.n)) (newL s'.r s.r))
def okF (s s':PS)(dr:List Nat)(ρ:Rho)(bs:List Bp):Nat->Bool:=List.rec (motive:=λ_=>Nat->Bool) (λ_=>true) (λb _ c i=>Bool.and (match ZG ρ i with
 |some (some a)=>(match b with| .row=>Bool.rec true (Bool.and (QF dr a) (VU s' a)) (Nat.blt a s.n)| .cells _ _=>Nat.ble s.n a)
 |_=>(match b with| .row=>true| .cells _ _=>false)) (c (Nat.succ i))) bs
def okM (s s':PS)(ol:List Nat)(dr:List Nat)(S:Sp)(ρ:Rho)(js:List Nat):Bool:=Bool.and (Nat.ble S.bs.length 100) (Bool.and (allB (λj=>Bool.rec true (QF dr j) (Nat.blt j s.n)) js)
 (Bool.and (allB (λp=>Bool.or (Nat.blt p.1 S.bs.length) (Bool.and (Nat.ble 100 p.1) (Nat.blt p.1 (100+ol.length)))) ρ) (Bool.and (okF s s' dr ρ S.bs 0)
  (allB (λk=>Bool.or (Nat.blt k 100) (match ol[k-100]? with|some a=>VU s' a|none=>false)) (rowIx S.vs++rowIB S.bs)))))
abbrev ldT (s:PS)(ts:List Nat)(k:List CV->Option β):Option β:=List.rec (λk=>k []) (λt _ i k=>oB (ZG s.l t) λc=>kn c λc=>i λr=>k (c::r)) ts k
abbrev ldC (s:PS)(cs:List (Nat×Nat×Nat))(k:List CV->Option β):Option β:=List.rec (λk=>k []) (λp _ i k=>oB (ZG s.z p.1) λm=>bb (Nat.ble (p.2.1+p.2.2) m) (ldU s p.1 p.2.2 p.2.1 λl=>i λr=>k (l++r)) none) cs k
def nth (l:List Nat):Nat->Rho:=List.rec (λ_=> []) (λa _ b i=>(i,some a)::b (Nat.succ i)) l
def ZCl (l:List Nat):Bool:=List.rec true (λa r i=>Bool.rec i false (QF r a)) l
def pkK (s:PS)(D:List Nat)(dc:List (Nat×Nat))(dr:List Nat)(s':PS)(K:Kx)(k:VH (hyS K.S)->Option β):Option β:=bb (Bool.and (ZCl K.ol) (Bool.and (allB (λa=>Nat.blt a s.n) K.ol) (allB (λp=>Nat.blt p.1 s.n) K.cs))) (ldC s' K.cs λl=>ldT s' K.ts λm=>mtS s' K.S (l++m) (nth K.ol 100) λhs ρ js=>bb (Bool.and (okM s s' K.ol dr K.S ρ js) (Bool.and (okT s s' D) (okC s s' dc dr))) (toVH (hyS K.S) hs k) none) none
abbrev ZNS (ts:List Nat):List CV->PS->(PS->Option β)->Option β:=List.rec (λcs s k=>k s) (λt _ i cs s k=>match cs with|c::cs=>s.put t c λs=>i cs s k|[]=>none) ts
abbrev layC (cs:List (Nat×Nat×Nat)):List CV->PS->(List CV->PS->Option β)->Option β:=List.rec (λl s k=>k l s) (λp _ i l s k=>s.sto p.1 p.2.1 (l.take p.2.2) λs=>i (l.drop p.2.2) s k) cs
def upK (s:PS)(D:List Nat)(dc:List (Nat×Nat))(dr:List Nat)(K:Kx)(x:VH (hyS K.S))(k:PS->Option β):Option β:=fgt D s λs=>fgtC dc s λs=>fgtR dr s λs=>s.bu (nth K.ol 100) K.S (ofVH (hyS K.S) x) λus s=>layC K.cs us s λus s=>ZNS K.ts us s k
def KT (l:List Kx):Type:=List.rec Unit (λe r i=>List.rec (VH (hyS e.S)) (λ_ _ _=>VH (hyS e.S) ⊕ i) r) l
def inK (s:PS)(D:List Nat)(dc:List (Nat×Nat))(dr:List Nat)(e:Ex)(s':PS)(l:List Kx):(KT l->Option β)->Option β:=List.rec (motive:=λl=>(KT l->Option β)->Option β) (λ_=>none) (λp r i=>List.rec (motive:=λr=>((KT r->Option β)->Option β)->(KT (p::r)->Option β)->Option β)
 (λ_ k=>Bool.rec none (pkK s D dc dr s' p k) (eqE e p.e)) (λ_ _ _ i k=>Bool.rec (i λx=>k (.inr x)) (pkK s D dc dr s' p λx=>k (.inl x)) (eqE e p.e)) r i) l
def elK (s:PS)(D:List Nat)(dc:List (Nat×Nat))(dr:List Nat)(k:Ex->PS->Option β)(l:List Kx):KT l->Option β:=List.rec (motive:=λl=>KT l->Option β) (λ_=>none) (λp r i=>List.rec (motive:=λr=>(KT r->Option β)->KT (p::r)->Option β)
 (λ_ x=>upK s D dc dr p x (k p.e)) (λ_ _ _ i x=>Sum.elim (λx=>upK s D dc dr p x (k p.e)) i x) r i) l
def blkC (c:CV):Nat:=match c with| .ptr a _=>a| .row a=>a| .rel _ a _ _=>a| .orel _ a _=>a|_=>1000000
def capN (l:List CV)(n:Nat):CV:=match l[n]? with|some c=>c|none=>.unk
def ptr1 (c:CV)(o:Nat):Nat×Nat:=match c with| .ptr a q=>(a,q+o)|_=>(1000000,0)
def ptrAt (c:CV)(o:Nat):Nat×Nat:=match c with| .clo _ l m=>ptr1 (capN (l++m) (o/1000)) (o%1000)|c=>ptr1 c o
def cellN (s:PS)(q:Nat×Nat):Nat:=match lkO s.o q.1 q.2 with|some c=>blkC c|none=>1000000
def paN (s:PS)(p:Pa):Nat:=match ZG s.l p.1 with
  | some c=>(match p.2 with
    |none=>blkC c
    |some o=>(match c with| .clo _ l m=>Bool.rec (cellN s (ptrAt c o)) (blkC (capN (l++m) (o/1000))) (Nat.beq (o%1000) 999)|c=>cellN s (ptrAt c o)))
  |none=>1000000
def rgN (s:PS)(p:Nat×Nat×Nat):Nat×Nat×Nat:=match ZG s.l p.1 with|some c=>(λq=>(q.1,q.2,p.2.2)) (ptrAt c p.2.1)|none=>(1000000,0,p.2.2)
def mapA{α b:Type}(f:α->b)(l:List α):List b:=List.rec [] (λa _ i=>f a::i) l
def catA{α b:Type}(f:α->List b)(l:List α):List b:=List.rec [] (λa _ i=>f a++i) l
def HK.at (K:HK)(s:PS):Kx:=⟨K.e,K.ts,mapA (rgN s) K.cs,K.S,mapA (paN s) K.ol⟩
def dcN (s:PS)(l:List (Nat×Nat×Nat)):List (Nat×Nat):=catA (λp=>(λq=>cells q.1 q.2.2 q.2.1) (rgN s p)) l
def HCut.at (C:HCut)(s:PS):Cut:=⟨mapA (λK=>K.at s) C.ks,dcN s C.dc,mapA (paN s) C.dr⟩
def lkL (s:PS)(l:List (Nat×HLp))(i:Nat):Option HLp:=List.rec none (λp _ a=>Bool.rec a (Bool.rec a (some p.2) (allB (λq=>Nat.beq (paN s q.1) (paN s q.2)) p.2.g)) (Nat.beq p.1 i)) l
def HLp.at (L:HLp)(s:PS):Lp:=⟨L.h.at s,mapA (λK=>K.at s) L.ks,dcN s L.dc,mapA (paN s) L.dr⟩
def keyR (c:Code):Nat:=match c with| .region id _ _=>id| .seq a _=>keyR a| .block _ b=>keyR b| .cond _ a _=>keyR a| .loop b=>keyR b|_=>0
end
def cutAt (s:PS)(D:List Nat)(C:Cut){β:Type}(run:(a:Type)->(Ex->PS->Option a)->Option a)(k:Ex->PS->Option β):Option β:=(λD=>Option.bind (run (KT C.ks) λe s'=>inK s D C.dc C.dr e s' C.ks some) (elK s D C.dc C.dr k C.ks)) (D++tsK C.ks)
def ZKL (s:PS)(D:List Nat)(L:Lp){β:Type}(run:PS->(Ex->PS->Option (VH (hyS L.h.S) ⊕ KT L.ks))->Option (VH (hyS L.h.S) ⊕ KT L.ks))(k:Ex->PS->Option β):Option β:=
 (λD=>pkK s D L.dc L.dr s L.h λx=>Option.bind (loop (λx=>upK s D L.dc L.dr L.h x λs1=>run s1 λe s'=>match e with| .norm=>pkK s D L.dc L.dr s' L.h λy=>some (.inl y)|e=>inK s D L.dc L.dr e s' L.ks λy=>some (.inr y)) x) (elK s D L.dc L.dr k L.ks)) (D++L.h.ts++tsK L.ks)
def ZGw (run:(β:Type)->PS->(Ex->PS->Option β)->Option β)(n:Nat){β:Type}:PS->(Ex->PS->Option β)->Option β:=Nat.rec (λ_ _=>none) (λ_ i s k=>run β s λe s'=>match e with| .norm=>i s' k|e=>k e s') n
def code (X:Env)(Z:Hints)(c:Code):(β:Type)->PS->(Ex->PS->Option β)->Option β:=Code.rec (motive:=λ_=>(β:Type)->PS->(Ex->PS->Option β)->Option β)
  (λβ s k=>k .norm s)
  (λid ops dr β s k=>Bool.rec (match ZG Z.cut (4*id)with
    |some C=>cutAt s (dstL ops.toList) (C.at s) (λ_ k=>pops X ops.toList ops.toList s (k .norm)) k
    |none=>pops X ops.toList ops.toList s (k .norm)) (match ZG Z.cut (4*id)with
    |some C=>cutAt s (dstL ops.toList) (C.at s) (λ_ k=>drawn X ops (ZG Z.mb id) s (k .norm)) k
    |none=>drawn X ops (ZG Z.mb id) s (k .norm)) dr)
  (λa b i d β s k=>match ZG Z.cut (4*keyR a+3)with
    |some C=>cutAt s (dstC a++dstC b) (C.at s) (λf k=>i f s λe s'=>match e with| .norm=>d f s' k|e=>k e s') k
    |none=>i β s λe s'=>match e with| .norm=>d β s' k|e=>k e s')
  (λc a b i d β s k=>match c with
    | .tmp t=>oB (ZG s.l t) λv=>oBo v λe=>(match ZG Z.cut (4*(t+1000*(keyR a+1000*keyR b))+1)with
      |some C=>cutAt s (t::(dstC a++dstC b)) (C.at s) (λf k=>cond e (flag s t v true λs=>i f s k) (flag s t v false λs=>d f s k)) k
      |none=>cond e (flag s t v true λs=>i β s k) (flag s t v false λs=>d β s k))
    | .const (.bool e)=>Bool.rec (d β s k) (i β s k) e
    |_=>none)
  (λid b g β s k=>match ZG Z.cut (4*id+2)with
    |some C=>cutAt s (dstC b) (C.at s) (λf k=>g f s λe s'=>match e with| .exit j=>Bool.rec (k e s') (k .norm s') (Nat.beq j id)|e=>k e s') k
    |none=>g β s λe s'=>match e with| .exit j=>Bool.rec (k e s') (k .norm s') (Nat.beq j id)|e=>k e s')
  (λb g β s k=>match lkL s Z.lp (keyR b)with
    |some L=>ZKL s (dstC b) (L.at s) (g _) k
    |none=>(match ZG Z.un (keyR b)with|some n=>ZGw g n s k|none=>none))
  (λ_ _ _ _ _ _ β _ _=>none)
  (λid β s k=>k (.exit id) s)
  (λ_ _ _ _ _=>none) (λ_ _ _ _=>none) (λ_ _ _ _=>none)
  (λβ s k=>k .ret s)
  (λ_ _ _ _=>none) c
def argsL (l:List CV):Nat->List (Nat×CV):=List.rec (λ_=> []) (λc _ a i=>(i,c)::a (Nat.succ i)) l
abbrev Gk{β:Type}(P:Program)(s:PS)(l:List ResultVar)(k:List CV->Option β):Option β:=List.rec (λk=>k []) (λr _ i k=>match r with
 | .tmp t=>oB (ZG s.l t) λc=>kn c λc=>i λr=>k (c::r)
 | .cell t T=>oB (ZG s.l t) λc=>(match c with| .ptr a o=>bb (Nat.beq o 0) (oB (ZG s.z a) λm=>bb (match ZC P T with|some (true,n)=>Nat.beq n m|some (false,_)=>true|none=>false) (ldO P s T a 0 λc=>i λr=>k (c::r)) none) none|_=>none)) l k
def mvC (i n:Nat)(c:CV):CV:=match c with| .row j=>Bool.rec (.row j) (.row n) (Nat.beq j i)|c=>c
def mvl{κ:Type}(i n:Nat)(l:List (κ×CV)):List (κ×CV):=List.rec [] (λp _ a=>(p.1,mvC i n p.2)::a) l
abbrev mvJ{β:Type}(js:List Nat):PS->(PS->Option β)->Option β:=List.rec (λs k=>k s) (λi _ a s k=>match ZG s.r i with
 |some (.own t E m)=>(match s with|⟨N,l,o,z,n,f,c,r⟩=>a ⟨N,mvl i n l,mvl i n o,z,Nat.succ n,f,c,(n,.own t E m)::(i,.dead)::r⟩ k)
 |_=>a s k) js
def idR (n:Nat):Rho:=Nat.rec [] (λi a=>(i,some i)::a) n
def fnV (X:Env)(Z:Hints)(f:Nat)(i o:Sp)(x:VH (hyS i)):Option (VH (hyS o)):=oB X.P.funcs[f]? λfn=>oB fn.body λc=>PS.bu ⟨fn.ntmps,[],[],[],0,[],0,[]⟩ [] i (ofVH (hyS i) x) λus s=>(match s with
  | ⟨N,_,a,z,n,q,cc,r⟩=>QD (argsL us 0) λl=>bb (Nat.ble l.length fn.ntmps) (code X Z c _ ⟨N,l,a,z,n,q,cc,r⟩ λe s=>match e with
    | .exit _=>none
    |_=>JO Z.pb s λs=>mvJ Z.mv s λs=>oB (Gk X.P s fn.results.toList some) λl=>mtS s o l (idR i.bs.length) λhs ρ js=>bb (allB (λp=>Nat.blt p.1 o.bs.length) ρ) (toVH (hyS o) hs some) none) none)
end
end Go.Pv
namespace Go.Pv
open Go Go.Ow Go.RowKit
noncomputable def RS_ (k:Sn):Rep (stT k):=Sn.rec (motive:=λk=>Rep (stT k)) R_Write R_Disk R_Ptr R_Label R_Object R_Line R_Store R_Change R_Pool R_Signer R_Part R_Stream k
noncomputable def RPr {α β:Type} (n:Nat) (A:Rep α) (B:Rep β):Rep (α×β):=λH cs x=>∃c a,cs=c++a/\c.length=n/\A H c x.1/\B H a x.2
noncomputable def RT (t:Ty):Rep (den t):=Ty.rec (motive:=λt=>Rep (den t)) RInt RU8 RU32 RU64 RBool RStr (λt R=>RSl R (szY t)) RS_ (λa _ A B=>RPr (szY a) A B) t
theorem RT.mono:∀t,(RT t).Mono:=λt=>by
  induction t with
  |i=>exact RInt.mono
  |w8=>exact RU8.mono
  |w32=>exact RU32.mono
  |w64=>exact RU64.mono
  |b=>exact RBool.mono
  |s=>exact RStr.mono
  |sl t f=>exact RSl.mono f
  | st k=>cases k with
    |Write=>exact R_Write.mono
    |Disk=>exact R_Disk.mono
    |Ptr=>exact R_Ptr.mono
    |Label=>exact R_Label.mono
    |Object=>exact R_Object.mono
    |Line=>exact R_Line.mono
    |Store=>exact R_Store.mono
    |Change=>exact R_Change.mono
    |Pool=>exact R_Pool.mono
    |Signer=>exact R_Signer.mono
    |Part=>exact R_Part.mono
    |Stream=>exact R_Stream.mono
  | pr a b c d=>
    rintro H l cs x h ⟨g,j,e,h1,h2,h3⟩;exact⟨g,j,e,h1,c _ _ _ _ h h2,d _ _ _ _ h h3⟩
structure In where
  H:Heaplet
  ν:Nat->Nat×Value
  n:Nat
  κ:Nat->Nat
  q:Nat
structure In.Le (I J:In):Prop where
  H:Hle I.H J.H
  n:I.n<=J.n
  ν:∀k,k<I.n->J.ν k=I.ν k
  q:I.q<=J.q
  κ:∀c,c<I.q->J.κ c=I.κ c
theorem In.Le.refl (I:In):In.Le I I:=⟨R1 _,TL _,λ_ _=>rfl,TL _,λ_ _=>rfl⟩
abbrev MAX:Nat:=9223372036854775807
def ElR (I:In)(t:Ty)(x:den t)(o:Nat)(v:Value):Prop:=∃b q cs,v=.pointer (some ⟨b,q+o,none⟩)/\cs.length=szY t/\RT t I.H cs x/\∀j u,cs[j]? =some u->I.H b (q+j)=some u
def RelR (I:In)(t:Ty)(k:Nat)(i:Int)(o:Nat)(v:Value):Prop:=k<I.n/\∃b q,ElemAt (I.ν k).2 (szY t) i b q/\v=.pointer (some ⟨b,q+o,none⟩)
theorem ElR.mono{I J:In}(h:I.Le J){t:Ty}{x:den t}{o:Nat}{v:Value}(k:ElR I t x o v):ElR J t x o v:=by
 obtain⟨b,q,cs,e,e1,e2,e3⟩:=k;exact⟨b,q,cs,e,e1,RT.mono t _ _ _ _ h.H e2,λj u e=>h.H _ _ _ (e3 j u e)⟩
theorem RelR.mono{I J:In}(h:I.Le J){t:Ty}{k:Nat}{i:Int}{o:Nat}{v:Value}(g:RelR I t k i o v):RelR J t k i o v:=⟨Tn g.1 h.n,by rw[h.ν _ g.1];exact g.2⟩
mutual
def VR (I:In):CV->Value->Prop
 | .i n,v=>v=.int .i64 n
 | .n c j,v=>c<I.q/\I.κ c=j/\v=.int .i64 (j:Int)
 | .ln j,v=>j<=MAX/\v=.int .i64 (j:Int)
 | .bc c m k,v=>c<I.q/\I.κ c=m/\k<=MAX/\v=.bool (decide ((m:Int)<(k:Int)))
 | .w8 x,v=>v=.int .u8 (x.toNat:Int)
 | .w32 x,v=>v=.int .u32 (x.toNat:Int)
 | .w64 x,v=>v=.int .u64 (x.toNat:Int)
 | .b x,v=>v=.bool x
 | .s l,v=>v=.string (bs l)
 | .sl t m,v=>IsSlice I.H (RT t) (szY t) v m
 | .cl t m,v=>IsSlice I.H (RT t) (szY t) v m/\∃ao,v=.slice ao m.length m.length
 | .rv t k g,v=>k<I.n/\∃n,SubV (szY t) (I.ν k).2 v g.toNat (n-g.toNat)/\(∃a c,(I.ν k).2=.slice a n c)/\0<=g/\g.toNat<=n
 | .sv k o n,v=>k<I.n/\v=.slice (some ⟨(I.ν k).1,o,none⟩) n n
 | .nils,v=>v=.slice none 0 0
 | .nilp,v=>v=.pointer none
 | .nili,v=>v=.nilIface
 | .ptr k o,v=>k<I.n/\v=.pointer (some ⟨(I.ν k).1,o,none⟩)
 | .el t x o,v=>ElR I t x o v
 | .oel t x,v=>(x=none/\v=.pointer none)\/∃y,x=some y/\ElR I t y 0 v
 | .orel t k i,v=>(i=none/\v=.pointer none)\/∃g,i=some g/\RelR I t k g 0 v
 | .clo f l m,v=>∃us ws,v=.func (.func f) us.toArray ws.toArray/\VRs I l us/\VRs I m ws
 | .fn f,v=>v=.func (.func f) #[] #[]
 | .row k,v=>k<I.n/\v=(I.ν k).2/\∃a n c,v=.slice a n c
 | .rel t k i o,v=>RelR I t k i o v
 | .ag l,v=>∃vs,v=.agg vs.toArray/\VRs I l vs
 | .tu l,v=>∃vs,v=.tuple vs.toArray/\VRs I l vs
 | .und,v=>v=undef
 | .any,v=>True
 | .unk,v=>False
def VRs (I:In):List CV->List Value->Prop
 |[],vs=>vs= []
 |c::r,vs=>∃v us,vs=v::us/\VR I c v/\VRs I r us
end
theorem VRs.length{I:In}:∀{l:List CV} {vs:List Value},VRs I l vs->l.length=vs.length
  |[],vs,h=>by simp only[VRs]at h;subst h;rfl
  | c::r,vs,h=>by
    simp only[VRs]at h;obtain⟨v,us,rfl,_,h⟩:=h;simp[VRs.length h]
theorem VRs.cons{I:In}{c:CV}{v:Value}{r:List CV}{us:List Value}(h:VR I c v)(k:VRs I r us):VRs I (c::r) (v::us):=by
 simp only[VRs];exact⟨v,us,rfl,h,k⟩
theorem VRs.nil{I:In}:VRs I [] []:=by simp only[VRs]
mutual
theorem VR.mono{I J:In}(h:I.Le J):∀{c:CV} {v:Value},VR I c v->VR J c v
 | .i n,v,k=>k
 | .n c j,v,k=>by simp only[VR]at k|-;exact⟨Tn k.1 h.q,by rw[h.κ _ k.1];exact k.2.1,k.2.2⟩
 | .ln j,v,k=>k
 | .bc c m _,v,k=>by simp only[VR]at k|-;exact⟨Tn k.1 h.q,by rw[h.κ _ k.1];exact k.2.1,k.2.2⟩
 | .w8 x,v,k=>k
 | .w32 x,v,k=>k
 | .w64 x,v,k=>k
 | .b x,v,k=>k
 | .s l,v,k=>k
 | .sl t m,v,k=>by simp only[VR]at k|-;exact k.mono (RT.mono t) h.H
 | .cl t m,v,k=>by simp only[VR]at k|-;exact⟨k.1.mono (RT.mono t) h.H,k.2⟩
 | .rv t a g,v,k=>by simp only[VR]at k|-;exact⟨Tn k.1 h.n,by rw[h.ν _ k.1];exact k.2⟩
 | .sv a _ n,v,k=>by simp only[VR]at k|-;exact⟨Tn k.1 h.n,by rw[h.ν _ k.1];exact k.2⟩
 | .nils,v,k=>k
 | .nilp,v,k=>k
 | .nili,v,k=>k
 | .ptr a o,v,k=>by simp only[VR]at k|-;exact⟨Tn k.1 h.n,by rw[h.ν _ k.1];exact k.2⟩
 | .el t x o,v,k=>by simp only[VR]at k|-;exact k.mono h
 | .oel t x,v,k=>by simp only[VR]at k|-;exact k.imp id fun⟨y,e,k⟩=>⟨y,e,k.mono h⟩
 | .orel t a i,v,k=>by simp only[VR]at k|-;exact k.imp id fun⟨y,e,k⟩=>⟨y,e,k.mono h⟩
 | .clo f l m,v,k=>by simp only[VR]at k|-;obtain⟨us,ws,e,k1,k2⟩:=k;exact⟨us,ws,e,VRs.mono h k1,VRs.mono h k2⟩
 | .fn f,v,k=>k
 | .row a,v,k=>by simp only[VR]at k|-;exact⟨Tn k.1 h.n,by rw[h.ν _ k.1];exact k.2⟩
 | .rel t a i o,v,k=>by simp only[VR]at k|-;exact k.mono h
 | .ag l,v,k=>by simp only[VR]at k|-;obtain⟨vs,e,k⟩:=k;exact⟨vs,e,VRs.mono h k⟩
 | .tu l,v,k=>by simp only[VR]at k|-;obtain⟨vs,e,k⟩:=k;exact⟨vs,e,VRs.mono h k⟩
 | .und,v,k=>k
 | .any,v,k=>k
 | .unk,v,k=>k
theorem VRs.mono{I J:In}(h:I.Le J):∀{l:List CV} {vs:List Value},VRs I l vs->VRs J l vs
  |[],vs,k=>k
  | c::r,vs,k=>by
    simp only[VRs]at k|-;obtain⟨v,us,e,k1,k2⟩:=k;exact⟨v,us,e,VR.mono h k1,VRs.mono h k2⟩
end
theorem VRs.append{I:In}:∀{l m:List CV} {vs us:List Value},VRs I l vs->VRs I m us->VRs I (l++m) (vs++us)
  |[],m,vs,us,h,k=>by simp only[VRs]at h;subst h;exact k
  | c::r,m,vs,us,h,k=>by
    simp only[VRs]at h;obtain⟨v,ws,rfl,h1,h2⟩:=h;exact VRs.cons h1 (VRs.append h2 k)
theorem VRs.split{I:In}:∀{l m:List CV} {vs:List Value},VRs I (l++m) vs->∃us ws,vs=us++ws/\us.length=l.length/\VRs I l us/\VRs I m ws
  |[],m,vs,h=>⟨[],vs,rfl,rfl,VRs.nil,h⟩
  | c::r,m,vs,h=>by
    have h:VRs I (c::(r++m)) vs:=h;simp only[VRs]at h;obtain⟨v,ws,rfl,h1,h2⟩:=h;obtain⟨us,ws,rfl,e,h3,a⟩:=VRs.split h2;exact⟨v::us,ws,rfl,by simp[e],VRs.cons h1 h3,a⟩
theorem VRs.take{I:In}:∀(n:Nat) {l:List CV} {vs:List Value},VRs I l vs->VRs I (l.take n) (vs.take n)
  |0,l,vs,h=>by simp only[List.take_zero];exact VRs.nil
  |n+1,[],vs,h=>by simp only[VRs]at h;subst h;exact VRs.nil
  | n+1,c::r,vs,h=>by
    simp only[VRs]at h;obtain⟨v,us,rfl,h1,h2⟩:=h;simp only[List.take_succ_cons];exact VRs.cons h1 (VRs.take n h2)
theorem VRs.drop{I:In}:∀(n:Nat) {l:List CV} {vs:List Value},VRs I l vs->VRs I (l.drop n) (vs.drop n)
  |0,l,vs,h=>h
  |n+1,[],vs,h=>by simp only[VRs]at h;subst h;exact VRs.nil
  | n+1,c::r,vs,h=>by
    simp only[VRs]at h;obtain⟨v,us,rfl,h1,h2⟩:=h;simp only[List.drop_succ_cons];exact VRs.drop n h2
theorem VRs.get{I:In}:∀{i:Nat} {l:List CV} {vs:List Value} {c:CV},VRs I l vs->l[i]? =some c->∃v,vs[i]? =some v/\VR I c v
  |i,[],vs,c,h,e=>by simp at e
  | 0,a::r,vs,c,h,e=>by
    simp only[VRs]at h;obtain⟨v,us,rfl,h1,h2⟩:=h;simp at e;subst e;exact⟨v,rfl,h1⟩
  | i+1,a::r,vs,c,h,e=>by
    simp only[VRs]at h;obtain⟨v,us,rfl,h1,h2⟩:=h;simpa using VRs.get h2 (by simpa using e)
theorem VRs.un{I:In}{c:CV}{r:List CV}{vs:List Value}(h:VRs I (c::r) vs):∃v us,vs=v::us/\VR I c v/\VRs I r us:=by simpa only[VRs]using h
theorem VRs.un0{I:In}{vs:List Value}(h:VRs I [] vs):vs= []:=by simpa only[VRs]using h
theorem ZOJ:∀(t:Ty) (y:den t),(spC t y).length=szY t:=λt=>by
 induction t with
 |st k=>intro y;cases k<;>rfl
 |pr a b i c=>intro y;show(spC a y.1++spC b y.2).length=szY a+szY b;rw[TF,i,c]
 |_=>intro y;rfl
theorem RT.cells{I:In}(t:Ty):∀(x:den t) (cs:List Value),RT t I.H cs x↔VRs I (spC t x) cs:=by
  induction t with
  |i=>intro x cs;show cs=_↔_;simp[spC,VRs,VR]
  |w8=>intro x cs;show cs=_↔_;simp[spC,VRs,VR]
  |w32=>intro x cs;show cs=_↔_;simp[spC,VRs,VR]
  |w64=>intro x cs;show cs=_↔_;simp[spC,VRs,VR]
  |b=>intro x cs;show cs=_↔_;simp[spC,VRs,VR]
  |s=>intro x cs;show cs=_↔_;simp[spC,VRs,VR]
  | sl t => intro x cs;show(∃v,cs= [v]/\_)↔_;simp[spC,VRs,VR];constructor
            . rintro⟨v,rfl,h⟩;exact⟨v,rfl,h⟩
            . rintro⟨v,rfl,h⟩;exact⟨v,rfl,h⟩
  | pr a b z A=>
    intro x cs;show(∃D E,cs=D++E/\D.length=szY a/\RT a I.H D x.1/\RT b I.H E x.2)↔VRs I (spC a x.1++spC b x.2) cs;constructor
    . rintro⟨D,E,rfl,_,h1,h2⟩;exact VRs.append ((z _ _).1 h1) ((A _ _).1 h2)
    . intro h;obtain⟨us,ws,rfl,e,h1,h2⟩:=h.split;exact⟨us,ws,rfl,by rw[e,ZOJ],(z _ _).2 h1,(A _ _).2 h2⟩
  | st k=>
    intro x cs;cases k with
    | Write=>
      constructor
      . rintro⟨c,rfl,h0⟩;exact(VRs.cons rfl (VRs.cons h0 VRs.nil))
      . intro g;obtain⟨_,_,rfl,rfl,d⟩:=g.un;obtain⟨c,_,rfl,h0,f⟩:=d.un;cases f.un0;exact⟨c,rfl,h0⟩
    | Disk=>
      constructor
      . rintro⟨c,n,rfl,h0,h1⟩;exact(VRs.cons h0 (VRs.cons h1 VRs.nil))
      . intro g;obtain⟨c,_,rfl,h0,d⟩:=g.un;obtain⟨n,_,rfl,h1,f⟩:=d.un;cases f.un0;exact⟨c,n,rfl,h0,h1⟩
    | Ptr=>
      constructor
      . intro h;cases(show cs=_ from h);exact(VRs.cons rfl (VRs.cons rfl (VRs.cons rfl (VRs.cons rfl (VRs.cons rfl VRs.nil)))))
      . intro g;obtain⟨_,_,rfl,rfl,d⟩:=g.un;obtain⟨_,_,rfl,rfl,f⟩:=d.un;obtain⟨_,_,rfl,rfl,j⟩:=f.un;obtain⟨_,_,rfl,rfl,l⟩:=j.un;obtain⟨_,_,rfl,rfl,m⟩:=l.un;cases m.un0;exact rfl
    | Label=>
      constructor
      . intro h;cases(show cs=_ from h);exact(VRs.cons rfl (VRs.cons rfl (VRs.cons rfl (VRs.cons rfl (VRs.cons rfl (VRs.cons rfl (VRs.cons rfl VRs.nil)))))))
      . intro g;obtain⟨_,_,rfl,rfl,d⟩:=g.un;obtain⟨_,_,rfl,rfl,f⟩:=d.un;obtain⟨_,_,rfl,rfl,j⟩:=f.un;obtain⟨_,_,rfl,rfl,l⟩:=j.un;obtain⟨_,_,rfl,rfl,m⟩:=l.un;obtain⟨_,_,rfl,rfl,u⟩:=m.un;obtain⟨_,_,rfl,rfl,w⟩:=u.un;cases w.un0;exact rfl
    | Object=>
      constructor
      . rintro⟨c,rfl,h0⟩;exact(VRs.cons rfl (VRs.cons rfl (VRs.cons rfl (VRs.cons h0 VRs.nil))))
      . intro g;obtain⟨_,_,rfl,rfl,d⟩:=g.un;obtain⟨_,_,rfl,rfl,f⟩:=d.un;obtain⟨_,_,rfl,rfl,j⟩:=f.un;obtain⟨c,_,rfl,h0,l⟩:=j.un;cases l.un0;exact⟨c,rfl,h0⟩
    | Line=>
      constructor
      . rintro⟨c,rfl,h0⟩;exact(VRs.cons rfl (VRs.cons rfl (VRs.cons rfl (VRs.cons rfl (VRs.cons rfl (VRs.cons rfl (VRs.cons rfl (VRs.cons rfl (VRs.cons rfl (VRs.cons rfl (VRs.cons rfl (VRs.cons rfl (VRs.cons h0 VRs.nil)))))))))))))
      . intro g;obtain⟨_,_,rfl,rfl,d⟩:=g.un;obtain⟨_,_,rfl,rfl,f⟩:=d.un;obtain⟨_,_,rfl,rfl,j⟩:=f.un;obtain⟨_,_,rfl,rfl,l⟩:=j.un;obtain⟨_,_,rfl,rfl,m⟩:=l.un;obtain⟨_,_,rfl,rfl,u⟩:=m.un;obtain⟨_,_,rfl,rfl,w⟩:=u.un;obtain⟨_,_,rfl,rfl,B⟩:=w.un;obtain⟨_,_,rfl,rfl,C⟩:=B.un;obtain⟨_,_,rfl,rfl,o⟩:=C.un;obtain⟨_,_,rfl,rfl,p⟩:=o.un;obtain⟨_,_,rfl,rfl,q⟩:=p.un;obtain⟨c,_,rfl,h0,y⟩:=q.un;cases y.un0;exact⟨c,rfl,h0⟩
    | Store=>
      constructor
      . rintro⟨c,n,r,rfl,h0,h1,h2⟩;exact(VRs.cons h0 (VRs.cons h1 (VRs.cons h2 (VRs.cons rfl (VRs.cons rfl VRs.nil)))))
      . intro g;obtain⟨c,_,rfl,h0,d⟩:=g.un;obtain⟨n,_,rfl,h1,f⟩:=d.un;obtain⟨r,_,rfl,h2,j⟩:=f.un;obtain⟨_,_,rfl,rfl,l⟩:=j.un;obtain⟨_,_,rfl,rfl,m⟩:=l.un;cases m.un0;exact⟨c,n,r,rfl,h0,h1,h2⟩
    | Change=>
      constructor
      . rintro⟨c,rfl,h0⟩;exact(VRs.cons rfl (VRs.cons rfl (VRs.cons rfl (VRs.cons rfl (VRs.cons rfl (VRs.cons rfl (VRs.cons h0 (VRs.cons rfl (VRs.cons rfl (VRs.cons rfl (VRs.cons rfl (VRs.cons rfl VRs.nil))))))))))))
      . intro g;obtain⟨_,_,rfl,rfl,d⟩:=g.un;obtain⟨_,_,rfl,rfl,f⟩:=d.un;obtain⟨_,_,rfl,rfl,j⟩:=f.un;obtain⟨_,_,rfl,rfl,l⟩:=j.un;obtain⟨_,_,rfl,rfl,m⟩:=l.un;obtain⟨_,_,rfl,rfl,u⟩:=m.un;obtain⟨c,_,rfl,h0,w⟩:=u.un;obtain⟨_,_,rfl,rfl,B⟩:=w.un;obtain⟨_,_,rfl,rfl,C⟩:=B.un;obtain⟨_,_,rfl,rfl,o⟩:=C.un;obtain⟨_,_,rfl,rfl,p⟩:=o.un;obtain⟨_,_,rfl,rfl,q⟩:=p.un;cases q.un0;exact⟨c,rfl,h0⟩
    | Pool=>
      constructor
      . rintro⟨c,n,r,R,S,T,U,V,rfl,h0,h1,h2,h3,F,G,J,K⟩;exact(VRs.cons h0 (VRs.cons h1 (VRs.cons h2 (VRs.cons rfl (VRs.cons rfl (VRs.cons rfl (VRs.cons rfl (VRs.cons rfl (VRs.cons rfl (VRs.cons rfl (VRs.cons rfl (VRs.cons h3 (VRs.cons F (VRs.cons G (VRs.cons J (VRs.cons K (VRs.cons rfl (VRs.cons rfl (VRs.cons rfl VRs.nil)))))))))))))))))))
      . intro g;obtain⟨c,_,rfl,h0,d⟩:=g.un;obtain⟨n,_,rfl,h1,f⟩:=d.un;obtain⟨r,_,rfl,h2,j⟩:=f.un;obtain⟨_,_,rfl,rfl,l⟩:=j.un;obtain⟨_,_,rfl,rfl,m⟩:=l.un;obtain⟨_,_,rfl,rfl,u⟩:=m.un;obtain⟨_,_,rfl,rfl,w⟩:=u.un;obtain⟨_,_,rfl,rfl,B⟩:=w.un;obtain⟨_,_,rfl,rfl,C⟩:=B.un;obtain⟨_,_,rfl,rfl,o⟩:=C.un;obtain⟨_,_,rfl,rfl,p⟩:=o.un;obtain⟨R,_,rfl,h3,q⟩:=p.un;obtain⟨S,_,rfl,F,y⟩:=q.un;obtain⟨T,_,rfl,G,L⟩:=y.un;obtain⟨U,_,rfl,J,M⟩:=L.un;obtain⟨V,_,rfl,K,N⟩:=M.un;obtain⟨_,_,rfl,rfl,O⟩:=N.un;obtain⟨_,_,rfl,rfl,P⟩:=O.un;obtain⟨_,_,rfl,rfl,Q⟩:=P.un;cases Q.un0;exact⟨c,n,r,R,S,T,U,V,rfl,h0,h1,h2,h3,F,G,J,K⟩
    | Signer=>
      constructor
      . rintro⟨c,rfl,h0⟩;exact(VRs.cons h0 (VRs.cons rfl VRs.nil))
      . intro g;obtain⟨c,_,rfl,h0,d⟩:=g.un;obtain⟨_,_,rfl,rfl,f⟩:=d.un;cases f.un0;exact⟨c,rfl,h0⟩
    | Part=>
      constructor
      . rintro⟨c,rfl,h0⟩;exact(VRs.cons rfl (VRs.cons rfl (VRs.cons rfl (VRs.cons rfl (VRs.cons h0 VRs.nil)))))
      . intro g;obtain⟨_,_,rfl,rfl,d⟩:=g.un;obtain⟨_,_,rfl,rfl,f⟩:=d.un;obtain⟨_,_,rfl,rfl,j⟩:=f.un;obtain⟨_,_,rfl,rfl,l⟩:=j.un;obtain⟨c,_,rfl,h0,m⟩:=l.un;cases m.un0;exact⟨c,rfl,h0⟩
    | Stream=>
      constructor
      . rintro⟨c,n,r,rfl,h0,h1,h2⟩;exact(VRs.cons rfl (VRs.cons rfl (VRs.cons h0 (VRs.cons h1 (VRs.cons h2 VRs.nil)))))
      . intro g;obtain⟨_,_,rfl,rfl,d⟩:=g.un;obtain⟨_,_,rfl,rfl,f⟩:=d.un;obtain⟨c,_,rfl,h0,j⟩:=f.un;obtain⟨n,_,rfl,h1,l⟩:=j.un;obtain⟨r,_,rfl,h2,m⟩:=l.un;cases m.un0;exact⟨c,n,r,rfl,h0,h1,h2⟩
section
variable{β:Type}{r:β}
theorem ZU{α:Type}{a:Option α}{k:α->Option β}(h:oB a k=some r):∃x,a=some x/\k x=some r:=by cases a with|none=>cases h|some x=>exact⟨x,rfl,h⟩
theorem ZA{b:Bool}{x:Option β}(h:bb b x none=some r):b=true/\x=some r:=by cases b with|false=>cases h|true=>exact⟨rfl,h⟩
theorem XS{α:Type}:∀(l:List α) (k:List α->Option β),QD l k=k l
 |[],k=>rfl
 |a::l,k=>XS l λr=>k (a::r)
theorem ZJU (c:CV)(k:CV->Option β):fC c k=k c:=by
 cases c<;>first|rfl|exact XS _ _|exact(XS _ _).trans (XS _ _)
theorem Zl{t u:Ty}{x:den t}{k:den u->Option β}(h:cast t u x k=some r):∃e:t=u,k (e▸x)=some r:=by
 unfold cast at h;have a:∀(b:Bool) (e:eqT t u=b),castB t u x k b e=some r->∃e:t=u,k (e▸x)=some r:=λb e h=>by
  cases b with
  |false=>cases h
  |true=>exact⟨Vz e,h⟩
 exact a _ _ h
def CLe (c d:CV):Prop:=∀(I:In) (v:Value),VR I c v->VR I d v
def LeL (l m:List CV):Prop:=∀(I:In) (vs:List Value),VRs I l vs->VRs I m vs
theorem PU (c:CV):CLe c c:=λ_ _ h=>h
theorem OM (l:List CV):LeL l l:=λ_ _ h=>h
theorem LeL.cons{c d:CV}{l m:List CV}(h:CLe c d)(k:LeL l m):LeL (c::l) (d::m):=λI vs e=>by
 obtain⟨v,us,rfl,e1,e2⟩:=e.un;exact VRs.cons (h _ _ e1) (k _ _ e2)
structure CR (c d:CV):Prop where
  le:CLe c d
  sl:∀t m,c=.sl t m->d=.sl t m
  nil:c=.nils->∃t,d=.sl t []
inductive CRs:List CV->List CV->Prop
  |nil:CRs [] []
  |cons {c d l m}:CR c d->CRs l m->CRs (c::l) (d::m)
theorem CRs.append{l m l' m':List CV}(h:CRs l m)(k:CRs l' m'):CRs (l++l') (m++m'):=by
 induction h with
 |nil=>exact k
 |cons e _ i=>exact .cons e i
theorem CRs.le{l m:List CV}(h:CRs l m):LeL l m:=by
 induction h with
 |nil=>exact OM _
 |cons e _ i=>exact LeL.cons e.le i
theorem CRs.length{l m:List CV}(h:CRs l m):l.length=m.length:=by
 induction h with
 |nil=>rfl
 |cons e _ i=>simp[i]
theorem CRs.get{l m:List CV}(h:CRs l m):∀{i:Nat} {c:CV},l[i]? =some c->∃d,m[i]? =some d/\CR c d:=by
  induction h with
  |nil=>intro i c e;simp at e
  | cons e _ a=>
    intro i c q;cases i with
    |zero=>simp at q;subst q;exact⟨_,rfl,e⟩
    |succ i=>simpa using a (by simpa using q)
theorem CR.of{c d:CV}(h:CLe c d)(h1:∀t m,c≠.sl t m)(h2:c≠.nils):CR c d:=⟨h,λt m e=>absurd e (h1 t m),λe=>absurd e h2⟩
theorem Zx{c:CV}{k:Int->Option β}(h:oI c k=some r):∃n,CR c (.i n)/\k n=some r:=by
 unfold oI at h;split at h
 . exact⟨_,.of (PU _) (by simp) (by simp),h⟩
 . exact⟨_,.of (λI v e=>by simp only[VR]at e|-;exact e.2.2) (by simp) (by simp),h⟩
 . exact⟨_,.of (λI v e=>by simp only[VR]at e|-;exact e.2) (by simp) (by simp),h⟩
 . cases h
theorem ZGa{c:CV}{k:UInt8->Option β}(h:o8 c k=some r):∃n,CR c (.w8 n)/\k n=some r:=by
 unfold o8 at h;split at h
 . exact⟨_,.of (PU _) (by simp) (by simp),h⟩
 . cases h
theorem ZV{c:CV}{k:UInt32->Option β}(h:o32 c k=some r):∃n,CR c (.w32 n)/\k n=some r:=by
 unfold o32 at h;split at h
 . exact⟨_,.of (PU _) (by simp) (by simp),h⟩
 . cases h
theorem ZQ1{c:CV}{k:UInt64->Option β}(h:o64 c k=some r):∃n,CR c (.w64 n)/\k n=some r:=by
 unfold o64 at h;split at h
 . exact⟨_,.of (PU _) (by simp) (by simp),h⟩
 . cases h
theorem ZSm{c:CV}{k:List UInt8->Option β}(h:oS c k=some r):∃n,CR c (.s n)/\k n=some r:=by
 unfold oS at h;split at h
 . exact⟨_,.of (PU _) (by simp) (by simp),h⟩
 . cases h
theorem Gu{c:CV}{k:Bool->Option β}(h:oBo c k=some r):∃n,CR c (.b n)/\k n=some r:=by
 unfold oBo at h;split at h
 . exact⟨_,.of (PU _) (by simp) (by simp),h⟩
 . exact⟨_,.of (λI v e=>by simp only[VR]at e|-;exact e.2.2.2) (by simp) (by simp),h⟩
 . cases h
theorem Zu{t:Ty}{c:CV}{k:List (den t)->Option β}(h:oSl t c k=some r):∃m,CR c (.sl t m)/\k m=some r:=by
 unfold oSl at h;split at h
 . obtain⟨e,h⟩:=Zl h;cases e;exact⟨_,⟨PU _,λ_ _ e=>e,λe=>by cases e⟩,h⟩
 . obtain⟨e,h⟩:=Zl h;cases e;exact⟨_,.of (λI v e=>by simp only[VR]at e|-;exact e.1) (by simp) (by simp),h⟩
 . exact⟨_,⟨λI v e=>by simp only[VR]at e|-;subst e;exact IsSlice.nil _ _ _,λ_ _ e=>(by cases e),λ_=>⟨_,rfl⟩⟩,h⟩
 . cases h
theorem ZD{α:Type}{f:CV->(α->Option β)->Option β}{l:List CV}{k:α->List CV->Option β}(h:t1 f l k=some r):∃c m,l=c::m/\f c (λx=>k x m)=some r:=by
 cases l with
 |nil=>cases h
 |cons c m=>exact⟨c,m,rfl,h⟩
theorem ZQb{s:Sn}{l:List CV}{k:stT s->List CV->Option β}(h:stM s l k=some r):∃x d m,l=d++m/\CRs d (stC s x)/\k x m=some r:=by
  cases s with
    | Write=>
      obtain⟨c0,l0,rfl,h⟩:=ZD h;obtain⟨a,e0,h⟩:=Zx h;obtain⟨c,d,rfl,h⟩:=ZD h;obtain⟨b,e1,h⟩:=Zu h;exact⟨⟨a,b⟩,[c0,c],d,rfl,.cons e0 (.cons e1 (.nil)),h⟩
    | Disk=>
      obtain⟨c0,l0,rfl,h⟩:=ZD h;obtain⟨a,e0,h⟩:=Zu h;obtain⟨c,d,rfl,h⟩:=ZD h;obtain⟨b,e1,h⟩:=Zu h;exact⟨⟨a,b⟩,[c0,c],d,rfl,.cons e0 (.cons e1 (.nil)),h⟩
    | Ptr=>
      obtain⟨c0,l0,rfl,h⟩:=ZD h;obtain⟨a,e0,h⟩:=Zx h;obtain⟨c,d,rfl,h⟩:=ZD h;obtain⟨b,e1,h⟩:=ZV h;obtain⟨e,w,rfl,h⟩:=ZD h;obtain⟨f,e2,h⟩:=ZV h;obtain⟨g,v,rfl,h⟩:=ZD h;obtain⟨i,e3,h⟩:=ZV h;obtain⟨j,o,rfl,h⟩:=ZD h;obtain⟨n,e4,h⟩:=ZV h;exact⟨⟨a,b,f,i,n⟩,[c0,c,e,g,j],o,rfl,.cons e0 (.cons e1 (.cons e2 (.cons e3 (.cons e4 (.nil))))),h⟩
    | Label=>
      obtain⟨c0,l0,rfl,h⟩:=ZD h;obtain⟨a,e0,h⟩:=ZV h;obtain⟨c,d,rfl,h⟩:=ZD h;obtain⟨b,e1,h⟩:=ZV h;obtain⟨e,w,rfl,h⟩:=ZD h;obtain⟨f,e2,h⟩:=Zx h;obtain⟨g,v,rfl,h⟩:=ZD h;obtain⟨i,e3,h⟩:=ZV h;obtain⟨j,o,rfl,h⟩:=ZD h;obtain⟨n,e4,h⟩:=ZV h;obtain⟨y,O,rfl,h⟩:=ZD h;obtain⟨z,e5,h⟩:=ZV h;obtain⟨A,N,rfl,h⟩:=ZD h;obtain⟨B,e6,h⟩:=ZV h;exact⟨⟨a,b,⟨f,i,n,z,B⟩⟩,[c0,c,e,g,j,y,A],N,rfl,.cons e0 (.cons e1 (.cons e2 (.cons e3 (.cons e4 (.cons e5 (.cons e6 (.nil))))))),h⟩
    | Object=>
      obtain⟨c0,l0,rfl,h⟩:=ZD h;obtain⟨a,e0,h⟩:=ZGa h;obtain⟨c,d,rfl,h⟩:=ZD h;obtain⟨b,e1,h⟩:=Zx h;obtain⟨e,w,rfl,h⟩:=ZD h;obtain⟨f,e2,h⟩:=Zx h;obtain⟨g,v,rfl,h⟩:=ZD h;obtain⟨i,e3,h⟩:=Zu h;exact⟨⟨a,b,f,i⟩,[c0,c,e,g],v,rfl,.cons e0 (.cons e1 (.cons e2 (.cons e3 (.nil)))),h⟩
    | Line=>
      obtain⟨c0,l0,rfl,h⟩:=ZD h;obtain⟨a,e0,h⟩:=Zx h;obtain⟨c,d,rfl,h⟩:=ZD h;obtain⟨b,e1,h⟩:=ZGa h;obtain⟨e,w,rfl,h⟩:=ZD h;obtain⟨f,e2,h⟩:=Zx h;obtain⟨g,v,rfl,h⟩:=ZD h;obtain⟨i,e3,h⟩:=Zx h;obtain⟨j,o,rfl,h⟩:=ZD h;obtain⟨n,e4,h⟩:=ZV h;obtain⟨y,O,rfl,h⟩:=ZD h;obtain⟨z,e5,h⟩:=ZV h;obtain⟨A,N,rfl,h⟩:=ZD h;obtain⟨B,e6,h⟩:=Zx h;obtain⟨F,l7,rfl,h⟩:=ZD h;obtain⟨G,e7,h⟩:=Zx h;obtain⟨H,l8,rfl,h⟩:=ZD h;obtain⟨I,e8,h⟩:=ZV h;obtain⟨J,l9,rfl,h⟩:=ZD h;obtain⟨K,e9,h⟩:=ZV h;obtain⟨p,L,rfl,h⟩:=ZD h;obtain⟨q,e10,h⟩:=ZV h;obtain⟨t,C,rfl,h⟩:=ZD h;obtain⟨u,e11,h⟩:=ZV h;obtain⟨D,M,rfl,h⟩:=ZD h;obtain⟨E,e12,h⟩:=Zu h;exact⟨⟨a,b,f,i,n,z,B,⟨G,I,K,q,u⟩,E⟩,[c0,c,e,g,j,y,A,F,H,J,p,t,D],M,rfl,.cons e0 (.cons e1 (.cons e2 (.cons e3 (.cons e4 (.cons e5 (.cons e6 (.cons e7 (.cons e8 (.cons e9 (.cons e10 (.cons e11 (.cons e12 (.nil))))))))))))),h⟩
    | Store=>
      obtain⟨c0,l0,rfl,h⟩:=ZD h;obtain⟨a,e0,h⟩:=Zu h;obtain⟨c,d,rfl,h⟩:=ZD h;obtain⟨b,e1,h⟩:=Zu h;obtain⟨e,w,rfl,h⟩:=ZD h;obtain⟨f,e2,h⟩:=Zu h;obtain⟨g,v,rfl,h⟩:=ZD h;obtain⟨i,e3,h⟩:=ZV h;obtain⟨j,o,rfl,h⟩:=ZD h;obtain⟨n,e4,h⟩:=ZV h;exact⟨⟨⟨a,b⟩,f,i,n⟩,[c0,c,e,g,j],o,rfl,.cons e0 (.cons e1 (.cons e2 (.cons e3 (.cons e4 (.nil))))),h⟩
    | Change=>
      obtain⟨c0,l0,rfl,h⟩:=ZD h;obtain⟨a,e0,h⟩:=Zx h;obtain⟨c,d,rfl,h⟩:=ZD h;obtain⟨b,e1,h⟩:=Zx h;obtain⟨e,w,rfl,h⟩:=ZD h;obtain⟨f,e2,h⟩:=Zx h;obtain⟨g,v,rfl,h⟩:=ZD h;obtain⟨i,e3,h⟩:=ZGa h;obtain⟨j,o,rfl,h⟩:=ZD h;obtain⟨n,e4,h⟩:=Zx h;obtain⟨y,O,rfl,h⟩:=ZD h;obtain⟨z,e5,h⟩:=Zx h;obtain⟨A,N,rfl,h⟩:=ZD h;obtain⟨B,e6,h⟩:=Zu h;obtain⟨F,l7,rfl,h⟩:=ZD h;obtain⟨G,e7,h⟩:=Zx h;obtain⟨H,l8,rfl,h⟩:=ZD h;obtain⟨I,e8,h⟩:=ZV h;obtain⟨J,l9,rfl,h⟩:=ZD h;obtain⟨K,e9,h⟩:=ZV h;obtain⟨p,L,rfl,h⟩:=ZD h;obtain⟨q,e10,h⟩:=ZV h;obtain⟨t,C,rfl,h⟩:=ZD h;obtain⟨u,e11,h⟩:=ZV h;exact⟨⟨a,b,f,i,n,z,B,⟨G,I,K,q,u⟩⟩,[c0,c,e,g,j,y,A,F,H,J,p,t],C,rfl,.cons e0 (.cons e1 (.cons e2 (.cons e3 (.cons e4 (.cons e5 (.cons e6 (.cons e7 (.cons e8 (.cons e9 (.cons e10 (.cons e11 (.nil)))))))))))),h⟩
    | Pool=>
      obtain⟨c0,l0,rfl,h⟩:=ZD h;obtain⟨a,e0,h⟩:=Zu h;obtain⟨c,d,rfl,h⟩:=ZD h;obtain⟨b,e1,h⟩:=Zu h;obtain⟨e,w,rfl,h⟩:=ZD h;obtain⟨f,e2,h⟩:=Zu h;obtain⟨g,v,rfl,h⟩:=ZD h;obtain⟨i,e3,h⟩:=ZV h;obtain⟨j,o,rfl,h⟩:=ZD h;obtain⟨n,e4,h⟩:=ZV h;obtain⟨y,O,rfl,h⟩:=ZD h;obtain⟨z,e5,h⟩:=ZV h;obtain⟨A,N,rfl,h⟩:=ZD h;obtain⟨B,e6,h⟩:=Zx h;obtain⟨F,l7,rfl,h⟩:=ZD h;obtain⟨G,e7,h⟩:=ZV h;obtain⟨H,l8,rfl,h⟩:=ZD h;obtain⟨I,e8,h⟩:=ZV h;obtain⟨J,l9,rfl,h⟩:=ZD h;obtain⟨K,e9,h⟩:=ZV h;obtain⟨p,L,rfl,h⟩:=ZD h;obtain⟨q,e10,h⟩:=ZV h;obtain⟨t,C,rfl,h⟩:=ZD h;obtain⟨u,e11,h⟩:=Zu h;obtain⟨D,M,rfl,h⟩:=ZD h;obtain⟨E,e12,h⟩:=Zu h;obtain⟨P,l13,rfl,h⟩:=ZD h;obtain⟨Q,e13,h⟩:=Zu h;obtain⟨R,l14,rfl,h⟩:=ZD h;obtain⟨S,e14,h⟩:=Zu h;obtain⟨T,l15,rfl,h⟩:=ZD h;obtain⟨U,e15,h⟩:=Zu h;obtain⟨V,l16,rfl,h⟩:=ZD h;obtain⟨W,X,h⟩:=Zx h;obtain⟨Y,l17,rfl,h⟩:=ZD h;obtain⟨Z,e17,h⟩:=Zx h;obtain⟨c18,l18,rfl,h⟩:=ZD h;obtain⟨a18,e18,h⟩:=ZV h;exact⟨⟨⟨⟨a,b⟩,f,i,n⟩,z,⟨B,G,I,K,q⟩,u,E,Q,S,U,W,Z,a18⟩,[c0,c,e,g,j,y,A,F,H,J,p,t,D,P,R,T,V,Y,c18],l18,rfl,.cons e0 (.cons e1 (.cons e2 (.cons e3 (.cons e4 (.cons e5 (.cons e6 (.cons e7 (.cons e8 (.cons e9 (.cons e10 (.cons e11 (.cons e12 (.cons e13 (.cons e14 (.cons e15 (.cons X (.cons e17 (.cons e18 (.nil))))))))))))))))))),h⟩
    | Signer=>
      obtain⟨c0,l0,rfl,h⟩:=ZD h;obtain⟨a,e0,h⟩:=Zu h;obtain⟨c,d,rfl,h⟩:=ZD h;obtain⟨b,e1,h⟩:=Zx h;exact⟨⟨a,b⟩,[c0,c],d,rfl,.cons e0 (.cons e1 (.nil)),h⟩
    | Part=>
      obtain⟨c0,l0,rfl,h⟩:=ZD h;obtain⟨a,e0,h⟩:=Zx h;obtain⟨c,d,rfl,h⟩:=ZD h;obtain⟨b,e1,h⟩:=Zx h;obtain⟨e,w,rfl,h⟩:=ZD h;obtain⟨f,e2,h⟩:=ZV h;obtain⟨g,v,rfl,h⟩:=ZD h;obtain⟨i,e3,h⟩:=ZV h;obtain⟨j,o,rfl,h⟩:=ZD h;obtain⟨n,e4,h⟩:=Zu h;exact⟨⟨a,b,f,i,n⟩,[c0,c,e,g,j],o,rfl,.cons e0 (.cons e1 (.cons e2 (.cons e3 (.cons e4 (.nil))))),h⟩
    | Stream=>
      obtain⟨c0,l0,rfl,h⟩:=ZD h;obtain⟨a,e0,h⟩:=ZV h;obtain⟨c,d,rfl,h⟩:=ZD h;obtain⟨b,e1,h⟩:=ZV h;obtain⟨e,w,rfl,h⟩:=ZD h;obtain⟨f,e2,h⟩:=Zu h;obtain⟨g,v,rfl,h⟩:=ZD h;obtain⟨i,e3,h⟩:=Zu h;obtain⟨j,o,rfl,h⟩:=ZD h;obtain⟨n,e4,h⟩:=Zu h;exact⟨⟨a,b,f,i,n⟩,[c0,c,e,g,j],o,rfl,.cons e0 (.cons e1 (.cons e2 (.cons e3 (.cons e4 (.nil))))),h⟩
theorem ZSW:∀{t:Ty} {l:List CV} {k:den t->List CV->Option β},tk t l k=some r->∃x d m,l=d++m/\CRs d (spC t x)/\k x m=some r:=λ{t}=>by
  induction t with
  |i=>intro l k h;obtain⟨c,m,rfl,h⟩:=ZD h;obtain⟨x,e,h⟩:=Zx h;exact⟨x,[c],m,rfl,.cons e .nil,h⟩
  |w8=>intro l k h;obtain⟨c,m,rfl,h⟩:=ZD h;obtain⟨x,e,h⟩:=ZGa h;exact⟨x,[c],m,rfl,.cons e .nil,h⟩
  |w32=>intro l k h;obtain⟨c,m,rfl,h⟩:=ZD h;obtain⟨x,e,h⟩:=ZV h;exact⟨x,[c],m,rfl,.cons e .nil,h⟩
  |w64=>intro l k h;obtain⟨c,m,rfl,h⟩:=ZD h;obtain⟨x,e,h⟩:=ZQ1 h;exact⟨x,[c],m,rfl,.cons e .nil,h⟩
  |b=>intro l k h;obtain⟨c,m,rfl,h⟩:=ZD h;obtain⟨x,e,h⟩:=Gu h;exact⟨x,[c],m,rfl,.cons e .nil,h⟩
  |s=>intro l k h;obtain⟨c,m,rfl,h⟩:=ZD h;obtain⟨x,e,h⟩:=ZSm h;exact⟨x,[c],m,rfl,.cons e .nil,h⟩
  |sl t o=>intro l k h;obtain⟨c,m,rfl,h⟩:=ZD h;obtain⟨x,e,h⟩:=Zu h;exact⟨x,[c],m,rfl,.cons e .nil,h⟩
  |st q=>intro l k h;exact ZQb h
  | pr a b f g=>
    intro l k h;obtain⟨x,d,m,rfl,e,h⟩:=f (show tk a l (λa l=>tk b l λb l=>k (a,b) l)=some r from h)
    obtain⟨y,j,n,rfl,e2,h⟩:=g h;exact⟨(x,y),d++j,n,by simp,e.append e2,h⟩
theorem Je{t:Ty}{l:List CV}{k:den t->Option β}(h:oT t l k=some r):∃x,k x=some r/\CRs l (spC t x):=by
 obtain⟨x,b,m,rfl,e,h⟩:=ZSW (show tk t l (λx q=>List.rec (k x) (λ_ _ _=>none) q)=some r from h)
 cases m with
 |cons a m=>cases h
 |nil=>exact⟨x,h,by simpa using e⟩
theorem ZSx{t:Ty}(h:isAg t=true)(x:den t):dV t x=.ag (spC t x):=by
 cases t<;>first|(cases h;done)|rfl
theorem ZRN{t:Ty}(h:isAg t=false)(x:den t):spC t x= [dV t x]:=by
 cases t<;>first|(cases h;done)|rfl
theorem ZSn{t:Ty}{c:CV}{k:den t->Option β}(h:oD t c k=some r):∃x,CLe c (dV t x)/\k x=some r:=by
  have s:∀c,(Bool.rec (oT t [c] k) none (isAg t):Option β)=some r->∃x,CLe c (dV t x)/\k x=some r:=λc h=>by
    cases hi:isAg t with
    |true=>rw[hi]at h;cases h
    | false=>
      rw[hi]at h;obtain⟨x,h,e⟩:=Je h;refine⟨x,λI v a=> ?_,h⟩;have:=e.le I [v] (VRs.cons a VRs.nil);rw[ZRN hi]at this;obtain⟨v',us,e1,e2,_⟩:=this.un;cases e1;exact e2
  cases c with
  | ag l=>
    have h:(Bool.rec none (oT t l k) (isAg t):Option β)=some r:=h;cases hi:isAg t with
    |false=>rw[hi]at h;cases h
    | true=>
      rw[hi]at h;obtain⟨x,h,e⟩:=Je h;refine⟨x,λI v a=> ?_,h⟩;rw[ZSx hi];simp only[VR]at a|-;obtain⟨vs,rfl,a⟩:=a;exact⟨vs,rfl,e.le _ _ a⟩
  |_=>exact s _ h
theorem Br{t u:Ty}{x:Option (den t)}{k:Option (den u)->Option β}(h:castO t u x k=some r):∃e:t=u,k (e▸x)=some r:=by
 unfold castO at h;have a:∀(b:Bool) (e:eqT t u=b),ZRt t u x k b e=some r->∃e:t=u,k (e▸x)=some r:=λb e h=>by
  cases b with
  |false=>cases h
  |true=>exact⟨Vz e,h⟩
 exact a _ _ h
theorem ZLD{h:Hy}{v:HV}{k:Hd h->Option β}(e:toH h v k=some r):∃x,v=ofH h x/\k x=some r:=by
  cases h with
  | d y=>cases v with
    |d z x=>obtain⟨q,e⟩:=Zl e;subst q;exact⟨x,rfl,e⟩
    |_=>cases e
  | n=>cases v with
    |n j=>exact⟨j,rfl,e⟩
    |_=>cases e
  | o y=>cases v with
    |o z x=>obtain⟨q,e⟩:=Br e;subst q;exact⟨x,rfl,e⟩
    |_=>cases e
theorem UX:∀{hs:List Hy} {l:List HV} {k:VH hs->Option β},toVH hs l k=some r->∃x,l=ofVH hs x/\k x=some r
  | [],l,k,h=>by
    cases l with
    |nil=>exact⟨(),rfl,h⟩
    |cons=>cases h
  | [a],l,k,h=>by
    cases l with
    |nil=>cases h
    | cons v vs=>
      have h0:toH a v (λx=>List.rec (k x) (λ_ _ _=>none) vs)=some r:=h;clear h;obtain⟨x,e,h2⟩:=ZLD h0;subst e;cases vs with
      |nil=>exact⟨x,rfl,h2⟩
      |cons=>cases h2
  | a ::b::hs,l,k,h=>by
    cases l with
    |nil=>cases h
    | cons v vs=>
      have h0:toH a v (λx=>toVH (b::hs) vs λy=>k (x,y))=some r:=h;clear h;obtain⟨x,e,h2⟩:=ZLD h0;subst e;obtain⟨y,e,h3⟩:=UX (hs:=b::hs) h2;subst e;exact⟨(x,y),rfl,h3⟩
end
theorem V7{a b:Nat}(h:a≠b):Nat.beq a b=false:=by
 cases hb:Nat.beq a b with
 |false=>rfl
 |true=>exact absurd (TB hb) h
section
variable{α β:Type}{r:β}
theorem ZE (p:Nat×α)(l:List (Nat×α))(i:Nat):ZG (p::l) i=if p.1=i then some p.2 else ZG l i:=by
 show(Bool.rec (ZG l i) (some p.2) (Nat.beq p.1 i):Option α)=_;by_cases h:p.1=i
 . rw[TG h,show Nat.beq p.1 i=true from by simpa using h]
 . rw[TM h,V7 h]
theorem ZAD (p:(Nat×Nat)×α)(l:List ((Nat×Nat)×α))(i j:Nat):lkO (p::l) i j=if p.1=(i,j)then some p.2 else lkO l i j:=by
 obtain⟨⟨a,b⟩,v⟩:=p;show(Bool.rec (lkO l i j) (Bool.rec (lkO l i j) (some v) (Nat.beq b j)) (Nat.beq a i):Option α)=_;by_cases h:a=i
 . rw[show Nat.beq a i=true from by simpa using h];by_cases h2:b=j
   . rw[show Nat.beq b j=true from by simpa using h2];simp[h,h2]
   . rw[V7 h2];simp[h,h2]
 . rw[V7 h];simp[h]
theorem Xu{l:List Nat}{i:Nat}:QF l i=true↔i∈l:=by
  induction l with
  |nil=>simp[QF]
  | cons a l b=>
    show(Bool.rec (QF l i) true (Nat.beq a i):Bool)=true↔_;by_cases h:a=i
    . rw[show Nat.beq a i=true from by simpa using h];simp[h]
    . rw[V7 h];simp only[b,Ta];exact⟨.inr,λk=>k.resolve_left (λe=>h e.symm)⟩
theorem ZW{f:α->Bool}{l:List α}:allB f l=true↔∀a∈l,f a=true:=by
  induction l with
  |nil=>simp[allB]
  | cons a l i=>
    show(Bool.rec false (allB f l) (f a):Bool)=true↔_;cases h:f a with
    |false=>simp[h]
    |true=>simp[h,i]
theorem ZBK{c:CV}{k:CV->Option β}(h:kn c k=some r):c≠.unk/\k c=some r:=by
 cases c<;>first|(cases h;done)|exact⟨by simp,h⟩
end
def PS.st (s:PS)(d:Nat)(c:CV):PS:=⟨s.N,(d,c)::s.l,s.o,s.z,s.n,s.f,s.c,s.r⟩
def dN (v:Value):Nat:=match v with| .int .u64 n=>n.toNat|_=>0
def RwOk (H:Heaplet)(v:Value)(K:Own):RC->Prop
 | .own t E m=>RowOf H (RT t) 0 E (szY t) v m K
 | .pub t m=>IsSlice H (RT t) (szY t) v m
 | .mrk E m=>RowOfM H RU8 0 E 1 v m K
 | .dead=>True
 | .junk=>K= [(dN v,.deferred (some []))]
theorem RwOk.mono{H a:Heaplet}{v:Value}{K:Own}:∀{c:RC},Hle H a->RwOk H v K c->RwOk a v K c
 | .own t E m,h,k=>RowOf.mono (RT.mono t) h k
 | .pub t m,h,k=>IsSlice.mono (RT.mono t) h k
 | .mrk E m,h,k=>RowOfM.mono RU8.mono h k
 | .dead,h,k=>trivial
 | .junk,h,k=>k
structure RS (x:Cx) (s:PS) (I:In) (seg:Nat->Own) (l:Slots) (own:List Own) (H:Heaplet):Prop where
  N:s.N=x.n
  H:I.H=H
  n:I.n=s.n
  q:I.q=s.c
  own:own=(List.range s.n).map seg
  sl:∀t c,ZG s.l t=some c->c=.unk\/∃v,lk l t=some v/\VR I c v
  ze:∀a m,ZG s.z a=some m->a<s.n/\∃cur T,seg a= [((I.ν a).1,.cells cur T (0,0))]/\cur.size=m
  ce:∀a o c,lkO s.o a o=some c->c=.unk\/(a<s.n/\∃cur T v,seg a= [((I.ν a).1,.cells cur T (0,0))]/\cur.toList[o]? =some v/\VR I c v)
  fx:∀c∈s.f,c<s.c/\I.κ c<MAX
  rw:∀k c,ZG s.r k=some c->c=.dead\/(k<s.n/\RwOk I.H (I.ν k).2 (seg k) c)
  rz:∀k c,ZG s.r k=some c->c=.dead\/ZG s.z k=none
  ro:∀k c o d,ZG s.r k=some c->lkO s.o k o=some d->c=.dead\/d=.unk
structure Ext (s t:PS):Prop where
  N:t.N=s.N
  l:∃m,t.l=m++s.l
  o:∃m,t.o=m++s.o
  z:∃m,t.z=m++s.z/\∀p∈m,s.n<=p.1
  n:s.n<=t.n
  f:∃m,t.f=m++s.f
  c:s.c<=t.c
  r:∃m,t.r=m++s.r
theorem Pg (s:PS):Ext s s:=⟨rfl,⟨[],rfl⟩,⟨[],rfl⟩,⟨[],rfl,by simp⟩,TL _,⟨[],rfl⟩,TL _,⟨[],rfl⟩⟩
theorem Ext.trans{s t u:PS}(h:Ext s t)(k:Ext t u):Ext s u:=by
 obtain⟨m,e1⟩:=h.l;obtain⟨b,e2⟩:=k.l;obtain⟨d,e⟩:=h.o;obtain⟨g,i⟩:=k.o;obtain⟨j,q,v⟩:=h.z;obtain⟨w,x,y⟩:=k.z;obtain⟨A,B⟩:=h.f;obtain⟨C,D⟩:=k.f;obtain⟨E,F⟩:=h.r;obtain⟨G,H⟩:=k.r;refine⟨k.N.trans h.N,⟨b++m,by rw[e2,e1,TI]⟩,⟨g++d,by rw[i,e,TI]⟩,⟨w++j,by rw[x,q,TI],λp a=> ?_⟩,TQ h.n k.n,⟨C++A,by rw[D,B,TI]⟩,TQ h.c k.c,⟨G++E,by rw[H,F,TI]⟩⟩;rcases TU.1 a with a|a
 . exact TQ h.n (y p a)
 . exact v p a
theorem Ext.st (s:PS)(d:Nat)(c:CV):Ext s (s.st d c):=⟨rfl,⟨[(d,c)],rfl⟩,⟨[],rfl⟩,⟨[],rfl,by simp⟩,TL _,⟨[],rfl⟩,TL _,⟨[],rfl⟩⟩
section
variable{β:Type}{r:β}{x:Cx}{s:PS}{I:In}{seg:Nat->Own}{l:Slots}{own:List Own}{H:Heaplet}
theorem Yj{d:Nat}{c:CV}{k:PS->Option β}(h:s.put d c k=some r):Nat.blt d s.N=true/\k (s.st d c)=some r:=by
 unfold PS.put at h;rw[ZJU]at h;obtain⟨h1,h2⟩:=ZA h;exact⟨h1,h2⟩
theorem RS.put (h:RS x s I seg l own H){d:Nat}{c:CV}{v:Value}(a:VR I c v):RS x (s.st d c) I seg ((d,v)::l) own H:=by
 refine⟨h.N,h.H,h.n,h.q,h.own,λt c' e=> ?_,h.ze,h.ce,h.fx,h.rw,h.rz,h.ro⟩;have e:ZG ((d,c)::s.l) t=some c':=e;rw[ZE]at e;by_cases q:d=t
 . subst q;rw[TG rfl]at e;cases e;exact .inr ⟨v,by simp[lk],a⟩
 . rw[TM q]at e;have hb:=V7 q;rcases h.sl t c' e with h1|⟨u,h1,h2⟩
   . exact .inl h1
   . exact .inr ⟨u,by simp[lk,hb,h1],h2⟩
theorem ZJw{v:Value}{c:CV}(h:vC v=some c):VR I c v:=by
  unfold vC at h;split at h
  . cases h;simp only[VR]
  . rename_i n;have h:(Bool.rec none (some (.w8 (UInt8.ofNat n.toNat))) (Bool.and (decide (0<=n)) (decide (n<256))):Option CV)=some c:=h;cases hb:(Bool.and (decide (0<=n)) (decide (n<256)))with
    |false=>rw[hb]at h;cases h
    | true=>
      rw[hb]at h;cases h;simp only[TE,SF]at hb;simp only[VR];congr 1;rw[Rs];omega
  . rename_i n;have h:(Bool.rec none (some (.w32 (UInt32.ofNat n.toNat))) (Bool.and (decide (0<=n)) (decide (n<4294967296))):Option CV)=some c:=h;cases hb:(Bool.and (decide (0<=n)) (decide (n<4294967296)))with
    |false=>rw[hb]at h;cases h
    | true=>
      rw[hb]at h;cases h;simp only[TE,SF]at hb;simp only[VR];congr 1;rw[UInt32.toNat_ofNat'];omega
  . rename_i n;have h:(Bool.rec none (some (.w64 (UInt64.ofNat n.toNat))) (Bool.and (decide (0<=n)) (decide (n<18446744073709551616))):Option CV)=some c:=h;cases hb:(Bool.and (decide (0<=n)) (decide (n<18446744073709551616)))with
    |false=>rw[hb]at h;cases h
    | true=>
      rw[hb]at h;cases h;simp only[TE,SF]at hb;simp only[VR];congr 1;rw[RM];omega
  . cases h;simp only[VR]
  . cases h;simp only[VR];rfl
  . cases h;simp only[VR]
  . cases h;simp only[VR]
  . cases h;simp only[VR]
  . cases h;simp only[VR]
  . cases h
theorem ZDQ:∀{l:List Value} {k:List CV->Option β},vCs l k=some r->∃m,VRs I m l/\k m=some r
  |[],k,h=>⟨[],VRs.nil,h⟩
  | v::l,k,h=>by
    obtain⟨c,e,h⟩:=ZU (show oB (vC v) (λc=>vCs l λr=>k (c::r))=some r from h)
    obtain⟨m,e2,h⟩:=ZDQ h;exact⟨c::m,VRs.cons (ZJw e) e2,h⟩
theorem ZLO (hs:RS x s I seg l own H){c:CV}{v:Value}{k:CV->Option β}(a:VR I c v)(h:rsv s c k=some r):∃c',VR I c' v/\k c'=some r:=by
 unfold rsv at h;split at h
 . rename_i j;split at h
   . rename_i t m e;rcases hs.rw _ _ e with h1|⟨_,h1⟩
     . cases h1
     . simp only[VR]at a;obtain⟨_,rfl,_⟩:=a;exact⟨.sl t m,by simp only[VR];exact h1,h⟩
   . exact⟨_,a,h⟩
   . exact⟨_,a,h⟩
   . cases h
 . exact⟨_,a,h⟩
theorem ZJD (hs:RS x s I seg l own H):∀{cs:List CV} {vs:List Value} {k:List CV->Option β},VRs I cs vs->rsvD s cs k=some r->∃a,VRs I a vs/\k a=some r
  |[],vs,k,b,h=>⟨[],b,h⟩
  | c::cs,vs,k,b,h=>by
    obtain⟨v,us,rfl,h1,h2⟩:=b.un;obtain⟨c',e,h⟩:=ZLO hs h1 (show rsv s c (λc=>rsvD s cs λr=>k (c::r))=some r from h)
    obtain⟨a,e2,h⟩:=ZJD hs h2 h;exact⟨c'::a,VRs.cons e e2,h⟩
theorem ZT (hs:RS x s I seg l own H){o:Operand}{k:CV->Option β}(h:ev s o k=some r):∃c v,evo l o=some v/\VR I c v/\k c=some r:=by
 unfold ev at h;split at h
 . obtain⟨c,e,h⟩:=ZU h;obtain⟨h0,h⟩:=ZBK h;obtain⟨v,e1,e2⟩:=(hs.sl _ _ e).resolve_left h0;obtain⟨c',e3,h⟩:=ZLO hs e2 h;exact⟨c',v,e1,e3,h⟩
 . rename_i v;split at h
   . rename_i cs;obtain⟨m,e,h⟩:=ZDQ (I:=I) h;exact⟨_,_,rfl,by simp only[VR];exact⟨_,rfl,e⟩,h⟩
   . obtain⟨c,e,h⟩:=ZU h;rw[ZJU]at h;exact⟨c,_,rfl,ZJw e,h⟩
 . exact⟨_,_,rfl,by simp only[VR],h⟩
 . cases h
theorem ZD3 (hs:RS x s I seg l own H):∀{os:List Operand} {k:List CV->Option β},evL s os k=some r->∃cs vs,os.mapM (evo l)=some vs/\VRs I cs vs/\k cs=some r
  |[],k,h=>⟨[],[],rfl,VRs.nil,h⟩
  | o::os,k,h=>by
    obtain⟨c,v,e1,e2,h⟩:=ZT hs (show ev s o (λc=>evL s os λr=>k (c::r))=some r from h)
    obtain⟨cs,vs,e3,e4,h⟩:=ZD3 hs h;exact⟨c::cs,v::vs,by simp[SZ,e1,e3],VRs.cons e2 e4,h⟩
theorem ZHz (hs:RS x s I seg l own H):∀{os:List (Nat×Operand)} {k:List (Nat×CV)->Option β},evP s os k=some r->∃(cs:List (Nat×CV)) (vs:List (Nat×Value)),os.mapM (λp=>(evo l p.2).map (λu=>(p.1,u)))=some vs/\cs.map (·.1)=vs.map (·.1)/\VRs I (cs.map (·.2)) (vs.map (·.2))/\k cs=some r
  |[],k,h=>⟨[],[],rfl,rfl,VRs.nil,h⟩
  | o::os,k,h=>by
    obtain⟨c,v,e1,e2,h⟩:=ZT hs (show ev s o.2 (λc=>evP s os λr=>k ((o.1,c)::r))=some r from h)
    obtain⟨cs,vs,e3,e5,e4,h⟩:=ZHz hs h;exact⟨(o.1,c)::cs,(o.1,v)::vs,by simp[SZ,e1,e3],by simp[e5],VRs.cons e2 e4,h⟩
end
section
variable{β:Type}{r:β}{x:Cx}{s:PS}{I:In}{seg:Nat->Own}{l:Slots}{own:List Own}{H:Heaplet}
variable{p q:Operand}{t u:TypeId}{ty:TypeId}{k:CV->Option β}
abbrev Yl (x:Cx)(I:In)(op:Op)(ty:TypeId)(l:Slots)(M:List Own->Heaplet->Prop)(k:CV->Option β)(r:β):Prop:=∃c v,(∀own H,M own H->Runs x op ty l own H v)/\VR I c v/\k c=some r
variable{M:List Own->Heaplet->Prop}
theorem Yl.of{op:Op}{c:CV}{v:Value}(a:∀own H,M own H->Runs x op ty l own H v)(b:VR I c v)(h:k c=some r):Yl x I op ty l M k r:=⟨c,v,a,b,h⟩
theorem ZRx{op:BinOp}{m n:Int}(h1:evo l p=some (.int .i64 m))(h2:evo l q=some (.int .i64 n))(h:bI op m n k=some r):Yl x I (.binOp op t p q u) ty l M k r:=by
 cases op with
 |add=>exact Yl.of (λ_ _ _=>ZGn h1 h2) (by simp only[VR]) h
 |sub=>exact Yl.of (λ_ _ _=>ZOx h1 h2) (by simp only[VR]) h
 |mul=>exact Yl.of (λ_ _ _=>ZO4 h1 h2) (by simp only[VR]) h
 |quo=>exact Yl.of (λ_ _ _=>ZO0 h1 h2 (ZH h).1) (by simp only[VR]) (ZH h).2
 |rem=>exact Yl.of (λ_ _ _=>ZTh h1 h2 (ZH h).1) (by simp only[VR]) (ZH h).2
 |and=>exact Yl.of (λ_ _ _=>ZT1 h1 h2) (by simp only[VR]) h
 |or=>exact Yl.of (λ_ _ _=>ZVK h1 h2) (by simp only[VR]) h
 |xor=>exact Yl.of (λ_ _ _=>ZTZ h1 h2) (by simp only[VR]) h
 |lss=>exact Yl.of (λ_ _ _=>ZKs h1 h2) (by simp only[VR]) h
 |leq=>exact Yl.of (λ_ _ _=>ZO5 h1 h2) (by simp only[VR]) h
 |gtr=>exact Yl.of (λ_ _ _=>ZO7 h1 h2) (by simp only[VR]) h
 |geq=>exact Yl.of (λ_ _ _=>ZO8 h1 h2) (by simp only[VR]) h
 |eql=>exact Yl.of (λ_ _ _=>ZO9 h1 h2) (by simp only[VR]) h
 |neq=>exact Yl.of (λ_ _ _=>ZO3 h1 h2) (by simp only[VR]) h
 |shl=>exact Yl.of (λ_ _ _=>ZOz h1 h2 (ZH h).1) (by simp only[VR]) (ZH h).2
 |shr=>exact Yl.of (λ_ _ _=>ZOy h1 h2 (ZH h).1) (by simp only[VR]) (ZH h).2
 |_=>cases h
theorem b8_ok{op:BinOp}{m n:UInt8}(h1:evo l p=some (.int .u8 (m.toNat:Int)))(h2:evo l q=some (.int .u8 (n.toNat:Int)))(h:b8 op m n k=some r):Yl x I (.binOp op t p q u) ty l M k r:=by
 cases op with
 |add=>exact Yl.of (λ_ _ _=>ZVY h1 h2) (by simp only[VR]) h
 |sub=>exact Yl.of (λ_ _ _=>ZVC h1 h2) (by simp only[VR]) h
 |mul=>exact Yl.of (λ_ _ _=>ZVO h1 h2) (by simp only[VR]) h
 |quo=>exact Yl.of (λ_ _ _=>ZVJ h1 h2 (ZH h).1) (by simp only[VR]) (ZH h).2
 |rem=>exact Yl.of (λ_ _ _=>ZVI h1 h2 (ZH h).1) (by simp only[VR]) (ZH h).2
 |and=>exact Yl.of (λ_ _ _=>ZVX h1 h2) (by simp only[VR]) h
 |or=>exact Yl.of (λ_ _ _=>R.or8 h1 h2) (by simp only[VR]) h
 |xor=>exact Yl.of (λ_ _ _=>ZVB h1 h2) (by simp only[VR]) h
 |lss=>exact Yl.of (λ_ _ _=>ZVQ h1 h2) (by simp only[VR]) h
 |leq=>exact Yl.of (λ_ _ _=>ZVR h1 h2) (by simp only[VR]) h
 |gtr=>exact Yl.of (λ_ _ _=>ZVU h1 h2) (by simp only[VR]) h
 |geq=>exact Yl.of (λ_ _ _=>ZVV h1 h2) (by simp only[VR]) h
 |eql=>exact Yl.of (λ_ _ _=>ZVW h1 h2) (by simp only[VR]) h
 |neq=>exact Yl.of (λ_ _ _=>ZVN h1 h2) (by simp only[VR]) h
 |_=>cases h
theorem ZVA{op:BinOp}{m n:UInt32}(h1:evo l p=some (.int .u32 (m.toNat:Int)))(h2:evo l q=some (.int .u32 (n.toNat:Int)))(h:b32 op m n k=some r):Yl x I (.binOp op t p q u) ty l M k r:=by
 cases op with
 |add=>exact Yl.of (λ_ _ _=>ZT3 h1 h2) (by simp only[VR]) h
 |sub=>exact Yl.of (λ_ _ _=>ZTd h1 h2) (by simp only[VR]) h
 |mul=>exact Yl.of (λ_ _ _=>ZTp h1 h2) (by simp only[VR]) h
 |quo=>exact Yl.of (λ_ _ _=>ZTl h1 h2 (ZH h).1) (by simp only[VR]) (ZH h).2
 |rem=>exact Yl.of (λ_ _ _=>ZTj h1 h2 (ZH h).1) (by simp only[VR]) (ZH h).2
 |and=>exact Yl.of (λ_ _ _=>ZT2 h1 h2) (by simp only[VR]) h
 |or=>exact Yl.of (λ_ _ _=>ZVM h1 h2) (by simp only[VR]) h
 |xor=>exact Yl.of (λ_ _ _=>ZTb h1 h2) (by simp only[VR]) h
 |lss=>exact Yl.of (λ_ _ _=>ZTs h1 h2) (by simp only[VR]) h
 |leq=>exact Yl.of (λ_ _ _=>ZTu h1 h2) (by simp only[VR]) h
 |gtr=>exact Yl.of (λ_ _ _=>ZTw h1 h2) (by simp only[VR]) h
 |geq=>exact Yl.of (λ_ _ _=>ZTy h1 h2) (by simp only[VR]) h
 |eql=>exact Yl.of (λ_ _ _=>ZT0 h1 h2) (by simp only[VR]) h
 |neq=>exact Yl.of (λ_ _ _=>ZTn h1 h2) (by simp only[VR]) h
 |_=>cases h
theorem ZU9{op:BinOp}{m n:UInt64}(h1:evo l p=some (.int .u64 (m.toNat:Int)))(h2:evo l q=some (.int .u64 (n.toNat:Int)))(h:b64 op m n k=some r):Yl x I (.binOp op t p q u) ty l M k r:=by
 cases op with
 |add=>exact Yl.of (λ_ _ _=>ZER h1 h2) (by simp only[VR]) h
 |sub=>exact Yl.of (λ_ _ _=>ZTc h1 h2) (by simp only[VR]) h
 |mul=>exact Yl.of (λ_ _ _=>ZBW h1 h2) (by simp only[VR]) h
 |quo=>exact Yl.of (λ_ _ _=>ZTk h1 h2 (ZH h).1) (by simp only[VR]) (ZH h).2
 |rem=>exact Yl.of (λ_ _ _=>ZTi h1 h2 (ZH h).1) (by simp only[VR]) (ZH h).2
 |and=>exact Yl.of (λ_ _ _=>ZGm h1 h2) (by simp only[VR]) h
 |or=>exact Yl.of (λ_ _ _=>ZVL h1 h2) (by simp only[VR]) h
 |xor=>exact Yl.of (λ_ _ _=>ZTa h1 h2) (by simp only[VR]) h
 |lss=>exact Yl.of (λ_ _ _=>ZTr h1 h2) (by simp only[VR]) h
 |leq=>exact Yl.of (λ_ _ _=>ZTt h1 h2) (by simp only[VR]) h
 |gtr=>exact Yl.of (λ_ _ _=>ZEQ h1 h2) (by simp only[VR]) h
 |geq=>exact Yl.of (λ_ _ _=>ZTx h1 h2) (by simp only[VR]) h
 |eql=>exact Yl.of (λ_ _ _=>ZTz h1 h2) (by simp only[VR]) h
 |neq=>exact Yl.of (λ_ _ _=>ZTm h1 h2) (by simp only[VR]) h
 |_=>cases h
theorem ZKn{op:BinOp}{a:CV}{v:Value}{n:Int}(h1:evo l p=some v)(b:VR I a v)(h2:evo l q=some (.int .i64 n))(h:ZRw op a n k=some r):Yl x I (.binOp op t p q u) ty l M k r:=by
 unfold ZRw at h;split at h
 . simp only[VR]at b;subst b;exact ZRx h1 h2 h
 . simp only[VR]at b;obtain⟨_,_,rfl⟩:=b;exact ZRx h1 h2 h
 . simp only[VR]at b;obtain⟨_,rfl⟩:=b;exact ZRx h1 h2 h
 . cases h
theorem ZHr{P:Program}{T:Nat}(h:isInt P T=true):∃k,P.underlying T=some (.int k):=by
 unfold isInt at h;split at h
 . rename_i k e;exact⟨k,e⟩
 . cases h
theorem ZJV{P:Program}{T:Nat}(h:eqOk P T=true):P.underlying T=some (.struct (P.fieldsOf T))/\P.stoodInHeld T=false/\P.eqGuardType P.depth T=false:=by
 unfold eqOk at h;simp only[TE,Bool.not_eq_true']at h;obtain⟨h1,h2,h3⟩:=h;refine⟨?_,h2,h3⟩;split at h1
 . rename_i fs e;simp[Program.fieldsOf,e]
 . cases h1
theorem ZML{α:Type}{a:Array α}{o n:Nat}:(a.extract o (o+n)).toList=(a.toList.drop o).take n:=by
 simp[Array.toList_extract,List.extract_eq_take_drop]
theorem ZD4{P:Program}{d:Nat}{ih:Nat->List CV->List CV->(Bool->Option β)->Option β}{xs ys:List CV}{vs us:List Value}(hx:VRs I xs vs)(hy:VRs I ys us)
    (hi:∀(T:Nat) (xs ys:List CV) (vs us:List Value) (k:Bool->Option β),VRs I xs vs->VRs I ys us->ih T xs ys k=some r->eqOk P T=true/\∃b,EqF P d vs.toArray us.toArray (P.fieldsOf T).toList b/\k b=some r):
    ∀{fs:List Field} {k:Bool->Option β},ZRc P ih xs ys fs k=some r->∃b,EqF P (d+1) vs.toArray us.toArray fs b/\k b=some r
  |[],k,h=>⟨true,EqF.nil,h⟩
  | f ::fs,k,h=>by
    have h : bb (decide (f.name ≠ "_")) (match ZC P f.type with
      |some (true,n)=>bb (Bool.and (Nat.ble (f.offset+n) xs.length) (Nat.ble (f.offset+n) ys.length)) (ih f.type ((xs.drop f.offset).take n) ((ys.drop f.offset).take n) λe=>ZRc P ih xs ys fs λr=>k (and e r)) none
      |some (false,_)=>oB xs[f.offset]? λx=>oB ys[f.offset]? λy=>bb (isInt P f.type) (eqC x y λe=>ZRc P ih xs ys fs λr=>k (and e r)) none
      |none=>none) none=some r:=h
    obtain⟨hn,h⟩:=ZA h;have hn:=TC hn;split at h
    . rename_i n hsh;obtain⟨_,h⟩:=ZA h;obtain⟨ho,b,e1,h⟩:=hi _ _ _ _ _ _ (VRs.take n (VRs.drop f.offset hx)) (VRs.take n (VRs.drop f.offset hy)) h;obtain⟨o1,o2,o3⟩:=ZJV ho;obtain⟨b2,e2,h⟩:=ZD4 hx hy hi h;refine⟨b&&b2,EqF.s hn hsh o1 o2 rfl ?_ ?_ e1 e2,h⟩
      . apply RG.1;rw[ZML]
      . apply RG.1;rw[ZML]
    . rename_i n hsh;obtain⟨a,ea,h⟩:=ZU h;obtain⟨b,eb,h⟩:=ZU h;obtain⟨hI,h⟩:=ZA h;obtain⟨kk,hu⟩:=ZHr hI;obtain⟨va,fa,ga⟩:=hx.get ea;obtain⟨vb,fb,gb⟩:=hy.get eb;unfold eqC at h;split at h
      . simp only[VR]at ga gb;subst ga;subst gb;obtain⟨b2,e2,h⟩:=ZD4 hx hy hi h;exact⟨_,EqF.i hn hsh hu (by simpa using fa) (by simpa using fb) e2,h⟩
      . simp only[VR]at ga gb;subst ga;subst gb;obtain⟨b2,e2,h⟩:=ZD4 hx hy hi h;exact⟨_,EqF.u8 hn hsh hu (by simpa using fa) (by simpa using fb) e2,h⟩
      . simp only[VR]at ga gb;subst ga;subst gb;obtain⟨b2,e2,h⟩:=ZD4 hx hy hi h;exact⟨_,EqF.u32 hn hsh hu (by simpa using fa) (by simpa using fb) e2,h⟩
      . cases h
    . cases h
theorem ZRd{P:Program}:∀{n d T:Nat} {xs y:List CV} {vs us:List Value} {k:Bool->Option β},n<=d->VRs I xs vs->VRs I y us->eqA P n T xs y k=some r->eqOk P T=true/\∃b,EqF P d vs.toArray us.toArray (P.fieldsOf T).toList b/\k b=some r
  |0,d,T,xs,y,vs,us,k,e,a,c,h=>by cases h
  |n+1,0,T,xs,y,vs,us,k,e,a,c,h=>by omega
  | n+1,d+1,T,xs,y,vs,us,k,e,a,c,h=>by
    obtain⟨h1,h⟩:=ZA (show bb (eqOk P T) (ZRc P (eqA P n) xs y (P.fieldsOf T).toList k) none=some r from h)
    exact⟨h1,ZD4 a c (λT xs y vs us k e1 e2 e3=>ZRd (by omega) e1 e2 e3) h⟩
end
end Go.Pv
namespace Go.Ow
open Go.RowKit
variable{x:Cx}{ops:Array Oper}{Q:Exit->Act->World->Prop}{rest:List Oper}{l:Slots}{own:List Own}{H HF:Heaplet}
structure Tab where
  shp:List (Nat×(Bool×Nat))
  fof:List (Nat×(Nat×Nat))
  zer:List (Nat×Value)
  plc:List (Nat×List (Nat×Nat))
def tl{β:Type}(i:Nat):List (Nat×β)->Option β
 |[]=>none
 |(k,v)::r=>bif Nat.beq k i then some v else tl i r
def tl2 (i j:Nat):List (Nat×(Nat×Nat))->Option Nat
 |[]=>none
 |(k,q,v)::r=>bif Nat.beq k i&&Nat.beq q j then some v else tl2 i j r
def Each{α:Type}(p:α->Prop):List α->Prop
 |[]=>True
 |a::r=>p a/\Each p r
structure Tab.Ok (tb:Tab) (P:Program):Prop where
  shp:Each (λe=>ZC P e.1=some e.2) tb.shp
  fof:Each (λe=>XG P e.1 e.2.1=some e.2.2) tb.fof
  zer:Each (λe=>Yx P e.1=some e.2) tb.zer
  plc:Each (λe=>KI P e.1=some e.2) tb.plc
theorem ZI4{β:Type}{p:Nat->β->Prop}{i:Nat}{v:β}:∀{l:List (Nat×β)},Each (λe=>p e.1 e.2) l->tl i l=some v->p i v
  |[],_,h=>by cases h
  | (k,u)::r,h,e=>by
    simp only[tl]at e;cases hb:Nat.beq k i with
    |true=>rw[hb]at e;have:=TB hb;subst this;cases e;exact h.1
    |false=>rw[hb]at e;exact ZI4 h.2 e
theorem ZM9{p:Nat->Nat->Nat->Prop}{i j v:Nat}:∀{l:List (Nat×(Nat×Nat))},Each (λe=>p e.1 e.2.1 e.2.2) l->tl2 i j l=some v->p i j v
  |[],_,h=>by cases h
  | (k,q,u)::r,h,e=>by
    simp only[tl2]at e;cases hb:Nat.beq k i with
    | true=>
      cases a:Nat.beq q j with
      |true=>rw[hb,a]at e;have:=TB hb;have:=TB a;subst_vars;cases e;exact h.1
      |false=>rw[hb,a]at e;exact ZM9 h.2 e
    |false=>rw[hb]at e;exact ZM9 h.2 e
def evs (l:Slots):List Operand->Option (List Value)
  |[]=>some []
  | o ::r=>match evo l o with
    | some v=>match evs l r with
      |some vs=>some (v::vs)
      |none=>none
    |none=>none
theorem ZKc{l:Slots}:∀{os:List Operand} {vs:List Value},evs l os=some vs->os.mapM (evo l)=some vs
  |[],vs,h=>by simp[evs]at h;simp[h]
  | o ::r,vs,h=>by
    simp only[evs]at h;split at h
    . rename_i v a;split at h
      . rename_i us b;cases h;simp[SZ,a,ZKc b]
      . cases h
    . cases h
def evp (l:Slots):List (Nat×Operand)->Option (List (Nat×Value))
  |[]=>some []
  | (k,o)::r=>match evo l o with
    | some v=>match evp l r with
      |some vs=>some ((k,v)::vs)
      |none=>none
    |none=>none
theorem ZRb{l:Slots}:∀{os:List (Nat×Operand)} {vs:List (Nat×Value)},evp l os=some vs->os.mapM (λp=>(evo l p.2).map (λu=>(p.1,u)))=some vs
  |[],vs,h=>by simp[evp]at h;simp[h]
  | (k,o)::r,vs,h=>by
    simp only[evp]at h;split at h
    . rename_i v a;split at h
      . rename_i us b;cases h;simp[SZ,a,ZRb b]
      . cases h
    . cases h
def spine{α β:Type}:List α->(List α->Option β)->Option β
 |[],k=>k []
 |a::r,k=>spine r (λb=>k (a::b))
theorem Gf{α β:Type}:∀(l:List α) (k:List α->Option β),spine l k=k l
 |[],_=>rfl
 |a::r,k=>by unfold spine;rw[Gf r]
def binI (op:BinOp)(m n:Int):Option Value:=match op with
 | .add=>some (.int .i64 (w64 (m+n)))
 | .sub=>some (.int .i64 (w64 (m-n)))
 | .mul=>some (.int .i64 (w64 (m*n)))
 | .lss=>some (.bool (decide (m<n)))
 | .leq=>some (.bool (decide (m<=n)))
 | .gtr=>some (.bool (decide (n<m)))
 | .geq=>some (.bool (decide (n<=m)))
 | .eql=>some (.bool (decide (m=n)))
 | .neq=>some (.bool (!decide (m=n)))
 |_=>none
def vop (tb :Tab)(own:List Own)(l:Slots)(hs:List Nat):Op->Option (Value×List Nat×List Nat×List Nat)
  | .move o=>match evo l o with
    |some v=>some (v,hs,[],[])
    |none=>none
  | .assign o=>match evo l o with
    |some v=>some (v,hs,[],[])
    |none=>none
  | .nilCheck o=>match evo l o with
    |some (.pointer (some a))=>some (.pointer (some a),hs,[],[])
    |_=>none
  | .pick c a b=>match evo l c with
    | some (.bool true)=>match evo l a with
      |some v=>some (v,hs,[],[])
      |none=>none
    | some (.bool false)=>match evo l b with
      |some v=>some (v,hs,[],[])
      |none=>none
    |_=>none
  | .unOp .not _ o=>match evo l o with
    |some (.bool b)=>some (.bool (!b),hs,[],[])
    |_=>none
  | .extract o i=>match evo l o with
    | some (.tuple vs)=>match vs.toList[i]? with
      |some v=>some (v,hs,[],[])
      |none=>none
    |_=>none
  | .binOp op _ a b _=>match evo l a with
    | some (.int .i64 m)=>match evo l b with
      | some (.int .i64 n)=>match binI op m n with
        |some v=>some (v,hs,[],[])
        |none=>none
      |_=>none
    |_=>none
  | .fieldAddr S o k=>match evo l o with
    | some (.pointer (some ⟨b,q,none⟩))=>match tl2 S k tb.fof with
      |some n=>some (.pointer (some ⟨b,q+n,none⟩),hs,[],[])
      |none=>none
    |_=>none
  | .load T o=>match evo l o with
    | some (.pointer (some ⟨b,q,none⟩))=>match hs with
      | i ::h=>match own[i]? with
        | some [(e,.cells cur t j)]=>match tl T tb.shp with
          | some (false,_)=>match cur.toList[q]? with
            |some v=>some (v,h,[b],[e])
            |none=>none
          | some (true,n)=>spine ((cur.toList.drop q).take n) λvs=>
            bif Nat.beq vs.length n then some (.agg vs.toArray,h,[b],[e])else none
          |none=>none
        |_=>none
      |[]=>none
    |_=>none
  | .makeFunc fn fs cs=>match evs l fs.toList with
    | some f=>match evs l cs.toList with
      |some g=>some (.func fn f.toArray g.toArray,hs,[],[])
      |none=>none
    |none=>none
  | .build T d=>match evp l d.toList with
    | some vs=>match tl T tb.zer with
      | some z=>match tl T tb.plc with
        |some p=>bif vs.all (fitsP p z.cells.toList.length)then spine (setP p z.cells.toList vs) λcs=>some (.agg cs.toArray,hs,[],[])else none
        |none=>none
      |none=>none
    |none=>none
  |_=>none
theorem ZLA{tb:Tab}{own:List Own}{l:Slots}{hs:List Nat}{op:Op}{r:Value×List Nat×List Nat×List Nat}(h:vop tb own l hs op=some r):noDefer op=true:=by
 cases op<;>first|rfl|(simp[vop]at h)
theorem ZQV {x:Cx}{tb:Tab}(ht:tb.Ok x.P){own:List Own}{l:Slots}{H:Heaplet}{hs e e1 e2:List Nat}{op:Op}{ty:TypeId}{v:Value}
    (h:vop tb own l hs op=some (v,e,e1,e2))(i:e1=e2):Runs x op ty l own H v:=by
  unfold vop at h;split at h
  . split at h<;>first|cases h|skip
    rename_i d;exact XJ d
  . split at h<;>first|cases h|skip
    rename_i d;exact ZA0 d
  . split at h<;>first|cases h|skip
    rename_i d;exact DA d
  . split at h
    . rename_i f;split at h<;>first|cases h|skip
      rename_i d;exact ZO1 f d
    . rename_i f;split at h<;>first|cases h|skip
      rename_i d;exact ZO2 f d
    . cases h
  . split at h<;>first|cases h|skip
    rename_i d;exact ZRz d
  . split at h
    . rename_i d;split at h<;>first|cases h|skip
      rename_i hi;exact R.extract d (by simpa using hi)
    . cases h
  . split at h
    . rename_i h1;split at h
      . rename_i h2;split at h
        . rename_i h3;cases h;unfold binI at h3;split at h3<;>first|(cases h3;done)|skip
          . cases h3;exact ZGn h1 h2
          . cases h3;exact ZOx h1 h2
          . cases h3;exact ZO4 h1 h2
          . cases h3;exact ZKs h1 h2
          . cases h3;exact ZO5 h1 h2
          . cases h3;exact ZO7 h1 h2
          . cases h3;exact ZO8 h1 h2
          . cases h3;exact ZO9 h1 h2
          . cases h3;exact ZO3 h1 h2
        . cases h
      . cases h
    . cases h
  . split at h
    . rename_i h1;split at h
      . rename_i h2;cases h;exact ZMr (ZM9 (p:=λa b c=>XG x.P a b=some c) ht.fof h2) h1
      . cases h
    . cases h
  . split at h
    . rename_i h1;split at h
      . split at h
        . rename_i h2;split at h
          . rename_i h3;split at h
            . rename_i j;cases h;have hb:=T3 i;rw[<-hb.1]at h2;exact ZJl _ (ZI4 (p:=λa b=>ZC x.P a=some b) ht.shp h3) h1 h2 j
            . cases h
          . rename_i h3;rw[Gf]at h;cases hb:Nat.beq (List.length (List.take _ (List.drop _ _))) _ with
            | true=>
              rw[hb]at h;cases h;have g:=T3 i;rw[<-g.1]at h2;exact ZN7 _ (ZI4 (p:=λa b=>ZC x.P a=some b) ht.shp h3) h1 h2 rfl (TB hb)
            |false=>rw[hb]at h;cases h
          . cases h
        . cases h
      . cases h
    . cases h
  . split at h
    . rename_i h1;split at h
      . rename_i h2;cases h;exact ZR4 (ZKc h1) (ZKc h2)
      . cases h
    . cases h
  . split at h
    . rename_i h1;split at h
      . rename_i h2;split at h
        . rename_i h3;cases hb:List.all _ (fitsP _ _)with
          | true=>
            rw[hb]at h;rw[Tu,Gf]at h;cases h;exact ZK1 (ZI4 (p:=λa b=>Yx x.P a=some b) ht.zer h2) (ZI4 (p:=λa b=>KI x.P a=some b) ht.plc h3) (ZRb h1) hb rfl
          |false=>rw[hb]at h;cases h
        . cases h
      . cases h
    . cases h
  . cases h
inductive Cf where
  |c (c:Code)
  |l (ops:Array Oper) (rest:List Oper)
  |n (e:Exit)
inductive KK where
  |s (d:Code)
  |b (id:Nat)
  |k (K:Act->World->Prop)
@[reducible] def den (x:Cx):List KK->(Exit->Act->World->Prop)->(Exit->Act->World->Prop)
  |[],Q=>Q
  | .s d::ks,Q=>Exit.then (d.wpIn (Fw x.r) 0 x.P (den x ks Q)) (den x ks Q)
  | .b id::ks,Q=>Exit.inBlock id (den x ks Q)
  | .k K::ks,Q=>Exit.then K (den x ks Q)
structure RS where
  cf:Cf
  ks:List KK
  l:Slots
  o:List Own
  hs:List Nat
  e1:List Nat
  e2:List Nat
def Goal (x:Cx)(Q:Exit->Act->World->Prop)(H:Heaplet)(s:RS):Prop:=match s.cf with
 | .c c=>JC x c (den x s.ks Q) s.l s.o H
 | .l ops rest=>JL x ops (den x s.ks Q) rest s.l s.o H
 | .n e=>JN x (den x s.ks Q e) s.l s.o H
def setK{β:Type}:List Own->Nat->Own->(List Own->Option β)->Option β
 |[],_,_,_=>none
 |_::r,0,s,k=>k (s::r)
 |a::r,i+1,s,k=>setK r i s (λb=>k (a::b))
theorem ZOL{β:Type}:∀{own:List Own} {i:Nat} {s:Own} {k:List Own->Option β} {r:β},setK own i s k=some r->k (own.set i s)=some r
 |[],_,_,_,_,h=>by cases h
 |_::_,0,_,_,_,h=>h
 |a::r,i+1,s,k,_,h=>ZOL (own:=r) (i:=i) (k:=λb=>k (a::b)) h
def mstep (tb : Tab)(N:Nat):RS->Option RS
  |⟨.c .skip,ks,l,o,hs,e1,e2⟩=>some ⟨.n .normal,ks,l,o,hs,e1,e2⟩
  |⟨.c .ret,ks,l,o,hs,e1,e2⟩=>some ⟨.n .ret,ks,l,o,hs,e1,e2⟩
  |⟨.c (.exit id),ks,l,o,hs,e1,e2⟩=>some ⟨.n (.exit id),ks,l,o,hs,e1,e2⟩
  |⟨.c (.seq c d),ks,l,o,hs,e1,e2⟩=>some ⟨.c c,.s d::ks,l,o,hs,e1,e2⟩
  |⟨.c (.block id c),ks,l,o,hs,e1,e2⟩=>some ⟨.c c,.b id::ks,l,o,hs,e1,e2⟩
  |⟨.c (.region _ ops false),ks,l,o,hs,e1,e2⟩=>some ⟨.l ops ops.toList,ks,l,o,hs,e1,e2⟩
  | ⟨.c (.cond c a b),ks,l,o,hs,e1,e2⟩=>match evo l c with
    |some (.bool true)=>some ⟨.c a,ks,l,o,hs,e1,e2⟩
    |some (.bool false)=>some ⟨.c b,ks,l,o,hs,e1,e2⟩
    |_=>none
  |⟨.n .normal,.s d::ks,l,o,hs,e1,e2⟩=>some ⟨.c d,ks,l,o,hs,e1,e2⟩
  |⟨.n .normal,.b _::ks,l,o,hs,e1,e2⟩=>some ⟨.n .normal,ks,l,o,hs,e1,e2⟩
  |⟨.n .ret,.s _::ks,l,o,hs,e1,e2⟩=>some ⟨.n .ret,ks,l,o,hs,e1,e2⟩
  |⟨.n .ret,.b _::ks,l,o,hs,e1,e2⟩=>some ⟨.n .ret,ks,l,o,hs,e1,e2⟩
  |⟨.n (.exit id),.s _::ks,l,o,hs,e1,e2⟩=>some ⟨.n (.exit id),ks,l,o,hs,e1,e2⟩
  |⟨.n .ret,.k _::ks,l,o,hs,e1,e2⟩=>some ⟨.n .ret,ks,l,o,hs,e1,e2⟩
  |⟨.n (.exit id),.k _::ks,l,o,hs,e1,e2⟩=>some ⟨.n (.exit id),ks,l,o,hs,e1,e2⟩
  |⟨.n (.exit f),.b id::ks,l,o,hs,e1,e2⟩=>bif Nat.beq f id then some ⟨.n .normal,ks,l,o,hs,e1,e2⟩else some ⟨.n (.exit f),ks,l,o,hs,e1,e2⟩
  |⟨.l ops [],ks,l,o,hs,e1,e2⟩=>some ⟨.n .normal,ks,l,o,hs,e1,e2⟩
  | ⟨.l ops (⟨some d,op,ty,pos,aft,none⟩::rest),ks,l,o,hs,e1,e2⟩=>match vop tb o l hs op with
    |some (v,h,m,r)=>bif Nat.blt d N then some ⟨.l ops rest,ks,(d,v)::l,o,h,m++e1,r++e2⟩else none
    |none=>none
  | ⟨.l ops (⟨none,.store T p q,ty,pos,aft,none⟩::rest),ks,l,o,hs,e1,e2⟩=>match evo l p with
    | some (.pointer (some ⟨b,k,none⟩))=>match evo l q with
      | some v=>match hs with
        | i ::h=>match o[i]? with
          | some [(g,.cells cur t (0,0))]=>match tl T tb.shp with
            | some (_,n)=>bif Nat.beq v.cells.toList.length n&&(v.cells.toList.all (·.oneCell')&&Nat.ble (k+n) cur.toList.length)then
                spine (cur.toList.take k++v.cells.toList++cur.toList.drop (k+n)) λcs=>setK o i [(g,.cells cs.toArray t (0,0))] λo'=>some ⟨.l ops rest,ks,l,o',h,b::e1,g::e2⟩
              else none
            |none=>none
          |_=>none
        |[]=>none
      |none=>none
    |_=>none
  | ⟨.l ops (⟨e,op,ty,pos,aft,some (j,b)⟩::rest),ks,l,o,hs,e1,e2⟩=>match ops.toList[j]? with
    | some u=>match u.dst with
      | some t=>match lk l t with
        | some (.bool true)=>bif b then some ⟨.l ops (⟨e,op,ty,pos,aft,none⟩::rest),ks,l,o,hs,e1,e2⟩else match e with
          |some d=>bif Nat.blt d N then some ⟨.l ops rest,ks,(d,undef)::l,o,hs,e1,e2⟩else none
          |none=>none
        | some (.bool false)=>bif b then(match e with
          |some d=>bif Nat.blt d N then some ⟨.l ops rest,ks,(d,undef)::l,o,hs,e1,e2⟩else none
          |none=>none)else some ⟨.l ops (⟨e,op,ty,pos,aft,none⟩::rest),ks,l,o,hs,e1,e2⟩
        | some (.tuple ⟨[]⟩)=>match e with
          |some d=>bif Nat.blt d N then some ⟨.l ops rest,ks,(d,undef)::l,o,hs,e1,e2⟩else none
          |none=>none
        |_=>none
      |none=>none
    |none=>none
  |_=>none
theorem ZJu{tb:Tab}{own:List Own}{l:Slots}{hs a e1 e2:List Nat}{op:Op}{v:Value}(h:vop tb own l hs op=some (v,a,e1,e2)):e1.length=e2.length:=by
  cases op with
  | load T o=>
    simp only[vop]at h
    repeat' (first|(split at h)|(cases h;done))
    all_goals first|(cases h;rfl)|(cases h;done)|skip
    rw[Gf]at h;cases hb:Nat.beq (List.length (List.take _ (List.drop _ _))) _<;>rw[hb]at h<;>cases h;rfl
  | build T ps=>
    simp only[vop]at h
    repeat' (first|(split at h)|(cases h;done))
    all_goals first|(cases h;done)|skip
    cases hb:List.all _ (fitsP _ _)with
    |true=>rw[hb]at h;rw[Tu,Gf]at h;cases h;rfl
    |false=>rw[hb]at h;cases h
  | unOp q t p=>
    cases q<;>simp only[vop]at h
    all_goals first
      |(cases h;done)
      | (split at h
         . cases h;rfl
         . cases h)
  | _=>
    simp only[vop]at h
    repeat' (first|(split at h)|(cases h;done))
    all_goals first|(cases h;rfl)|(cases h;done)
theorem ZQ4 {x:Cx}{tb:Tab}(ht:tb.Ok x.P){Q:Exit->Act->World->Prop}{H:Heaplet}{s s':RS}(h:mstep tb x.n s=some s')(c:s'.e1=s'.e2):
    s.e1=s.e2/\(Goal x Q H s'->Goal x Q H s):=by
  unfold mstep at h;split at h
  . cases h;exact⟨c,JC.skip⟩
  . cases h;exact⟨c,ZIU⟩
  . cases h;exact⟨c,ZEV⟩
  . cases h;exact⟨c,ZK6⟩
  . cases h;exact⟨c,JC.block⟩
  . cases h;exact⟨c,Q2⟩
  . split at h
    . rename_i i;cases h;exact⟨c,ZM1 i⟩
    . rename_i i;cases h;exact⟨c,ZM2 i⟩
    . cases h
  . cases h;exact⟨c,J8⟩
  . cases h;exact⟨c,DD⟩
  . cases h;exact⟨c,ZA2⟩
  . cases h;exact⟨c,ZK3⟩
  . cases h;exact⟨c,ZA1⟩
  . cases h;exact⟨c,ZA2⟩
  . cases h;exact⟨c,ZA1⟩
  . rename_i j id ks l o hs e1 e2;cases hb:Nat.beq j id with
    |true=>rw[hb]at h;cases h;have:=TB hb;subst this;exact⟨c,J9⟩
    |false=>rw[hb]at h;cases h;exact⟨c,DC hb⟩
  . cases h;exact⟨c,JL.nil⟩
  . split at h
    . rename_i k;cases hb:Nat.blt _ x.n with
      | true=>
        rw[hb]at h;cases h;have q:=ZJu k;obtain⟨h1,h2⟩:=List.append_inj c q;exact⟨h2,λg=>ZB hb (ZLA k) (ZQV ht k h1) g⟩
      |false=>rw[hb]at h;cases h
    . cases h
  . split at h
    . rename_i h1;split at h
      . rename_i h2;split at h
        . split at h
          . rename_i h3;split at h
            . rename_i r;cases hb:(Nat.beq _ _&&(List.all _ (λz:Value=>z.oneCell')&&Nat.ble _ _))with
              | true=>
                rw[hb,Tu,Gf]at h;have t:=ZOL h;cases t;obtain⟨m,u⟩:=T3 c;rw[<-m]at h3;rw[TE,TE]at hb;refine⟨u,λg=>JL.store _ (ZI4 (p:=λa b=>ZC x.P a=some b) ht.shp r) h1 h2 h3 (by simpa using TB hb.1) hb.2.1 (by simpa using TN hb.2.2) ?_⟩;rw[m];exact g
              |false=>rw[hb]at h;cases h
            . cases h
          . cases h
        . cases h
      . cases h
    . cases h
  . split at h
    . rename_i e;split at h
      . rename_i f;split at h
        . rename_i d;rename_i b _ _ _ _ _ _ _ _ _ _ _ _;cases b with
          |true=>cases h;exact⟨c,ZGp (by simpa using e) f d⟩
          | false=>
            rw[Tr]at h;split at h<;>first|(cases h;done)|skip
            cases hb:Nat.blt _ x.n with
            |true=>rw[hb]at h;cases h;exact⟨c,ZOD (by simpa using e) f d rfl hb⟩
            |false=>rw[hb]at h;cases h
        . rename_i d;rename_i b _ _ _ _ _ _ _ _ _ _ _ _;cases b with
          |false=>cases h;exact⟨c,ZGp (by simpa using e) f d⟩
          | true=>
            rw[Tu]at h;split at h<;>first|(cases h;done)|skip
            cases hb:Nat.blt _ x.n with
            |true=>rw[hb]at h;cases h;exact⟨c,ZOD (by simpa using e) f d rfl hb⟩
            |false=>rw[hb]at h;cases h
        . rename_i d;split at h<;>first|(cases h;done)|skip
          cases hb:Nat.blt _ x.n with
          |true=>rw[hb]at h;cases h;exact⟨c,ZPB (by simpa using e) f d hb⟩
          |false=>rw[hb]at h;cases h
        . cases h
      . cases h
    . cases h
  . cases h
def mrun (tb:Tab)(N:Nat):Nat->RS->Option RS
  |0,s=>some s
  | k+1,s=>match mstep tb N s with
    |some s'=>mrun tb N k s'
    |none=>none
theorem Zo{x:Cx}{tb:Tab}(ht:tb.Ok x.P){Q:Exit->Act->World->Prop}{H:Heaplet}:∀{k:Nat} {s s':RS},mrun tb x.n k s=some s'->s'.e1=s'.e2->
    s.e1=s.e2/\(Goal x Q H s'->Goal x Q H s)
  |0,s,s',h,a=>by cases h;exact⟨a,id⟩
  | k +1,s,s',h,a=>by
    simp only[mrun]at h;split at h
    . rename_i h1;obtain⟨e1,b⟩:=Zo ht (k:=k) h a;obtain⟨e2,c⟩:=ZQ4 ht (H:=H) (Q:=Q) h1 e1;exact⟨e2,λg=>c (b g)⟩
    . cases h
section runs
variable{x:Cx}{tb:Tab}{Q:Exit->Act->World->Prop}{l l':Slots}{own own':List Own}{H:Heaplet}{ks':List KK}{E:List Nat}{c c':Code}{ops ops':Array Oper}{rest rest':List Oper}{e e':Exit}
variable{d0 d1 d2:Code}{i0 i1 i2:Nat}{k0 k1 k2:Act->World->Prop}
theorem PC (hs:List Nat)(k:Nat)(ht:tb.Ok x.P)(h:mrun tb x.n k ⟨.c c,[],l,own,hs,[],[]⟩=some ⟨.c c',ks',l',own',[],E,E⟩)(g:JC x c' (den x ks' Q) l' own' H):JC x c Q l own H:=(Zo (Q:=Q) ht h rfl).2 g
theorem Run.ccz (hs:List Nat)(k:Nat)(ht:tb.Ok x.P)(h:mrun tb x.n k ⟨.c c,[],l,own,hs,[],[]⟩=some ⟨.c c',[],l',own',[],E,E⟩)(g:JC x c' Q l' own' H):JC x c Q l own H:=(Zo (Q:=Q) ht h rfl).2 g
theorem Run.cl (hs:List Nat)(k:Nat)(ht:tb.Ok x.P)(h:mrun tb x.n k ⟨.c c,[],l,own,hs,[],[]⟩=some ⟨.l ops' rest',ks',l',own',[],E,E⟩)(g:JL x ops' (den x ks' Q) rest' l' own' H):JC x c Q l own H:=(Zo (Q:=Q) ht h rfl).2 g
theorem Pr (hs:List Nat)(k:Nat)(ht:tb.Ok x.P)(h:mrun tb x.n k ⟨.c c,[],l,own,hs,[],[]⟩=some ⟨.l ops' rest',[],l',own',[],E,E⟩)(g:JL x ops' Q rest' l' own' H):JC x c Q l own H:=(Zo (Q:=Q) ht h rfl).2 g
theorem Run.cnz (hs:List Nat)(k:Nat)(ht:tb.Ok x.P)(h:mrun tb x.n k ⟨.c c,[],l,own,hs,[],[]⟩=some ⟨.n e',[],l',own',[],E,E⟩)(g:JN x (Q e') l' own' H):JC x c Q l own H:=(Zo (Q:=Q) ht h rfl).2 g
theorem PI (hs:List Nat)(k:Nat)(ht:tb.Ok x.P)(h:mrun tb x.n k ⟨.l ops rest,[],l,own,hs,[],[]⟩=some ⟨.l ops' rest',[],l',own',[],E,E⟩)(g:JL x ops' Q rest' l' own' H):JL x ops Q rest l own H:=(Zo (Q:=Q) ht h rfl).2 g
theorem PB (hs:List Nat)(k:Nat)(ht:tb.Ok x.P)(h:mrun tb x.n k ⟨.l ops rest,[],l,own,hs,[],[]⟩=some ⟨.n e',[],l',own',[],E,E⟩)(g:JN x (Q e') l' own' H):JL x ops Q rest l own H:=(Zo (Q:=Q) ht h rfl).2 g
theorem PZ (hs:List Nat)(k:Nat)(ht:tb.Ok x.P)(h:mrun tb x.n k ⟨.c c,[.s d0],l,own,hs,[],[]⟩=some ⟨.c c',ks',l',own',[],E,E⟩)(g:JC x c' (den x ks' Q) l' own' H):JC x c (Exit.then (d0.wpIn (Fw x.r) 0 x.P Q) Q) l own H:=(Zo (Q:=Q) ht h rfl).2 g
theorem R7 (hs:List Nat)(k:Nat)(ht:tb.Ok x.P)(h:mrun tb x.n k ⟨.c c,[.s d0],l,own,hs,[],[]⟩=some ⟨.l ops' rest',ks',l',own',[],E,E⟩)(g:JL x ops' (den x ks' Q) rest' l' own' H):JC x c (Exit.then (d0.wpIn (Fw x.r) 0 x.P Q) Q) l own H:=(Zo (Q:=Q) ht h rfl).2 g
theorem OI (hs:List Nat)(k:Nat)(ht:tb.Ok x.P)(h:mrun tb x.n k ⟨.c c,[.s d0],l,own,hs,[],[]⟩=some ⟨.l ops' rest',[],l',own',[],E,E⟩)(g:JL x ops' Q rest' l' own' H):JC x c (Exit.then (d0.wpIn (Fw x.r) 0 x.P Q) Q) l own H:=(Zo (Q:=Q) ht h rfl).2 g
theorem PK (hs:List Nat)(k:Nat)(ht:tb.Ok x.P)(h:mrun tb x.n k ⟨.l ops rest,[.s d0],l,own,hs,[],[]⟩=some ⟨.c c',ks',l',own',[],E,E⟩)(g:JC x c' (den x ks' Q) l' own' H):JL x ops (Exit.then (d0.wpIn (Fw x.r) 0 x.P Q) Q) rest l own H:=(Zo (Q:=Q) ht h rfl).2 g
theorem R5 (hs:List Nat)(k:Nat)(ht:tb.Ok x.P)(h:mrun tb x.n k ⟨.l ops rest,[.s d0],l,own,hs,[],[]⟩=some ⟨.c c',[],l',own',[],E,E⟩)(g:JC x c' Q l' own' H):JL x ops (Exit.then (d0.wpIn (Fw x.r) 0 x.P Q) Q) rest l own H:=(Zo (Q:=Q) ht h rfl).2 g
theorem R6 (hs:List Nat)(k:Nat)(ht:tb.Ok x.P)(h:mrun tb x.n k ⟨.l ops rest,[.s d0],l,own,hs,[],[]⟩=some ⟨.l ops' rest',ks',l',own',[],E,E⟩)(g:JL x ops' (den x ks' Q) rest' l' own' H):JL x ops (Exit.then (d0.wpIn (Fw x.r) 0 x.P Q) Q) rest l own H:=(Zo (Q:=Q) ht h rfl).2 g
theorem PL (hs:List Nat)(k:Nat)(ht:tb.Ok x.P)(h:mrun tb x.n k ⟨.l ops rest,[.s d0],l,own,hs,[],[]⟩=some ⟨.l ops' rest',[],l',own',[],E,E⟩)(g:JL x ops' Q rest' l' own' H):JL x ops (Exit.then (d0.wpIn (Fw x.r) 0 x.P Q) Q) rest l own H:=(Zo (Q:=Q) ht h rfl).2 g
theorem PM (hs:List Nat)(k:Nat)(ht:tb.Ok x.P)(h:mrun tb x.n k ⟨.l ops rest,[.s d0],l,own,hs,[],[]⟩=some ⟨.n e',[],l',own',[],E,E⟩)(g:JN x (Q e') l' own' H):JL x ops (Exit.then (d0.wpIn (Fw x.r) 0 x.P Q) Q) rest l own H:=(Zo (Q:=Q) ht h rfl).2 g
theorem PV (hs:List Nat)(k:Nat)(ht:tb.Ok x.P)(h:mrun tb x.n k ⟨.n e,[.s d0],l,own,hs,[],[]⟩=some ⟨.l ops' rest',ks',l',own',[],E,E⟩)(g:JL x ops' (den x ks' Q) rest' l' own' H):JN x ((Exit.then (d0.wpIn (Fw x.r) 0 x.P Q) Q) e) l own H:=(Zo (Q:=Q) ht h rfl).2 g
theorem PN (hs:List Nat)(k:Nat)(ht:tb.Ok x.P)(h:mrun tb x.n k ⟨.n e,[.s d0],l,own,hs,[],[]⟩=some ⟨.n e',[],l',own',[],E,E⟩)(g:JN x (Q e') l' own' H):JN x ((Exit.then (d0.wpIn (Fw x.r) 0 x.P Q) Q) e) l own H:=(Zo (Q:=Q) ht h rfl).2 g
theorem PE (hs:List Nat)(k:Nat)(ht:tb.Ok x.P)(h:mrun tb x.n k ⟨.c c,[.k k0],l,own,hs,[],[]⟩=some ⟨.n e',[],l',own',[],E,E⟩)(g:JN x (Q e') l' own' H):JC x c (Exit.then k0 Q) l own H:=(Zo (Q:=Q) ht h rfl).2 g
theorem R9 (hs:List Nat)(k:Nat)(ht:tb.Ok x.P)(h:mrun tb x.n k ⟨.n e,[.k k0,.b i1],l,own,hs,[],[]⟩=some ⟨.n e',[],l',own',[],E,E⟩)(g:JN x (Q e') l' own' H):JN x ((Exit.then k0 (Exit.inBlock i1 Q)) e) l own H:=(Zo (Q:=Q) ht h rfl).2 g
theorem Pn (hs:List Nat)(k:Nat)(ht:tb.Ok x.P)(h:mrun tb x.n k ⟨.l ops rest,[.s d0,.k k1],l,own,hs,[],[]⟩=some ⟨.n e',[],l',own',[],E,E⟩)(g:JN x (Q e') l' own' H):JL x ops (Exit.then (d0.wpIn (Fw x.r) 0 x.P (Exit.then k1 Q)) (Exit.then k1 Q)) rest l own H:=(Zo (Q:=Q) ht h rfl).2 g
theorem OC (hs:List Nat)(k:Nat)(ht:tb.Ok x.P)(h:mrun tb x.n k ⟨.c c,[.b i0,.s d1],l,own,hs,[],[]⟩=some ⟨.l ops' rest',[],l',own',[],E,E⟩)(g:JL x ops' Q rest' l' own' H):JC x c (Exit.inBlock i0 (Exit.then (d1.wpIn (Fw x.r) 0 x.P Q) Q)) l own H:=(Zo (Q:=Q) ht h rfl).2 g
theorem PP (hs:List Nat)(k:Nat)(ht:tb.Ok x.P)(h:mrun tb x.n k ⟨.l ops rest,[.b i0,.s d1],l,own,hs,[],[]⟩=some ⟨.l ops' rest',[],l',own',[],E,E⟩)(g:JL x ops' Q rest' l' own' H):JL x ops (Exit.inBlock i0 (Exit.then (d1.wpIn (Fw x.r) 0 x.P Q) Q)) rest l own H:=(Zo (Q:=Q) ht h rfl).2 g
theorem OD (hs:List Nat)(k:Nat)(ht:tb.Ok x.P)(h:mrun tb x.n k ⟨.n e,[.b i0,.s d1],l,own,hs,[],[]⟩=some ⟨.l ops' rest',[],l',own',[],E,E⟩)(g:JL x ops' Q rest' l' own' H):JN x ((Exit.inBlock i0 (Exit.then (d1.wpIn (Fw x.r) 0 x.P Q) Q)) e) l own H:=(Zo (Q:=Q) ht h rfl).2 g
theorem OE (hs:List Nat)(k:Nat)(ht:tb.Ok x.P)(h:mrun tb x.n k ⟨.n e,[.k k0,.k k1],l,own,hs,[],[]⟩=some ⟨.n e',[],l',own',[],E,E⟩)(g:JN x (Q e') l' own' H):JN x ((Exit.then k0 (Exit.then k1 Q)) e) l own H:=(Zo (Q:=Q) ht h rfl).2 g
theorem OJ (hs:List Nat)(k:Nat)(ht:tb.Ok x.P)(h:mrun tb x.n k ⟨.l ops rest,[.b i0],l,own,hs,[],[]⟩=some ⟨.n e',[],l',own',[],E,E⟩)(g:JN x (Q e') l' own' H):JL x ops (Exit.inBlock i0 Q) rest l own H:=(Zo (Q:=Q) ht h rfl).2 g
theorem PQ (hs:List Nat)(k:Nat)(ht:tb.Ok x.P)(h:mrun tb x.n k ⟨.l ops rest,[.s d0,.b i1,.k k2],l,own,hs,[],[]⟩=some ⟨.n e',[],l',own',[],E,E⟩)(g:JN x (Q e') l' own' H):JL x ops (Exit.then (d0.wpIn (Fw x.r) 0 x.P (Exit.inBlock i1 (Exit.then k2 Q))) (Exit.inBlock i1 (Exit.then k2 Q))) rest l own H:=(Zo (Q:=Q) ht h rfl).2 g
theorem Pc (hs:List Nat)(k:Nat)(ht:tb.Ok x.P)(h:mrun tb x.n k ⟨.l ops rest,[.s d0,.b i1,.s d2],l,own,hs,[],[]⟩=some ⟨.l ops' rest',[],l',own',[],E,E⟩)(g:JL x ops' Q rest' l' own' H):JL x ops (Exit.then (d0.wpIn (Fw x.r) 0 x.P (Exit.inBlock i1 (Exit.then (d2.wpIn (Fw x.r) 0 x.P Q) Q))) (Exit.inBlock i1 (Exit.then (d2.wpIn (Fw x.r) 0 x.P Q) Q))) rest l own H:=(Zo (Q:=Q) ht h rfl).2 g
theorem P9 (hs:List Nat)(k:Nat)(ht:tb.Ok x.P)(h:mrun tb x.n k ⟨.l ops rest,[.s d0,.b i1,.s d2],l,own,hs,[],[]⟩=some ⟨.n e',[],l',own',[],E,E⟩)(g:JN x (Q e') l' own' H):JL x ops (Exit.then (d0.wpIn (Fw x.r) 0 x.P (Exit.inBlock i1 (Exit.then (d2.wpIn (Fw x.r) 0 x.P Q) Q))) (Exit.inBlock i1 (Exit.then (d2.wpIn (Fw x.r) 0 x.P Q) Q))) rest l own H:=(Zo (Q:=Q) ht h rfl).2 g
theorem PJ (hs:List Nat)(k:Nat)(ht:tb.Ok x.P)(h:mrun tb x.n k ⟨.c c,[.k k0,.k k1,.b i2],l,own,hs,[],[]⟩=some ⟨.n e',[],l',own',[],E,E⟩)(g:JN x (Q e') l' own' H):JC x c (Exit.then k0 (Exit.then k1 (Exit.inBlock i2 Q))) l own H:=(Zo (Q:=Q) ht h rfl).2 g
theorem OA (hs:List Nat)(k:Nat)(ht:tb.Ok x.P)(h:mrun tb x.n k ⟨.c c,[.k k0,.b i1,.k k2],l,own,hs,[],[]⟩=some ⟨.n e',[],l',own',[],E,E⟩)(g:JN x (Q e') l' own' H):JC x c (Exit.then k0 (Exit.inBlock i1 (Exit.then k2 Q))) l own H:=(Zo (Q:=Q) ht h rfl).2 g
end runs
class MonoC {α:Type} (R:Rep α):Prop where
  h:R.Mono
instance:MonoC RU8:=⟨RU8.mono⟩
instance:MonoC RU32:=⟨RU32.mono⟩
instance:MonoC RU64:=⟨RU64.mono⟩
instance:MonoC RInt:=⟨RInt.mono⟩
instance:MonoC RBool:=⟨RBool.mono⟩
instance:MonoC RStr:=⟨RStr.mono⟩
instance{α:Type}{R:Rep α}{n:Nat} [h:MonoC R]:MonoC (RSl R n):=⟨RSl.mono h.h⟩
instance:MonoC R_Call:=⟨R_Call.mono⟩
instance:MonoC R_Change:=⟨R_Change.mono⟩
instance:MonoC R_Deed:=⟨R_Deed.mono⟩
instance:MonoC R_Disk:=⟨R_Disk.mono⟩
instance:MonoC R_Entry:=⟨R_Entry.mono⟩
instance:MonoC R_Info:=⟨R_Info.mono⟩
instance:MonoC R_Label:=⟨R_Label.mono⟩
instance:MonoC R_Line:=⟨R_Line.mono⟩
instance:MonoC R_Object:=⟨R_Object.mono⟩
instance:MonoC R_Pair:=⟨R_Pair.mono⟩
instance:MonoC R_Part:=⟨R_Part.mono⟩
instance:MonoC R_Pool:=⟨R_Pool.mono⟩
instance:MonoC R_Ptr:=⟨R_Ptr.mono⟩
instance:MonoC R_Reply:=⟨R_Reply.mono⟩
instance:MonoC R_Signer:=⟨R_Signer.mono⟩
instance:MonoC R_Store:=⟨R_Store.mono⟩
instance:MonoC R_Stream:=⟨R_Stream.mono⟩
instance:MonoC R_Write:=⟨R_Write.mono⟩
instance:MonoC R_WriteO:=⟨R_WriteO.mono⟩
inductive Sp:Type 1 where
  |i (n:Int)
  |b (x:Bool)
  |w8 (x:UInt8)
  |w32 (x:UInt32)
  |w64 (x:UInt64)
  |s (l:List UInt8)
  |st (c:Nat)
  |fv (f:Nat)
  |cx {α:Type} (N:Bool) (R:Rep α) (hR:MonoC R) (n:Nat) (m:List α)
  |sx {α:Type} (N:Bool) (R:Rep α) (hR:MonoC R) (n:Nat) (m:List α)
  |rx {α:Type} (N:Bool) (R:Rep α) (hR:MonoC R) (E n:Nat) (m:List α)
@[reducible] def Sp.sl {α:Type} (N:Bool) (R:Rep α) [h:MonoC R] (n:Nat) (m:List α):Sp:=.sx N R h n m
@[reducible] def Sp.cl {α:Type} (N:Bool) (R:Rep α) [h:MonoC R] (n:Nat) (m:List α):Sp:=.cx N R h n m
@[reducible] def Sp.row {α:Type} (N:Bool) (R:Rep α) [h:MonoC R] (E n:Nat) (m:List α):Sp:=.rx N R h E n m
def takeK:Nat->List Value->(List Value->List Value->Prop)->Prop
 |0,vs,k=>k [] vs
 |c+1,v::vs,k=>takeK c vs (λa b=>k (v::a) b)
 |_+1,[],k=>k [] []
theorem ZGz:∀(c:Nat) (vs:List Value) (k:List Value->List Value->Prop),takeK c vs k->k (vs.take c) (vs.drop c)
 |0,vs,k,h=>h
 |c+1,[],k,h=>h
 |c+1,v::vs,k,h=>ZGz c vs (λa b=>k (v::a) b) h
def fl:List Sp->List Value->List Value
 |[],_=> []
 | .st c::as,.agg cs::vs=>.agg ((fl as (cs.toList++vs)).take c).toArray::(fl as (cs.toList++vs)).drop c
 | .st _::_,_=> []
 | .sx .. ::as,v::vs=>v::fl as vs
 | .cx .. ::as,v::vs=>v::fl as vs
 | .fv f::as,_::vs=>.func (.func f) #[] #[]::fl as vs
 | .rx .. ::as,v::vs=>v::fl as vs
 | .i n::as,_::vs=>.int .i64 n::fl as vs
 | .b x::as,_::vs=>.bool x::fl as vs
 | .w8 x::as,_::vs=>.int .u8 (x.toNat:Int)::fl as vs
 | .w32 x::as,_::vs=>.int .u32 (x.toNat:Int)::fl as vs
 | .w64 x::as,_::vs=>.int .u64 (x.toNat:Int)::fl as vs
 | .s x::as,_::vs=>.string (Ow.bs x)::fl as vs
 |_::_,[]=> []
theorem ZUJ{c:Nat}{as:List Sp}{cs:Array Value}{vs:List Value}(h:fl (.st c::as) (.agg cs::vs)=.agg cs::vs):
 fl as (cs.toList++vs)=cs.toList++vs/\(cs.toList++vs).take c=cs.toList/\(cs.toList++vs).drop c=vs:=by
 simp only[fl]at h;obtain⟨h1,h2⟩:=T3 h;have h3:=congrArg Array.toList (Value.agg.inj h1);rw[Tj]at h3;have a:fl as (cs.toList++vs)=cs.toList++vs:=by
  conv=>lhs;rw[<-RP c (fl as (cs.toList++vs)),h3,h2]
 exact⟨a,by rw[<-a];exact h3,by rw[<-a];exact h2⟩
def Ent (H:Heaplet):List Sp->(List Value->Prop)->Prop
 |[],k=>k []
 | .st c::as,k=>Ent H as (λvs=>takeK c vs (λa b=>k (.agg a.toArray::b)))
 | .sx _ R h n m::as,k=>∀(ao:Option Addr) (l cap:Nat),IsSlice H R n (.slice ao l cap) m->Ent H as (λvs=>k (.slice ao l cap::vs))
 | .rx .. ::as,k=>True
 | .cx .. ::as,k=>True
 | .fv f::as,k=>Ent H as (λvs=>k (.func (.func f) #[] #[]::vs))
 | .i n::as,k=>Ent H as (λvs=>k (.int .i64 n::vs))
 | .b x::as,k=>Ent H as (λvs=>k (.bool x::vs))
 | .w8 x::as,k=>Ent H as (λvs=>k (.int .u8 (x.toNat:Int)::vs))
 | .w32 x::as,k=>Ent H as (λvs=>k (.int .u32 (x.toNat:Int)::vs))
 | .w64 x::as,k=>Ent H as (λvs=>k (.int .u64 (x.toNat:Int)::vs))
 | .s x::as,k=>Ent H as (λvs=>k (.string (Ow.bs x)::vs))
def Fit (H:Heaplet):List Sp->List Value->Prop
 |[],_=>True
 | .st _::as,.agg cs::vs=>Fit H as (cs.toList++vs)
 | .st _::_,_=>False
 | .sx _ R h n m::as,v::vs=>IsSlice H R n v m/\Fit H as vs
 | .rx .. ::_,_=>False
 | .cx .. ::_,_=>False
 | .fv _::as,_::vs=>Fit H as vs
 | .i _::as,_::vs=>Fit H as vs
 | .b _::as,_::vs=>Fit H as vs
 | .w8 _::as,_::vs=>Fit H as vs
 | .w32 _::as,_::vs=>Fit H as vs
 | .w64 _::as,_::vs=>Fit H as vs
 | .s _::as,_::vs=>Fit H as vs
 |_::_,[]=>False
theorem WI{H:Heaplet}:∀{as:List Sp} {vs:List Value} {k:List Value->Prop},Ent H as k->fl as vs=vs->Fit H as vs->k vs
  |[],vs,k,h,e,_=>by simp only[fl]at e;rw[<-e];exact h
  | .st c::as,[],k,h,e,f=>f.elim
  | .st c::as,v::vs,k,h,e,f=>by
    cases v<;>first|exact f.elim|skip
    rename_i cs;obtain⟨e1,e2,e3⟩:=ZUJ e;have:=ZGz _ _ _ (WI (as:=as) (k:=λvs=>takeK c vs (λa b=>k (.agg a.toArray::b))) h e1 f);rw[e2,e3]at this;simpa using this
  | .rx .. ::as,[],k,h,e,f=>f.elim
  | .rx .. ::as,_::_,k,h,e,f=>f.elim
  | .cx .. ::as,[],k,h,e,f=>f.elim
  | .cx .. ::as,_::_,k,h,e,f=>f.elim
  | .fv _::as,[],k,h,e,f=>f.elim
  | .fv _::as,_::vs,k,h,e,f=>by obtain⟨e1,e2⟩:=T3 e;subst e1;exact WI (k:=λvs=>k (_::vs)) h e2 f
  | .sx _ R d n m::as,[],k,h,e,f=>f.elim
  | .sx _ R d n m::as,v::vs,k,h,e,f=>by
    obtain⟨ao,cap,rfl⟩:=IsSlice.val f.1;exact WI (as:=as) (k:=λvs=>k (_::vs)) (h ao m.length cap f.1) (T3 e).2 f.2
  | .i _::as,[],k,h,e,f=>f.elim
  | .i _::as,_::vs,k,h,e,f=>by obtain⟨e1,e2⟩:=T3 e;subst e1;exact WI (k:=λvs=>k (_::vs)) h e2 f
  | .b _::as,[],k,h,e,f=>f.elim
  | .b _::as,_::vs,k,h,e,f=>by obtain⟨e1,e2⟩:=T3 e;subst e1;exact WI (k:=λvs=>k (_::vs)) h e2 f
  | .w8 _::as,[],k,h,e,f=>f.elim
  | .w8 _::as,_::vs,k,h,e,f=>by obtain⟨e1,e2⟩:=T3 e;subst e1;exact WI (k:=λvs=>k (_::vs)) h e2 f
  | .w32 _::as,[],k,h,e,f=>f.elim
  | .w32 _::as,_::vs,k,h,e,f=>by obtain⟨e1,e2⟩:=T3 e;subst e1;exact WI (k:=λvs=>k (_::vs)) h e2 f
  | .w64 _::as,[],k,h,e,f=>f.elim
  | .w64 _::as,_::vs,k,h,e,f=>by obtain⟨e1,e2⟩:=T3 e;subst e1;exact WI (k:=λvs=>k (_::vs)) h e2 f
  | .s _::as,[],k,h,e,f=>f.elim
  | .s _::as,_::vs,k,h,e,f=>by obtain⟨e1,e2⟩:=T3 e;subst e1;exact WI (k:=λvs=>k (_::vs)) h e2 f
def HN:Bool->Heaplet->Heaplet->Heaplet
 |true,H0,H=>New H0 H
 |false,_,H=>H
def Out (H0 H:Heaplet):List Sp->List Value->List Own->Prop
 |[],_,Ks=>Ks= []
 | .st _::bs,.agg cs::vs,Ks=>Out H0 H bs (cs.toList++vs) Ks
 | .st _::_,_,_=>False
 | .sx N R h n m::bs,v::vs,Ks=>IsSlice (HN N H0 H) R n v m/\Out H0 H bs vs Ks
 | .rx N R h E n m::bs,v::vs,K::Ks=>(∃B,RowOf (HN N H0 H) R B E n v m K)/\Out H0 H bs vs Ks
 | .rx .. ::_,_::_,[]=>False
 | .cx N R h n m::bs,v::vs,Ks=>((∃ao l,v=.slice ao l l)/\IsSlice (HN N H0 H) R n v m)/\Out H0 H bs vs Ks
 | .fv _::_,_,_=>False
 | .i _::bs,_::vs,Ks=>Out H0 H bs vs Ks
 | .b _::bs,_::vs,Ks=>Out H0 H bs vs Ks
 | .w8 _::bs,_::vs,Ks=>Out H0 H bs vs Ks
 | .w32 _::bs,_::vs,Ks=>Out H0 H bs vs Ks
 | .w64 _::bs,_::vs,Ks=>Out H0 H bs vs Ks
 | .s _::bs,_::vs,Ks=>Out H0 H bs vs Ks
 |_::_,[],_=>False
def Bnd (H0 H:Heaplet)(B:Nat)(own:List Own):List Sp->(List Value->List Own->Prop)->Prop
 |[],k=>k [] own
 | .st c::bs,k=>Bnd H0 H B own bs (λvs o=>takeK c vs (λa b=>k (.agg a.toArray::b) o))
 | .sx true R h n m::bs,k=>∀(ao:Option Addr) (l cap:Nat),IsSlice (New H0 H) R n (.slice ao l cap) m->Bnd H0 H B own bs (λvs o=>k (.slice ao l cap::vs) o)
 | .sx false R h n m::bs,k=>∀(ao:Option Addr) (l cap:Nat),IsSlice H R n (.slice ao l cap) m->Bnd H0 H B own bs (λvs o=>k (.slice ao l cap::vs) o)
 | .rx true R h E n m::bs,k=>∀(ao:Option Addr) (l cap:Nat) (K:Own),RowOf (New H0 H) R B E n (.slice ao l cap) m K->Bnd H0 H B own bs (λvs o=>k (.slice ao l cap::vs) (K::o))
 | .rx false R h E n m::bs,k=>∀(ao:Option Addr) (l cap:Nat) (K:Own),RowOf H R B E n (.slice ao l cap) m K->Bnd H0 H B own bs (λvs o=>k (.slice ao l cap::vs) (K::o))
 | .cx true R h n m::bs,k=>∀(ao:Option Addr) (l:Nat),IsSlice (New H0 H) R n (.slice ao l l) m->Bnd H0 H B own bs (λvs o=>k (.slice ao l l::vs) o)
 | .cx false R h n m::bs,k=>∀(ao:Option Addr) (l:Nat),IsSlice H R n (.slice ao l l) m->Bnd H0 H B own bs (λvs o=>k (.slice ao l l::vs) o)
 | .fv _::bs,k=>True
 | .i n::bs,k=>Bnd H0 H B own bs (λvs o=>k (.int .i64 n::vs) o)
 | .b x::bs,k=>Bnd H0 H B own bs (λvs o=>k (.bool x::vs) o)
 | .w8 x::bs,k=>Bnd H0 H B own bs (λvs o=>k (.int .u8 (x.toNat:Int)::vs) o)
 | .w32 x::bs,k=>Bnd H0 H B own bs (λvs o=>k (.int .u32 (x.toNat:Int)::vs) o)
 | .w64 x::bs,k=>Bnd H0 H B own bs (λvs o=>k (.int .u64 (x.toNat:Int)::vs) o)
 | .s x::bs,k=>Bnd H0 H B own bs (λvs o=>k (.string (Ow.bs x)::vs) o)
theorem Qf{H0 H1 H:Heaplet}{B:Nat}{own:List Own}(g:Hle H0 H1):∀{bs:List Sp} {vs:List Value} {Ks:List Own} {k:List Value->List Own->Prop},
    Bnd H0 H B own bs k->fl bs vs=vs->Out H1 H bs vs Ks->(∀p∈Ks.flatten,B<=p.1)->k vs (Ks++own)
  |[],vs,Ks,k,h,e,f,d=>by simp only[fl]at e;rw[<-e,show Ks= []from f];exact h
  | .st c::bs,[],Ks,k,h,e,f,d=>f.elim
  | .st c::bs,v::vs,Ks,k,h,e,f,d=>by
    cases v<;>first|exact f.elim|skip
    rename_i cs;obtain⟨e1,e2,e3⟩:=ZUJ e;have:=ZGz _ _ _ (Qf g (k:=λvs o=>takeK c vs (λa b=>k (.agg a.toArray::b) o)) h e1 f d);rw[e2,e3]at this;simpa using this
  | .sx N R j n m::bs,[],Ks,k,h,e,f,d=>f.elim
  | .sx true R j n m::bs,v::vs,Ks,k,h,e,f,d=>by
    obtain⟨ao,cap,rfl⟩:=IsSlice.val f.1;exact Qf g (k:=λvs o=>k (_::vs) o) (h ao m.length cap (IsSlice.mono j.h (New.call g) f.1)) (T3 e).2 f.2 d
  | .sx false R j n m::bs,v::vs,Ks,k,h,e,f,d=>by
    obtain⟨ao,cap,rfl⟩:=IsSlice.val f.1;exact Qf g (k:=λvs o=>k (_::vs) o) (h ao m.length cap f.1) (T3 e).2 f.2 d
  | .rx N R j E n m::bs,[],Ks,k,h,e,f,d=>f.elim
  | .rx N R j E n m::bs,v::vs,[],k,h,e,f,d=>f.elim
  | .rx true R j E n m::bs,v::vs,K::Ks,k,h,e,f,d=>by
    obtain⟨⟨w,l⟩,q⟩:=f;obtain⟨ao,cap,rfl⟩:=RowOf.val l;have t:=RowOf.base (RowOf.mono j.h (New.call g) l) (λp r=>d p (by simp[r]));exact Qf g (k:=λvs o=>k (_::vs) (K::o)) (h ao m.length cap K t) (T3 e).2 q (λp r=>d p (by rw[Td];exact Rf _ r))
  | .rx false R j E n m::bs,v::vs,K::Ks,k,h,e,f,d=>by
    obtain⟨⟨w,l⟩,q⟩:=f;obtain⟨ao,cap,rfl⟩:=RowOf.val l;have t:=RowOf.base l (λp r=>d p (by simp[r]));exact Qf g (k:=λvs o=>k (_::vs) (K::o)) (h ao m.length cap K t) (T3 e).2 q (λp r=>d p (by rw[Td];exact Rf _ r))
  | .fv _::bs,[],Ks,k,h,e,f,d=>f.elim
  | .fv _::bs,_::_,Ks,k,h,e,f,d=>f.elim
  | .cx N R j n m::bs,[],Ks,k,h,e,f,d=>f.elim
  | .cx true R j n m::bs,v::vs,Ks,k,h,e,f,d=>by
    obtain⟨⟨⟨ao,u,rfl⟩,l⟩,q⟩:=f;exact Qf g (k:=λvs o=>k (_::vs) o) (h ao u (IsSlice.mono j.h (New.call g) l)) (T3 e).2 q d
  | .cx false R j n m::bs,v::vs,Ks,k,h,e,f,d=>by
    obtain⟨⟨⟨ao,u,rfl⟩,l⟩,q⟩:=f;exact Qf g (k:=λvs o=>k (_::vs) o) (h ao u l) (T3 e).2 q d
  | .i _::bs,[],Ks,k,h,e,f,d=>f.elim
  | .i _::bs,_::vs,Ks,k,h,e,f,d=>by obtain⟨e1,e2⟩:=T3 e;subst e1;exact Qf g (k:=λvs o=>k (_::vs) o) h e2 f d
  | .b _::bs,[],Ks,k,h,e,f,d=>f.elim
  | .b _::bs,_::vs,Ks,k,h,e,f,d=>by obtain⟨e1,e2⟩:=T3 e;subst e1;exact Qf g (k:=λvs o=>k (_::vs) o) h e2 f d
  | .w8 _::bs,[],Ks,k,h,e,f,d=>f.elim
  | .w8 _::bs,_::vs,Ks,k,h,e,f,d=>by obtain⟨e1,e2⟩:=T3 e;subst e1;exact Qf g (k:=λvs o=>k (_::vs) o) h e2 f d
  | .w32 _::bs,[],Ks,k,h,e,f,d=>f.elim
  | .w32 _::bs,_::vs,Ks,k,h,e,f,d=>by obtain⟨e1,e2⟩:=T3 e;subst e1;exact Qf g (k:=λvs o=>k (_::vs) o) h e2 f d
  | .w64 _::bs,[],Ks,k,h,e,f,d=>f.elim
  | .w64 _::bs,_::vs,Ks,k,h,e,f,d=>by obtain⟨e1,e2⟩:=T3 e;subst e1;exact Qf g (k:=λvs o=>k (_::vs) o) h e2 f d
  | .s _::bs,[],Ks,k,h,e,f,d=>f.elim
  | .s _::bs,_::vs,Ks,k,h,e,f,d=>by obtain⟨e1,e2⟩:=T3 e;subst e1;exact Qf g (k:=λvs o=>k (_::vs) o) h e2 f d
def PostC{ρ:Type}(q:Bool)(H:Heaplet)(B:ρ->List Sp)(r:ρ)(u:Value)(K:List Own)(a:Heaplet):Prop:=∃vs,u=pack vs/\fl (B r) vs=vs/\Out H a (B r) vs K/\(q=true->a=H)
def Con{ρ:Type}(P:Program)(f:FuncId)(q:Bool)(As:List Sp)(o:Option ρ)(B:ρ->List Sp):Prop:=
 ∀H,Ent H As (λvs=>∀r,o=some r->Does P f vs.toArray [] H (PostC q H B r))
theorem Con.does{ρ:Type}{P:Program}{f:FuncId}{q:Bool}{As:List Sp}{o:Option ρ}{B:ρ->List Sp}{H:Heaplet}{vs:List Value}{r:ρ}
 (C:Con P f q As o B)(e:fl As vs=vs)(h:Fit H As vs)(a:o=some r):Does P f vs.toArray [] H (PostC q H B r):=WI (C H) e h r a
section rules
variable{x:Cx}{ops:Array Oper}{Q:Exit->Act->World->Prop}{rest:List Oper}{l:Slots}{own:List Own}{H:Heaplet}{ty:TypeId}{d:Nat}{pos:String}{aft:Array Edge}
def prep (l:Slots)(c:Operand)(as:List Operand)(d N:Nat):Option (Nat×List Value):=match evo l c with
  | some (.func (.func f) ⟨[]⟩ ⟨[]⟩)=>match evs l as with
    |some vs=>bif Nat.blt d N then some (f,vs)else none
    |none=>none
  |_=>none
theorem ZSg{l:Slots}{c:Operand}{as:List Operand}{d N f:Nat}{vs:List Value}(h:prep l c as d N=some (f,vs)):
 evo l c=some (.func (.func f) #[] #[])/\as.mapM (evo l)=some vs/\Nat.blt d N=true:=by
 unfold prep at h;split at h
 . rename_i h1;split at h
   . rename_i h2;cases hb:Nat.blt d N with
     |true=>rw[hb]at h;cases h;exact⟨h1,ZKc h2,rfl⟩
     |false=>rw[hb]at h;cases h
   . cases h
 . cases h
variable{ρ β:Type}{o:Option ρ}{k:ρ->Option β}{c:Operand}{as:Array Operand}{ts:Array TypeId}{f:FuncId}{vs:List Value}{As:List Sp}{B:ρ->List Sp}
theorem ZSG{y:ρ}(g:o=some y)(i:Enters x.P f)(j:prep l c as.toList d x.n=some (f,vs))(C:Con x.P f true As o B)(e:fl As vs=vs)(m:Fit H As vs)
 (h:Bnd x.H0 H x.w0.heap.size own (B y) (λus o'=>JL x ops Q rest ((d,pack us)::l) o' H)):
 JL x ops Q (⟨some d,.call ⟨.value c,as,ts⟩,ty,pos,aft,none⟩::rest) l own H:=λa w b=>by
 obtain⟨h1,h2,h3⟩:=ZSg j;refine ZT7 i h1 h2 (C.does e m g) h3 (λv K' u p q r=> ?_) a w b;obtain⟨us,rfl,e2,s,t⟩:=p;have:=t rfl;subst this;exact Qf b.mem.le (k:=λus o'=>JL x ops Q rest ((d,pack us)::l) o' _) h e2 s r
theorem ZGq{r:β}(b:Option.bind o k=some r)(g:Enters x.P f)(i:prep l c as.toList d x.n=some (f,vs))(C:Con x.P f true As o B)(e:fl As vs=vs)(j:Fit H As vs)
 (h:∀y,o=some y->k y=some r->Bnd x.H0 H x.w0.heap.size own (B y) (λus o'=>JL x ops Q rest ((d,pack us)::l) o' H)):
 JL x ops Q (⟨some d,.call ⟨.value c,as,ts⟩,ty,pos,aft,none⟩::rest) l own H:=by
 obtain⟨y,a,m⟩:=Zb b;exact ZSG a g i C e j (h y a m)
def rets (l:Slots):List ResultVar->Option (List Value)
  |[]=>some []
  | .tmp t::r=>match lk l t with
    | some v=>match rets l r with
      |some vs=>some (v::vs)
      |none=>none
    |none=>none
  | .cell .. ::_=>none
theorem ZJ3{P:Program}{l:Slots}{own:List Own}:∀{a:List ResultVar} {vs:List Value},rets l a=some vs->Res P l own a vs
  |[],vs,h=>by simp[rets]at h;rw[h];exact rfl
  | .tmp t::r,vs,h=>by
    simp only[rets]at h;split at h
    . rename_i h1;split at h
      . rename_i h2;cases h;exact Yq h1 (ZJ3 h2)
      . cases h
    . cases h
  | .cell .. ::_,_,h=>by cases h
def pickL:List Nat->List Own->Option (List Own×List Own)
  |[],own=>some ([],own)
  | i ::is,own=>match own[i]? with
    | some s=>match pickL is (own.eraseIdx i)with
      |some (K,r)=>some (s::K,r)
      |none=>none
    |none=>none
theorem ZHA:∀{is:List Nat} {own K r:List Own},pickL is own=some (K,r)->own.flatten.Perm (K.flatten++r.flatten)
  |[],own,K,r,h=>by cases h;exact Yk
  | i ::is,own,K,r,h=>by
    simp only[pickL]at h;split at h
    . rename_i h1;split at h
      . rename_i h2;cases h;exact Qm i h1 (ZHA h2)
      . cases h
    . cases h
def outp (l:Slots)(own:List Own)(r:List ResultVar)(e:Exit)(ds:List Deferred)(is:List Nat):Option (List Value×List Own):=match ds with
  | []=>match e with
    | .ret=>match rets l r,pickL is own with
      |some vs,some (K,_)=>some (vs,K)
      |_,_=>none
    | .normal=>match rets l r,pickL is own with
      |some vs,some (K,_)=>some (vs,K)
      |_,_=>none
    |_=>none
  |_=>none
theorem ZSi{P:Program}{l:Slots}{own:List Own}{a:List ResultVar}{e:Exit}{ds:List Deferred}{is:List Nat}{vs:List Value}{K:List Own}(h:outp l own a e ds is=some (vs,K)):
 ds= []/\(e=.ret\/e=.normal)/\Res P l own a vs/\∃r:List Own,own.flatten.Perm (K.flatten++r.flatten):=by
 unfold outp at h;split at h
 . split at h
   . split at h
     . rename_i h1 h2;cases h;exact⟨rfl,.inl rfl,ZJ3 h1,_,ZHA h2⟩
     . cases h
   . split at h
     . rename_i h1 h2;cases h;exact⟨rfl,.inr rfl,ZJ3 h1,_,ZHA h2⟩
     . cases h
   . cases h
 . cases h
variable{fn:Func}{ex:Exit}{z r:ρ}{Ks:List Own}
theorem ZK2 (is:List Nat)(a:outp l own fn.results.toList ex x.ds is=some (vs,Ks))(b:some z=some r)(hs:fl (B z) vs=vs)(c:Out x.H0 x.H0 (B z) vs Ks):
 JN x (Ret x fn (PostC true x.H0 B r) ex) l own x.H0:=by
 obtain⟨h1,h2,h3,q,d⟩:=ZSi (P:=x.P) a;obtain rfl:=TJ b;exact Yc h2 (by simp) h1 h3 d ⟨vs,rfl,hs,c,λh=>rfl⟩
end rules
def numK:List Nat->List Value->(Slots->Prop)->Prop
 |n::a,v::vs,k=>numK a vs (λl=>k ((n,v)::l))
 |_,_,k=>k []
theorem ZOX:∀(a:List Nat) (vs:List Value) (k:Slots->Prop),numK a vs k->k (a.zip vs)
 |[],vs,k,h=>by simpa[numK]using h
 |n::a,[],k,h=>h
 |n::a,v::vs,k,h=>ZOX a vs (λl=>k ((n,v)::l)) h
theorem ZRB:∀(vs:List Value) (k n i:Nat) (v:Value),lk ((List.range' k n).zip vs) i=some v->k<=i/\vs[i-k]? =some v
  |[],k,n,i,v,h=>by simp[lk]at h
  |u::vs,k,0,i,v,h=>by simp[lk]at h
  | u ::vs,k,n+1,i,v,h=>by
    simp only[S6,RO,lk]at h;cases hb:Nat.beq k i with
    | true=>
      have e:k=i:=TB hb;subst e;rw[hb]at h;simp at h;subst h;simp
    | false=>
      have a:k≠i:=(by intro e;subst e;simp at hb);rw[hb]at h;obtain⟨h1,h2⟩:=ZRB vs (k+1) n i v h;refine⟨by omega,?_⟩;rw[show i-k=(i-(k+1))+1 by omega];simpa using h2
theorem ZMN{vs:List Value}{N i:Nat}{v:Value}(hn:vs.length<=N)(e:lk ((List.range' 0 24).zip vs) i=some v):((vs.toArray++Array.replicate (N-vs.toArray.size) undef)[i]?).getD undef=v:=by
 obtain⟨_,h2⟩:=ZRB vs 0 24 i v e;have hi:i<vs.length:=by
  rcases SX i vs.length with h|h
  . exact h
  . simp[T7 h]at h2
 have h3:vs[i]=v:=by simpa[TO hi]using h2
 have:i<(vs.toArray++Array.replicate (N-vs.toArray.size) undef).size:=by simp;omega
 simp only[SL this,Ra];rw[RD (by simpa using hi)];simpa using h3
theorem Pj{P:Program}{f:FuncId}{fn:Func}{c:Code}{vs:List Value}{H:Heaplet}{R:Value->List Own->Heaplet->Prop}
 (a:P.funcs[f]? =some fn)(hb:fn.body=some c)(hn:Nat.ble vs.length fn.ntmps=true)
 (h:numK [0,1,2,3,4,5,6,7,8,9,10,11,12,13,14,15,16,17,18,19,20,21,22,23] vs (λl=>∀w,
  JC {P:=P,r:=none,n:=fn.ntmps,w0:=w,H0:=H,S:=[],ds:=[]} c (Ret {P:=P,r:=none,n:=fn.ntmps,w0:=w,H0:=H,S:=[],ds:=[]} fn R) l [] H)):Does P f vs.toArray [] H R:=λw b d=>by
 have hn:=TN hn;have h:=ZOX _ _ _ h;refine callsIn_of_wp a hb trivial ?_;refine h w _ w ⟨?_,rfl,λi v e=>ZMN hn e,⟨b,d,PH _ _,λp g=>.inl (SU g),R1 _,λ_ _ _=>rfl,R8⟩⟩;simp;omega
section ways
variable{α:Type}{A B:Option α}{r:α}{x:Cx}{ops:Array Oper}{Q:Exit->Act->World->Prop}{K:Act->World->Prop}{rest:List Oper}{l:Slots}{own:List Own}{H sH:Heaplet}{b:Bool}
theorem XQ{c:Tmp}{d e:Code}(a:_root_.cond b A B=some r)(f:lk l c=some (.bool b))(ht:b=true->A=some r->JC x d Q ((c,.bool true)::l) own H)(g:b=false->B=some r->JC x e Q ((c,.bool false)::l) own H):
 JC x (.cond (.tmp c) d e) Q l own H:=BJ f (λh=>ht h (ZRl h a)) (λh=>g h (ZRm h a))
theorem ZUO (t:Nat)(a:_root_.cond b A B=some r)(hb:lk l t=some (.bool b))(ht:b=true->A=some r->JL x ops Q rest ((t,.bool true)::l) own H)
 (c:b=false->B=some r->JL x ops Q rest ((t,.bool false)::l) own H):JL x ops Q rest l own H:=ZE9 hb (λh=>ht h (ZRl h a)) (λh=>c h (ZRm h a))
end ways
section many
variable{x:Cx}{ops:Array Oper}{K:Act->World->Prop}{l l':Slots}{own:List Own}{H sH:Heaplet}{so:Segs}
def ZKK (l:Array Bool):List Nat->Array Bool
 |[]=>l
 |i::is=>ZKK (l.setIfInBounds i true) is
def okAll (ops:Array Oper)(l:Array Bool):List Nat->Bool
 |[]=>true
 |i::is=>(Region.free .any ops l i&&(Region.ready .any ops l).contains i)&&okAll ops (l.setIfInBounds i true) is
def gate (ops:List Oper)(l:Slots):Option (Nat×Bool)->Option Bool
  |none=>some true
  | some (j,b)=>match ops[j]? with
    | some o=>match o.dst with
      | some t=>match lk l t with
        |some (.bool true)=>some b
        |some (.bool false)=>bif b then some false else some true
        |some (.tuple ⟨[]⟩)=>some false
        |_=>none
      |none=>none
    |none=>none
def ZCa (tb:Tab)(N:Nat)(ops:List Oper)(own:List Own):List Nat->Slots->List Nat->List Nat->List Nat->Option (Slots×List Nat×List Nat×List Nat)
  |[],l,hs,e1,e2=>some (l,hs,e1,e2)
  | i ::is,l,hs,e1,e2=>match ops[i]? with
    | some ⟨some d,op,ty,pos,aft,g⟩=>bif Nat.blt d N then match gate ops l g with
        | some true=>match vop tb own l hs op with
          |some (v,h,f,a)=>ZCa tb N ops own is ((d,v)::l) h (f++e1) (a++e2)
          |none=>none
        |some false=>ZCa tb N ops own is ((d,undef)::l) hs e1 e2
        |none=>none
      else none
    |_=>none
theorem ZCZ {tb:Tab}{N:Nat}{os:List Oper}{own:List Own}:∀{is:List Nat} {l l':Slots} {hs c e1 e2 f e:List Nat},ZCa tb N os own is l hs e1 e2=some (l',c,f,e)->∃a b,a.length=b.length/\f=a++e1/\e=b++e2
  |[],_,_,_,_,_,_,_,_,h=>by cases h;exact⟨[],[],rfl,rfl,rfl⟩
  | i ::is,l,l',hs,c,e1,e2,f,e,h=>by
    simp only[ZCa]at h;split at h
    . rename_i d op ty pos aft g _;cases hb:Nat.blt d N with
      |false=>rw[hb]at h;cases h
      | true=>
        rw[hb,Tu]at h;split at h
        . split at h
          . rename_i v j k m n;obtain⟨a,b,h1,h2,h3⟩:=ZCZ h;have o:=ZJu n;exact⟨a++k,b++m,by rw[TF,TF,h1,o],by rw[h2,TI],by rw[h3,TI]⟩
          . cases h
        . exact ZCZ h
        . cases h
    . cases h
theorem ZRX{l:Slots}{g:Option (Nat×Bool)}(h:gate ops.toList l g=some true):Wj ops l g:=by
  cases g with
  |none=>trivial
  | some g=>
    obtain⟨j,b⟩:=g;simp only[gate]at h;split at h
    . rename_i h1;split at h
      . rename_i h2;split at h
        . rename_i h3;cases h;exact⟨_,_,by simpa using h1,h2,h3⟩
        . rename_i h3;cases b with
          |true=>cases h
          |false=>exact⟨_,_,by simpa using h1,h2,h3⟩
        . cases h
        . cases h
      . cases h
    . cases h
theorem Pm {tb:Tab}(ht:tb.Ok x.P):∀{is:List Nat} {f:Array Bool} {l l':Slots} {hs r e1 e2 v w:List Nat} {o:Nat},okAll ops f is=true->is.all (ZCm so)=true->
    ZCa tb x.n ops.toList (Q9 [] so) is l hs e1 e2=some (l',r,v,w)->v=w->e1.length=e2.length->JB x ops K so sH o (ZKK f is) l' own H->JB x ops K so sH (o+is.length) f l own H
  |[],_,_,_,_,_,_,_,_,_,_,_,_,h,_,_,g=>by cases h;exact g
  | i ::is,f,l,l',hs,r,e1,e2,v,w,o,c,k,h,s,t,u=>by
    simp only[ZCa]at h;simp only[okAll,TE]at c;simp only[RN,TE]at k;split at h
    . rename_i d op ty pos aft g A;have p:ops[i]? =some ⟨some d,op,ty,pos,aft,g⟩:=(by simpa using A);cases hb:Nat.blt d x.n with
      |false=>rw[hb]at h;cases h
      | true=>
        rw[hb,Tu]at h;split at h
        . rename_i m;split at h
          . rename_i F B C D z;have q:=ZJu z;obtain⟨a,b,h1,h2,h3⟩:=ZCZ h;have e:a++(C++e1)=b++(D++e2):=(by rw[<-h2,<-h3,s]);have e':=(List.append_inj e h1).2;obtain⟨y,_⟩:=List.append_inj e' q;exact JB.val [] p (ZQV ht z y) (Pm ht c.2 k.2 h s (by simp[q,t]) u) ⟨c.1.2,c.1.1,rfl⟩ (ZRX m) rfl k.1 hb
          . cases h
        . rename_i m;cases g with
          |none=>cases m
          | some g=>
            obtain⟨j,E⟩:=g;simp only[gate]at m;split at m
            . rename_i h1;split at m
              . rename_i h2;split at m
                . rename_i h3;cases m;exact JB.no p (by simpa using h1) h2 h3 rfl (Pm ht c.2 k.2 h s t u) ⟨c.1.2,c.1.1,rfl⟩ k.1 hb
                . rename_i h3;cases E with
                  |true=>exact JB.no p (by simpa using h1) h2 h3 rfl (Pm ht c.2 k.2 h s t u) ⟨c.1.2,c.1.1,rfl⟩ k.1 hb
                  |false=>cases m
                . rename_i h3;exact OG p (by simpa using h1) h2 h3 (Pm ht c.2 k.2 h s t u) ⟨c.1.2,c.1.1,rfl⟩ k.1 hb
                . cases m
              . cases m
            . cases m
        . cases h
    . cases h
theorem JB.run{tb:Tab}{F:Nat}{a:Array Bool}{E:List Nat}(n:Nat)(is hs:List Nat)(ht:tb.Ok x.P)(d:ZCa tb x.n ops.toList (Q9 [] so) is l hs [] []=some (l',[],E,E))
 (h:JB x ops K so sH (F-n) (ZKK a is) l' own H)(b:okAll ops a is=true:=by kernel_rfl)(c:is.all (ZCm so)=true:=by rfl)(hn:(Nat.beq is.length n&&Nat.ble n F)=true:=by rfl):
 JB x ops K so sH F a l own H:=by
 rw[TE]at hn;have h1:=TB hn.1;have h2:=TN hn.2;have:=Pm ht b c d rfl rfl h;rw[h1,Nat.sub_add_cancel h2]at this;exact this
end many
section cells
variable{x:Cx}{l:Slots}{own:List Own}{H:Heaplet}{vs:List Value}{ρ:Type}{B:ρ->List Sp}{fn:Func}{ex:Exit}{z r:ρ}{Ks:List Own}
variable{tb:Tab}{E:List Nat}
end cells
section cuts
variable{x:Cx}{Q:Exit->Act->World->Prop}{l l0 l':Slots}{own o0 o':List Own}{H g':Heaplet}{c:Code}{τ β:Type}{o:Option τ}{k:τ->Option β}{r:β}
def selL (l:Slots):List Nat->Option Slots
  |[]=>some []
  | i ::is=>match lk l i with
    | some v=>match selL l is with
      |some q=>some ((i,v)::q)
      |none=>none
    |none=>none
def selO (own:List Own):List Nat->Option (List Own)
  |[]=>some []
  | i ::is=>match own[i]? with
    | some s=>match selO own is with
      |some q=>some (s::q)
      |none=>none
    |none=>none
def ZHZ:Slots->List Nat
 |[]=> []
 |(k,_)::r=>k::ZHZ r
theorem ZG4{l:Slots}:∀{l':Slots},selL l (ZHZ l')=some l'->Sub l' l
  |[],_=>trivial
  | (k,v)::q,h=>by
    simp only[ZHZ,selL]at h;split at h
    . rename_i h1;split at h
      . rename_i h2;have h3:=TJ h;obtain⟨a,b⟩:=T3 h3;simp only[SD,Rd]at a;subst a;subst b;exact⟨h1,ZG4 h2⟩
      . cases h
    . cases h
theorem WP (a:Option.bind o k=some r)(ks js:List Nat)(hs:selL l ks=some l0)(b:selO own js=some o0)(I:τ->Slots->List Own->Slots->List Own->Heaplet->Prop)
 (h2:∀t,o=some t->k t=some r->∀l o g,I t l0 o0 l o g->JN x (Q .normal) l o g)
 (h1:∀t,k t=some r->o=some t->JC x c (Exit.then (HoldsI x (I t l0 o0)) Q) l own H):JC x c Q l own H:=by
 obtain⟨t,ht,h⟩:=Zb a;exact JC.cut (I t l0 o0) (h2 t ht h) (h1 t h ht)
theorem YA{I:Slots->List Own->Heaplet->Prop}(hI:I l' o' g')(h:selL l (ZHZ l')=some l')(a:o'=own)(b:g'=H):
 JN x (Exit.then (HoldsI x I) Q .normal) l own H:=JN.cut hI (ZG4 h) a b
theorem Wx{a:Type}{body:a->Option (a ⊕ τ)}{s0:a}{t:τ}{b:Slots}(ks js:List Nat)(hs:selL l ks=some l0)(i:selO own js=some o0)(I:Slots->List Own->a->Slots->List Own->Heaplet->Prop)
 (d:Go.Ow.loop body s0=some t)(h0:I l0 o0 s0 b own H)(e:selL l (ZHZ b)=some b)
 (round:∀n s l o g,I l0 o0 s l o g->∀q,body s=some q->Stp body n t q->JC x c (Exit.then (HoldsI x (λl o g=>∃s,I l0 o0 s l o g/\run body n s=some t)) Q) l o g):JC x (.loop c) Q l own H:=by
 refine ZIV (λn l o g=>∃s,I l0 o0 s l o g/\run body n s=some t) FUEL ?_ ⟨s0,h0,d⟩ (ZG4 e) ?_
 . rintro l o g ⟨s,_,h⟩;exact ZLJ h
 . rintro n l o g ⟨s,hI,f⟩;obtain⟨q,h1,h2⟩:=ZDW f;exact round n s l o g hI q h1 h2
end cuts
end Go.Ow
namespace Go.Ow
variable{α β:Type}
def appN (N:Nat)(l m:List α)(k:List α->Option β):Option β:=if l.length+m.length<=N then k (l++m)else none
theorem ZPy{N:Nat}{l m:List α}{k:List α->Option β}{r:β}(h:appN N l m k=some r):∃q,q=l++m/\l.length+m.length<=N/\k q=some r:=by
 unfold appN at h;split at h
 . exact⟨_,rfl,by assumption,h⟩
 . cases h
def extO (N:Nat)(l:List UInt8)(b:Int)(k:List UInt8->Option β):Option β:=if(l.length:Int)<=b/\b<=N then k (l++List.replicate (b.toNat-l.length) 0)else none
theorem ZPs{N:Nat}{l:List UInt8}{b:Int}{k:List UInt8->Option β}{r:β}(h:extO N l b k=some r):∃q,q=l++List.replicate (b.toNat-l.length) 0/\((l.length:Int)<=b/\b<=N)/\k q=some r:=by
 unfold extO at h;split at h
 . exact⟨_,rfl,by assumption,h⟩
 . cases h
theorem ZS4{N:Nat}{l:List UInt8}{b:Int}{k:List UInt8->Option β}(h:(l.length:Int)<=b/\b<=N):extO N l b k=k (l++List.replicate (b.toNat-l.length) 0):=by unfold extO;rw[TG h]
structure data_place where
  set:Int
  obj:Int
  index:Int
instance:Inhabited data_place:=⟨⟨default,default,default⟩⟩
open Go.RowKit
def R_data_place:Rep data_place:=λH cs x=>cs= [.int .i64 x.set,.int .i64 x.obj,.int .i64 x.index]
theorem R_data_place.mono:R_data_place.Mono:=λ_ _ _ _ _ h=>h
instance:MonoC R_data_place:=⟨R_data_place.mono⟩
theorem ElemAt.one{v:Value}{n:Nat}{i:Int}{b o c o':Nat}(h:ElemAt v n i b o)(f:ElemAt v n i c o'):b=c/\o=o':=by
 obtain⟨_,o0,len,cap,e,e2,_⟩:=h;obtain⟨_,g,l,d,e',a,_⟩:=f;rw[e]at e';simp only[Value.slice.injEq,SW,Addr.mk.injEq]at e';obtain⟨⟨rfl,rfl,-⟩,-,-⟩:=e';exact⟨rfl,by rw[e2,a]⟩
section rules
variable{x:Cx}{l:Slots}{own:List Own}{H:Heaplet}{ty t u:TypeId}{p q:Operand}{v:Value}{e:Option Int}{n:Nat}{vs:Value}
theorem ZJC{P:Program}{w:World}{t E:TypeId}{a:Option Addr}(h:P.underlying t=some (.pointer E)):(Op.equal t (.pointer a) (.pointer none)).run P w=.ok a.isNone w:=by
 have b:∀k,(Op.equalIn (k+1) t (.pointer a) (.pointer none)).run P w=.ok a.isNone w:=λk=>by
  unfold Op.equalIn;rw[Sem.run_bind,run_underlying h];cases a<;>rfl
 exact b 9999
def spn{α:Type}:List α->Option (List α)
  |[]=>some []
  | a::r=>match spn r with
    |some q=>some (a::q)
    |none=>none
theorem ZQe{α:Type}:∀{l q:List α},spn l=some q->q=l
  |[],q,h=>by cases h;rfl
  | a::r,q,h=>by
    simp only[spn]at h;split at h
    . rename_i h1;cases h;rw[ZQe h1]
    . cases h
theorem ZN8{T b o n:Nat}{cs:List Value}(k:Nat){vs:List Value}(hs:ZC x.P T=some (true,n))(h1:evo l p=some (.pointer (some ⟨b,o+k,none⟩)))(h:∀j u,cs[j]? =some u->H b (o+j)=some u)
 (a:spn ((cs.drop k).take n)=some vs)(hn:vs.length=n):Runs x (.load T p) ty l own H (.agg vs.toArray):=ZVT k hs h1 h (ZQe a) hn
variable{ops:Array Oper}{Q:Exit->Act->World->Prop}{rest:List Oper}{HF:Heaplet}{d:Nat}{pos:String}{aft:Array Edge}
end rules
end Go.Ow
