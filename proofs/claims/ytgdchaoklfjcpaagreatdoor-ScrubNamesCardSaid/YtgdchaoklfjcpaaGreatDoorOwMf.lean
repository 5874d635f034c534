import Derived.Test.YtgdchaoklfjcpaaGreatDoorOwMb
import Derived.Test.YtgdchaoklfjcpaaGreatDoorOwMe
import Derived.Test.YtgdchaoklfjcpaaGreatDoorOwMa
import Derived.KernelRfl
import Derived.Test.YtgdchaoklfjcpaaGreatDoorOwMd
import Derived.Sort.Defs
import Derived.Lib.BitFns
/- rules, proved -/
set_option linter.constructorNameAsVariable false
set_option linter.unusedSimpArgs false
set_option linter.unusedVariables false
namespace Go.Ow
open Go.RowKit
variable{x:Cx}{ops:Array Oper}{Q:Exit->Act->World->Prop}{rest:List Oper}{l:Slots}{own:List Own}{H HF:Heaplet}
variable{ty:TypeId}{d:Nat}{pos:String}{aft:Array Edge}
theorem ZNJ {α σ τ:Type}(hr:x.r=none){g:Operand}{ps:Array Tmp}{assign body:Code}{gf:FuncId}{cap:Array Value}{RA:Heaplet->Array Value->α->Prop}
    (bd:α->σ->Option (σ ⊕ τ))(s0:σ)(tt:σ ⊕ τ)(I:σ->List Own->Heaplet->Prop)(X:τ->Code->List Own->Heaplet->Prop)(M:List Own->Heaplet->Prop)(mine own2:List Own)
    (hg:evo l g=some (.func (.func gf) #[] cap))(he:Enters x.P gf)(hown:own=mine++own2)
    (hit:∀(d:Nat) (I':σ->Own->Heaplet->Prop) (X':τ->Own->Heaplet->Prop) (O:Own),YSpecG x.P d RA bd I' X'->IX I' X' (.inl s0) O H->
      Does x.P gf (#[.func (.yield d) #[] #[]]++cap) (mine++ [O]) H λu K' H'=>∃m' O',K'=m'++ [O']/\M m' H'/\IX I' X' tt O' H')
    (hps:∀H args y,RA H args y->args.size=ps.size) (hlt:ps.toList.all (λp=>Nat.blt p x.n)=true)
    (h0:I s0 own2 H)
    (hround:∀(d:Nat) (y:α) (s:σ) (args:Array Value) (o:List Own) (H1 H':Heaplet) (out:σ ⊕ τ),Hle H1 H'->I s o H1->RA H' args y->bd y s=some out->∃J:Slots->List Own->Heaplet->Prop,
      (∀wb,x.w0.heap.size<=wb.heap.size->JC {x with r:=some d,w0:=wb,H0:=H',S:=ids o.flatten,ds:=[]} assign
        (Exit.then (λa w=>∃Y q H2,J Y q H2/\Holds {x with r:=some d,w0:=wb,H0:=H',S:=ids o.flatten,ds:=[]} Y q H2 a w) λ_ _ _=>False) ((ps.toList.zip args.toList).reverse++l) o H')/\
      (∀wb Y Z H2,J Y Z H2->x.w0.heap.size<=wb.heap.size->JC {x with r:=some d,w0:=wb,H0:=H2,S:=ids Z.flatten,ds:=[]} body (RoundS I X out wb H2<|ids Z.flatten) Y Z H2))
    (hdone:∀(D:Nat) (s:σ) (m' o:List Own) (H1 H':Heaplet),x.w0.heap.size<=D->tt=.inl s->M m' H'->Hle H1 H'->I s o H1->Hle H H'->JN {x with ds:=mark D::x.ds} (Q .normal) l ([(D,.deferred<|some [])]::(m'++o)) H')
    (hstop:∀(D:Nat) (c:Code) (e:τ) (m' o:List Own) (H1 H':Heaplet),x.w0.heap.size<=D->tt=.inr e->M m' H'->Hle H1 H'->X e c o H1->Hle H H'->JC {x with ds:=mark D::x.ds} c Q l ([(D,.deferred<|some [])]::(m'++o)) H'):
    JC x (.rangeFunc g ps assign body) Q l own H:=λa w N=>by
  have hFw:Fw x.r=Fence.wide:=by rw[hr];rfl
  rw[hFw];refine wpIn_rangeFunc ?_;intro fn hfn
  -- the two blocks
  obtain⟨b,h⟩:∃b:LoopState->Option Code->Loop,b=λst pe=>{state:=st,pending:=pe,fn,tmps:=a.tmps,params:=ps,assign,body,defers:=w.heap.size}:=⟨_,rfl⟩;have hm1:=N.mem.go0 (K':=[[(w.heap.size,.deferred<|some [])]]) (by simpa using Mem.alloc N.mem.agr (.deferred<|some []));have hm2:=hm1.go0 (K':=[[((w.alloc<|.deferred<|some []).heap.size,.loop<|b .ready none)]]) (by simpa using Mem.alloc hm1.agr (.loop<|b .ready none));have hsz:(w.alloc<|.deferred<|some []).heap.size=w.heap.size+1:=by simp
  rw[hsz]at hm2;obtain⟨W,hW⟩:∃W,W=(w.alloc<|.deferred<|some []).alloc (.loop<|b .ready none):=⟨_,rfl⟩;rw[<-hW]at hm2;let D:=w.heap.size;let d:=w.heap.size+1;have hD:D≠d:=by simp[D,d]
  -- the invariant with its two blocks of book-keeping
  let tail:LoopState->Option Code->Own:=λst pe=> [(d,Obj.loop<|b st pe),(D,Obj.deferred<|some [])];let I':σ->Own->Heaplet->Prop:=λs O H'=>∃o:List Own,O=tail .ready none++o.flatten/\I s o H';let X':τ->Own->Heaplet->Prop:=λe O H'=>∃(o:List Own) (c:Code),O=tail .done (some c)++o.flatten/\X e c o H';refine⟨d,[mark D],W,{target:=.fn (.func gf) cap,args:=#[.func (.yield d) #[] #[]]},W,gf,#[.func (.yield d) #[] #[]]++cap,W,?_,?_,λ_ _=>trivial,?_,λe=>by simp[Fence.wide]at e,?_⟩
  . rw[hW,h];exact run_enterLoop_outer _ _ _ _ _
  . have e1:=ZM N hg;simp only[resolve,e1];simp[go_sem,Act.eval,Deferred.ofValue,d]
  . simp only[invoke];exact he _ _
  . have hY : YSpecG x.P d RA bd I' X':=by
      rintro y s args O H' B out ⟨H1',V,o,rfl,hI⟩ hy hbd hag R;have hsize:=hps _ _ _ hy;have U:B.heap[d]? =some (.loop<|b .ready none):=R.here (d,Obj.loop<|b .ready none) (by simp[tail]);have hapr:∀k,H' d k=none:=λk=>R.apart (d,Obj.loop<|b .ready none) (by simp[tail]) k;have hyld:=run_yield (P:=x.P) (args:=args) U (by rw[h];exact hsize);rw[h]at hyld;refine⟨fn,_,assign,body,hyld,?_⟩;obtain⟨J,hA,hB⟩:=hround d y s args o H1' H' out V hI hy hbd;refine roundIn_of_wpIn (F:=Fence.wide) trivial ?_;have hput:=puts_holds (x:=x) (own:=own) (H:=H) (w:=w) x.n ps.toList args.toList a.tmps l N.size hlt N.slots;have hfold:((ps.zip args).foldl (λt (p,v)=>t.setIfInBounds p v) a.tmps)=((ps.toList.zip args.toList).foldl (λt (p,v)=>t.setIfInBounds p v) a.tmps):=by
        rw[<-Array.foldl_toList];simp
      have hok2:OwnOk H' o.flatten B:=by
        exact PM R
      have hmo:Mem B H' (ids o.flatten) o.flatten H' B:=Mem.same hag hok2;refine wpIn_mono (Q:=Exit.then (λa w=>∃Y q H2,J Y q H2/\Holds {x with r:=some d,w0:=B,H0:=H',S:=ids o.flatten,ds:=[]} Y q H2 a w) λ_ _ _=>False) ?_ ?_
      . rw[hfold];have hDs:D<B.heap.size:=(TV.1<|R.here (D,Obj.deferred<|some [])<|by simp[tail]).1;exact hA B (TS N.mem.kept.size<|Nat.le_of_lt hDs) {tmps:=_,defers:=[]} B ⟨hput.1,rfl,hput.2,hmo⟩
      . rintro e a1 w2 f;cases e with
        | normal=>
          obtain⟨Y,Z,H2,hJ1,f⟩:∃Y q H2,J Y q H2/\Holds {x with r:=some d,w0:=B,H0:=H',S:=ids o.flatten,ds:=[]} Y q H2 a1 w2:=f
          -- the assignments have turned nothing of the book-keeping
          have hlt1:d<B.heap.size:=(TV.1 U).1;have hnd:=R.nodup;have hlro:d∉ids o.flatten:=λhmem=>by
            simp only[tail,ids,SJ,Sf]at hnd;exact hnd.2.2 d (by simp) d hmem rfl
          have hDo:D∉ids o.flatten:=λhmem=>by
            simp only[tail,ids,SJ,Sf]at hnd;exact hnd.2.2 D (by simp) D hmem rfl
          have hr2:w2.heap[d]? =some (.loop<|b .ready none):=by rw[f.mem.kept.block d hlt1 hlro];exact U
          -- the whole memory at the round's begin,seen from B
          have hmw1:Mem B H' (ids<|tail .ready none++o.flatten) (tail .ready none++o.flatten) H' B:=Mem.same hag R;have hmw2:Mem B H' (ids<|tail .ready none++o.flatten) (Z.flatten++(tail .ready none)) H2 w2:=
            hmw1.go (K:=o.flatten) (rst:=(tail .ready none)) Tc f.mem
          have hapr2:∀k,H2 d k=none:=λk=>hmw2.ok.apart (d,Obj.loop<|b .ready none) (by simp[tail]) k;have hbr:=run_beginRound (P:=x.P) hr2 (by rw[h]);refine⟨_,hbr,?_⟩;have hmw3:Mem B H' (ids<|tail .ready none++o.flatten) ([(d,Obj.loop {b .ready none with state:=.busy})]++(([(D,Obj.deferred<|some [])]:Own)++Z.flatten)) H2 (w2.putObj d<|.loop {b .ready none with state:=.busy}):=by
            refine hmw2.go (K:=[(d,Obj.loop<|b .ready none)]) (rst:=[(D,Obj.deferred<|some [])]++Z.flatten) ?_ ?_
            . simp only[tail];refine List.perm_append_comm.trans ?_;simp
            . exact Mem.putObj f.mem.agr hr2 hapr2 _
          have hDs:D<B.heap.size:=(TV.1<|R.here (D,Obj.deferred<|some [])<|by simp[tail]).1;have hsz2:x.w0.heap.size<=(w2.putObj d<|.loop {b .ready none with state:=.busy}).heap.size:=by
            have h1:=N.mem.kept.size;have h2:B.heap.size<=w2.heap.size:=f.mem.kept.size;have h5:w.heap.size<B.heap.size:=hDs;exact TS (TS h1<|TS (Nat.le_of_lt h5) h2)<|by simp
          refine wpIn_mono (hB (w2.putObj d<|.loop {b .ready none with state:=.busy}) Y Z H2 hJ1 hsz2 a1 _ ⟨f.size,f.ds,f.slots,Mem.same hmw3.agr ?_⟩) ?_
          . exact PM<|PM hmw3.ok
          . -- the round's end
            have fin:∀(j:Option Code) (q:List Own) (H1:Heaplet) (E:World),Mem (w2.putObj d<|.loop {b .ready none with state:=.busy}) H2 (ids Z.flatten) q.flatten H1 E->
                (Instr.endRound d j).run x.P E=.ok (.bool j.isNone) (E.putObj d<|.loop<|b (if j.isNone then .ready else .done) j)/\
                Mem B H' (ids<|tail .ready none++o.flatten) (tail (if j.isNone then .ready else .done) j++q.flatten) H1 (E.putObj d<|.loop<|b (if j.isNone then .ready else .done) j):=by
              intro j q H1 E A;have i:Mem B H' (ids<|tail .ready none++o.flatten) (q.flatten++([(d,Obj.loop {b .ready none with state:=.busy})]++ [(D,Obj.deferred<|some [])])) H1 E:=by
                refine hmw3.go (K:=Z.flatten) (rst:=[(d,Obj.loop {b .ready none with state:=.busy})]++ [(D,Obj.deferred<|some [])]) ?_ A;rw[<-TE];exact Tc
              have G:E.heap[d]? =some (.loop {b .ready none with state:=.busy}):=i.ok.here (d,Obj.loop {b .ready none with state:=.busy}) (by simp);have L:∀k,H1 d k=none:=λk=>i.ok.apart (d,Obj.loop {b .ready none with state:=.busy}) (by simp) k;have m:=run_endRound (P:=x.P) j G;rw[h]at m|-;refine⟨m,?_⟩;have:=i.go (K:=[(d,Obj.loop {b .ready none with state:=.busy})]) (rst:=q.flatten++ [(D,Obj.deferred<|some [])]) (by
                refine(Tc (l₁:=q.flatten)).trans ?_;rw[TE];exact Sw _ Tc) (Mem.putObj i.agr G L<|.loop {b .ready none with state:=if j.isNone then .ready else .done,pending:=j})
              rw[h]at this;refine Mem.perm this ?_;simp only[tail,h];exact Sw [_]<|Tc (l₁:=q.flatten) (l₂:=[(D,Obj.deferred<|some [])])
            rintro e2 a3 E hp;cases e2 with
            | normal=>
              obtain⟨s',q,H1,rfl,A,hI1⟩:=hp;obtain⟨m,z⟩:=fin none q H1 E A;exact⟨_,_,m,_,H1,rfl,z,H1,Rz _,q,rfl,hI1⟩
            | ret=>
              obtain⟨t,q,H1,rfl,A,hX1⟩:=hp;obtain⟨m,z⟩:=fin (some .ret) q H1 E A;exact⟨_,_,m,_,H1,rfl,z,H1,Rz _,q,.ret,rfl,hX1⟩
            | exit id=>
              obtain⟨t,q,H1,rfl,A,hX1⟩:=hp;obtain⟨m,z⟩:=fin (some<|.exit id) q H1 E A;exact⟨_,_,m,_,H1,rfl,z,H1,Rz _,q,.exit id,rfl,hX1⟩
            |goto t=>exact hp.elim
            |panic ch=>exact hp.elim
            |outgrown=>exact hp.elim
        |exit id=>exact f.elim
        |goto t=>exact f.elim
        |ret=>exact f.elim
        |panic ch=>exact f.elim
        |outgrown=>exact f.elim
    -- the iterator
    have hD0:=hit d I' X' (tail .ready none++own2.flatten) hY ⟨H,Rz _,own2,rfl,h0⟩;have hmW:Mem x.w0 x.H0 x.S (mine++ [tail .ready none++own2.flatten]).flatten H W:=by
      refine(show Mem x.w0 x.H0 x.S (tail .ready none++own.flatten) H W by simpa[tail,D,d]using hm2).perm ?_;rw[hown];simp only[TW,TP,RM,Th];exact(TE (tail .ready none) mine.flatten own2.flatten)▸(Rs own2.flatten<|Tc (l₁:=tail .ready none) (l₂:=mine.flatten)).trans (by rw[TE])
    refine CallsIn.mono (hD0 W hmW.agr hmW.ok) ?_;rintro e E ⟨v,K',H',rfl,⟨m',O',rfl,hM,C⟩,A⟩;have hle:Hle H H':=A.le;have hm4':Mem x.w0 x.H0 x.S (m'++ [O']).flatten H' E:=by
      have:=hmW.go (K:=(mine++ [tail .ready none++own2.flatten]).flatten) (rst:=[]) (by simp) A;simpa using this
    obtain⟨H1,V,C⟩:=C;have hmk:∀(T o:Own),O'=T++o->Mem x.w0 x.H0 x.S (T++(m'.flatten++o)) H' E:=λT o e=>by
      refine hm4'.perm ?_;rw[e];simp only[TW,TP,RM,Th];rw[<-TE,<-TE];exact Rs o Tc
    cases tt with
    | inl s=>
      obtain⟨o,hO,hI⟩:=C;have i:=hmk _ _ hO;have G:E.heap[d]? =some (.loop<|b .ready none):=i.ok.here (d,Obj.loop<|b .ready none) (by simp[tail]);have L:∀k,H' d k=none:=λk=>i.ok.apart (d,Obj.loop<|b .ready none) (by simp[tail]) k;refine⟨none,_,by have:=run_endLoop (P:=x.P) G (by rw[h];simp);rw[h]at this;exact this,?_⟩;have z:=i.go (K:=[(d,Obj.loop<|b .ready none)]) (rst:=[(D,Obj.deferred<|some [])]++(m'.flatten++o.flatten)) (by simp[tail]) (Mem.putObj i.agr G L<|.loop {b .ready none with state:=.exhausted});rw[h]at z;have hDn:x.w0.heap.size<=D:=N.mem.kept.size;refine hdone D s m' o H1 H' hDn rfl hM V hI hle _ _ ⟨N.size,by simp[N.ds],N.slots,?_⟩;have hs:([(D,Obj.deferred<|some [])]++(m'.flatten++o.flatten)).Sublist ([(d,Obj.loop {b .ready none with state:=.exhausted})]++([(D,Obj.deferred<|some [])]++(m'.flatten++o.flatten))):=RU _ _;rw[h]at hs;rw[TP,TW];exact z.sub hs
    | inr e=>
      obtain⟨o,c,hO,hX⟩:=C;have i:=hmk _ _ hO;have G:E.heap[d]? =some (.loop<|b .done<|some c):=i.ok.here (d,Obj.loop<|b .done<|some c) (by simp[tail]);have L:∀k,H' d k=none:=λk=>i.ok.apart (d,Obj.loop<|b .done<|some c) (by simp[tail]) k;refine⟨some c,_,by have:=run_endLoop (P:=x.P) G (by rw[h];simp);rw[h]at this;exact this,?_⟩;have z:=i.go (K:=[(d,Obj.loop<|b .done<|some c)]) (rst:=[(D,Obj.deferred<|some [])]++(m'.flatten++o.flatten)) (by simp[tail]) (Mem.putObj i.agr G L<|.loop {b .done (some c)with state:=.exhausted});rw[h]at z;have hDn:x.w0.heap.size<=D:=N.mem.kept.size;have hJ:=hstop D c e m' o H1 H' hDn rfl hM V hX hle;have hJ':c.wpIn (Fw x.r) 0 x.P Q {tmps:=a.tmps,defers:=mark D::a.defers} (E.putObj d<|.loop {b .done (some c)with state:=.exhausted}):=by
        refine hJ _ _ ⟨N.size,by simp[N.ds],N.slots,?_⟩;have hs:([(D,Obj.deferred<|some [])]++(m'.flatten++o.flatten)).Sublist ([(d,Obj.loop {b .done (some c)with state:=.exhausted})]++([(D,Obj.deferred<|some [])]++(m'.flatten++o.flatten))):=RU _ _;rw[h]at hs|-;rw[TP,TW];exact z.sub hs
      rw[hFw,h]at hJ';exact hJ'
end Go.Ow
namespace Go.Pv
open Go Go.Ow
noncomputable section
abbrev Rn (α:Type):Type 1:=(a b:Type)->(α->a->Option (a ⊕ b))->a->Option (a ⊕ b)
structure ItSpec where
  i:Sp
  n:Nat
  y:List Pt
  R:VH (hyS i)->Rn (VH<|hyS ⟨y,[]⟩)
def lkI (l:List (Nat×List ItSpec))(i:Nat):List ItSpec:=List.rec [] (λp _ a=>Bool.rec a p.2 (Nat.beq p.1 i)) l
section
variable{β:Type}
def cellsOf (b:List Nat)(l:List ((Nat×Nat)×CV)):List ((Nat×Nat)×CV):=List.rec [] (λp _ i=>Bool.rec (p::i) i (Xu b p.1.1)) l
def Vt (b:List Nat)(l:List (Nat×Nat)):List (Nat×Nat):=List.rec [] (λp _ i=>Bool.rec (p::i) i (Xu b p.1)) l
def PS.away (s:PS)(b:List Nat)(k:PS->Option β):Option β:=match s with|⟨N,l,o,z,n,f,c,r⟩=>fgtR b ⟨N,l,cellsOf b o,Vt b z,n,f,c,r⟩ k
def BP (ρ:Rho):List Nat:=List.rec [] (λp _ i=>match p.2 with|some a=>a::i|none=>i) ρ
def PS.left (s:PS)(k:Nat->PS->Option β):Option β:=match s with|⟨N,l,o,z,n,f,c,r⟩=>k n ⟨N,l,o,z,Nat.succ n,f,c,(n,.junk)::r⟩
def itG (s:PS)(cs:List CV)(k:(S:ItSpec)->Rn (VH (hyS ⟨S.y,[]⟩))->List Nat->Option β)(l:List ItSpec):Option β:=List.rec none (λS _ a=>Option.rec a (λq=>toVH (hyS S.i) q.1 λz=>k S (S.R z) (BP q.2))
 (mtS s S.i cs [] λhs ρ js=>match js with|[]=>bb (allB (λp=>Nat.blt p.1 S.i.bs.length) ρ) (some (hs,ρ)) none|_=>none)) l
end
def noTs (K:Kx):Bool:=match K.ts with|[]=>true|_::_=>false
def rngOk (N:Nat)(ps:List Nat)(L:Lp)(n:Nat):Bool:=Bool.and (Bool.and (noTs L.h)<|allB noTs L.ks)<|Bool.and (Nat.beq n ps.length)<|Bool.and (ZB1 ps)<|allB (λp=>Nat.blt p N) ps
def rngAt (X:Env)(Z:Hints)(s:PS)(ps:List Nat)(assign body:Code)(L:Lp)(S:ItSpec)(l:Rn (VH<|hyS ⟨S.y,[]⟩))(b:List Nat){β:Type}(k:Ex->PS->Option β):Option β:=s.away b λs=>
 (λD=>bb (rngOk s.N ps L S.n) (pkK s D L.dc L.dr s L.h λc=>Option.bind (l (VH<|hyS L.h.S) (KT L.ks) (λy x=>upK s D L.dc L.dr L.h x λs1=>s1.bu [] ⟨S.y,[]⟩ (ofVH (hyS ⟨S.y,[]⟩) y) λus s2=>ZMg ps us s2 λd=>code X Z assign (VH (hyS L.h.S) ⊕ KT L.ks) d λe f=>match e with
  | .norm=>code X Z body (VH (hyS L.h.S) ⊕ KT L.ks) f λe a=>match e with| .norm=>pkK s D L.dc L.dr a L.h λy=>some (.inl y)|e=>inK s D L.dc L.dr e a L.ks λy=>some (.inr y)
  |_=>none) c) λo=>Sum.elim (λx=>upK s D L.dc L.dr L.h x<|k .norm) (elK s D L.dc L.dr k L.ks) o) none) (ps++(dstC assign++(dstC body++(L.h.ts++tsK L.ks))))
def hasR (c:Code):Bool:=Code.rec (motive:=λ_=>Bool) false (λ_ _ _=>false) (λ_ _ a b=>Bool.or a b) (λ_ _ _ _ _=>false) (λ_ _ a=>a) (λ_ _=>false) (λ_ _ _ _ _ _=>true) (λ_=>false) (λ_ _=>false) (λ_=>false) (λ_=>false) false (λ_=>false) c
def codeR (X:Env)(it:Nat->List ItSpec)(Z:Hints)(c:Code):(β:Type)->List Nat->PS->(List Nat->Ex->PS->Option β)->Option β:=Code.rec (motive:=λ_=>(β:Type)->List Nat->PS->(List Nat->Ex->PS->Option β)->Option β)
 (λβ J s k=>k J .norm s)
 (λid ops dr β J s k=>code X Z (.region id ops dr) β s<|k J)
 (λa b i d β J s k=>i β J s λJ e s'=>match e with| .norm=>d β J s' k|e=>k J e s')
 (λc a b _ _ β J s k=>code X Z (.cond c a b) β s<|k J)
 (λid b ih β J s k=>Bool.rec (code X Z (.block id b) β s (k J)) (ih β J s λJ e s'=>match e with| .exit j=>Bool.rec (k J e s') (k J .norm s') (Nat.beq j id)|e=>k J e s') (hasR b))
 (λb _ β J s k=>code X Z (.loop b) β s (k J))
 (λg ps a b _ _ β J s k=>ev s g λv=>match v with
  | .clo f [] m=>itG s m (λS l bs=>oB (ZK Z.lp<|keyR b) λL=>rngAt X Z s ps.toList a b (L.at s) S l bs λe s=>s.left λj s=>k (j::J) e s) (it f)
  |_=>none)
 (λid β J s k=>k J (.exit id) s)
 (λ_ _ _ _ _ _=>none) (λ_ _ _ _ _=>none) (λ_ _ _ _ _=>none)
 (λβ J s k=>k J .ret s)
 (λ_ _ _ _ _=>none) c
def ZHU (s:PS)(j:Nat):Bool:=match ZK s.r j with|some .junk=>true|_=>false
def fnR (X:Env)(it:Nat->List ItSpec)(Z:Hints)(f:Nat)(i o:Sp)(x:VH (hyS i)):Option (VH<|hyS o):=oB X.P.funcs[f]? λfn=>oB fn.body λc=>PS.bu ⟨fn.ntmps,[],[],[],0,[],0,[]⟩ [] i (ofVH (hyS i) x) λus s=>(match s with
  | ⟨N,_,a,z,n,q,cc,r⟩=>Xq (argsL us 0) λl=>bb (Nat.ble l.length fn.ntmps) (codeR X it Z c _ [] ⟨N,l,a,z,n,q,cc,r⟩ λJ e s=>match e with
    | .exit _=>none
    |_=>bb (Bool.and (ZB1 J)<|allB (ZHU s) J) (s.away J λs=>U4 Z.pb s λs=>mvJ Z.mv s λs=>oB (GG X.P s fn.results.toList some) λl=>mtS s o l (idR i.bs.length) λhs ρ js=>bb (allB (λp=>Nat.blt p.1 o.bs.length) ρ) (toVH (hyS o) hs some) none) none) none)
end
end Go.Pv
namespace Go.Pv
open Go Go.Ow Go.RowKit
def RAi (S:ItSpec):Heaplet->Array Value->VH (hyS ⟨S.y,[]⟩)->Prop:=λH args y=>args.size=S.n/\TellsS H (λ_=>none) ⟨S.y,[]⟩ (ofVH (hyS ⟨S.y,[]⟩) y) args.toList
def ItOk (P:Program)(f:FuncId)(S:ItSpec):Prop:=Enters P f/\∀(H:Heaplet) (W:Wt) (vs:List Value) (z:VH (hyS S.i)),(∀k w,W k=some w->k<S.i.bs.length)->TellsS H W S.i (ofVH (hyS S.i) z) vs->
  ∀ {a b:Type} (c:VH (hyS ⟨S.y,[]⟩)->a->Option (a ⊕ b)) (s0:a) (t:a ⊕ b),S.R z a b c s0=some t->∀(l:Nat) (I':a->Own->Heaplet->Prop) (X:b->Own->Heaplet->Prop) (O:Own),YSpecG P l (RAi S) c I' X->IX I' X (.inl s0) O H->
    Does P f (#[.func (.yield l) #[] #[]]++vs.toArray) ((List.range S.i.bs.length).map (sgW W)++ [O]) H λu K' H'=>∃m' d,K'=m'++ [d]/\True/\IX I' X t d H'
theorem Cp.pre{J:In}{H a:Heaplet}{g:Nat->Nat}{W:Wt}(h:Cp J a g W):Cp {J with H:=H} H g W:=⟨rfl,h.b⟩
theorem TellsS.mono{H g:Heaplet}{W:Wt}{S:Sp}{hs:List HV}{vs:List Value}(h:TellsS H W S hs vs)(a:Hle H g):TellsS g W S hs vs:=by
 intro j J c cs b k l m n r e hn o q;have f:In.Le {J with H:=H} J:=⟨by rw[e.H];exact a,TF _,λ_ _=>rfl,TF _,λ_ _=>rfl⟩;obtain⟨s,t,u,v⟩:=h j {J with H:=H} c cs b k l m n r e.pre hn o q;refine⟨s,t.mono f,λp d=> ?_,λp d=> ?_⟩
 . obtain⟨i,w,cur,T,e1,e2,e3,e4⟩:=u p d;exact⟨i,w,cur,T,e1,e2,e3,e4.mono f⟩
 . obtain⟨i,w,e1,e2,e3,e4⟩:=v p d;exact⟨i,w,e1,e2,e3.mono a,e4⟩
section
variable{β:Type}{r:β}{x x':Cx}{X:Env}{Z:Hints}{s s':PS}{I I':In}{seg seg':Nat->Own}{l l':Slots}{own own':List Own}{H H':Heaplet}
variable{Q:Exit->Act->World->Prop}
theorem RS.cx (h:RS x s I seg l own H)(hn:x'.n=x.n):RS x' s I seg l own H:=⟨h.N.trans hn.symm,h.H,h.n,h.q,h.own,h.sl,h.ze,h.ce,h.fx,h.rw,h.rz,h.ro⟩
noncomputable def awS (s:PS) (b:List Nat):PS:=⟨s.N,s.l,cellsOf b s.o,Vt b s.z,s.n,s.f,s.c,ftR b s.r⟩
theorem ZNs (s:PS)(b:List Nat)(k:PS->Option β):s.away b k=k (awS s b):=by
 cases s;exact ZJ7 _ _ _
def clr (b:List Nat)(seg:Nat->Own):Nat->Own:=λa=>if a∈b then []else seg a
theorem BA{b:List Nat}:∀{o:List ((Nat×Nat)×CV)} {a j:Nat} {c:CV},lkO (cellsOf b o) a j=some c->a∉b/\lkO o a j=some c
  |[],a,j,c,h=>by cases h
  | p ::o,a,j,c,h=>by
    have h:lkO (Bool.rec (p::cellsOf b o) (cellsOf b o) (Xu b p.1.1)) a j=some c:=h;rw[DZ];cases d:Xu b p.1.1 with
    | true=>
      rw[d]at h;obtain⟨h1,h2⟩:=BA<|show lkO (cellsOf b o) a j=some c from h
      refine⟨h1,?_⟩;rw[TK λe=>h1 (by rw[e]at d;exact XX.1 d)];exact h2
    | false=>
      rw[d]at h;have h:lkO (p::cellsOf b o) a j=some c:=h;rw[DZ]at h;split at h
      . rename_i q;rw[TJ q];refine⟨λe=> ?_,h⟩;rw[q]at d;rw[XX.2 e]at d;cases d
      . rename_i q;rw[TK q];exact BA h
theorem Gr{b:List Nat}:∀{z:List (Nat×Nat)} {a m:Nat},ZK (Vt b z) a=some m->a∉b/\ZK z a=some m
  |[],a,m,h=>by cases h
  | p ::z,a,m,h=>by
    have h:ZK (Bool.rec (p::Vt b z) (Vt b z) (Xu b p.1)) a=some m:=h;rw[ZH];cases c:Xu b p.1 with
    | true=>
      rw[c]at h;obtain⟨h1,h2⟩:=Gr<|show ZK (Vt b z) a=some m from h
      refine⟨h1,?_⟩;rw[TK λe=>h1 (by rw[<-e];exact XX.1 c)];exact h2
    | false=>
      rw[c]at h;have h:ZK (p::Vt b z) a=some m:=h;rw[ZH]at h;split at h
      . rename_i q;rw[TJ q];refine⟨λe=> ?_,h⟩;rw[<-q]at e;rw[XX.2 e]at c;cases c
      . rename_i q;rw[TK q];exact Gr h
theorem RS.away (hs:RS x s I seg l own H)(b:List Nat):RS x (awS s b) I (clr b seg) l ((List.range s.n).map<|clr b seg) H:=by
 refine⟨hs.N,hs.H,hs.n,hs.q,rfl,hs.sl,λa m e=> ?_,λa o c e=> ?_,hs.fx,λk c e=> ?_,λk c e=> ?_,λk c o d e e2=> ?_⟩
 . obtain⟨h1,h2⟩:=Gr (show ZK (Vt b s.z) a=some m from e)
   obtain⟨h3,f⟩:=hs.ze a m h2;exact⟨h3,by rw[show clr b seg a=seg a from TK h1];exact f⟩
 . obtain⟨h1,h2⟩:=BA (show lkO (cellsOf b s.o) a o=some c from e)
   exact(hs.ce a o c h2).imp id λh3=>by rw[show clr b seg a=seg a from TK h1];exact h3
 . rcases Dn (show ZK (ftR b s.r) k=some c from e)with h|⟨h1,h2⟩
   . exact .inl h
   . exact(hs.rw k c h2).imp id λh3=>by rw[show clr b seg k=seg k from TK h1];exact h3
 . rcases Dn (show ZK (ftR b s.r) k=some c from e)with h|⟨h1,h2⟩
   . exact .inl h
   . refine(hs.rz k c h2).imp id λh3=> ?_;show ZK (Vt b s.z) k=none;cases q:ZK (Vt b s.z) k with
     |none=>rfl
     |some m=>obtain⟨_,f⟩:=Gr q;rw[h3]at f;cases f
 . rcases Dn (show ZK (ftR b s.r) k=some c from e)with h|⟨h1,h2⟩
   . exact .inl h
   . obtain⟨_,h3⟩:=BA (show lkO (cellsOf b s.o) k o=some d from e2)
     exact hs.ro k c o d h2 h3
theorem ZG2:∀{ρ:Rho} {i a:Nat},(i,some a)∈ρ->a∈BP ρ
  | p ::ρ,i,a,h=>by
    show a∈(match p.2 with|some a=>a::BP ρ|none=>BP ρ);rcases Ta.1 h with h|h
    . rw[<-h];simp
    . have:=ZG2 h;split
      . exact Sl _ this
      . exact this
theorem ZJN (n m:Nat)(seg:Nat->Own)(b:List Nat)(f:Nat->Option Nat)(W:Nat->Own)(h:∀i j a,i<m->j<m->f i=some a->f j=some a->i=j)(hb:∀i a,i<m->f i=some a->a∈b/\a<n)
 (o:∀i,i<m->W i=(match f i with|some a=>seg a|none=> [])):∃R:Own,(((List.range n).map seg).flatten).Perm ((((List.range n).map<|clr b seg)++(List.range m).map W).flatten++R):=by
 obtain ⟨R,_,l⟩:=ZAQ (g:=seg) (K:=List.range n) (N:=n+m) (seg:=λa=>if a<n then clr b seg a else W (a-n)) (λa=>if a<n then(if a∈b then none else some a)else f (a-n))
  (λa c i k p e1 e2=>by
   by_cases q:a<n
   . simp only[q,if_true]at e1;split at e1
     . cases e1
     . rename_i h1;have e1:=TB e1;by_cases d:c<n
       . simp only[d,if_true]at e2;split at e2
         . cases e2
         . have e2:=TB e2;omega
       . simp only[d,if_false]at e2;exact absurd (by rw[e1];exact(hb _ _ (by omega) e2).1) h1
   . simp only[q,if_false]at e1;by_cases d:c<n
     . simp only[d,if_true]at e2;split at e2
       . cases e2
       . rename_i h2;have e2:=TB e2;exact absurd (by rw[e2];exact(hb _ _ (by omega) e1).1) h2
     . simp only[d,if_false]at e2;have:=h _ _ _ (by omega) (by omega) e1 e2;omega)
  (λa i k e=>by
   rw[Tx];by_cases q:a<n
   . simp only[q,if_true]at e;split at e
     . cases e
     . rw[<-TB e];exact q
   . simp only[q,if_false]at e;exact(hb _ _ (by omega) e).2)
  (λa k=>by
   by_cases q:a<n
   . simp only[q,if_true,clr];by_cases d:a∈b
     . simp only[d,if_true]
     . simp only[d,if_false]
   . simp only[q,if_false];exact o _<|by omega)
 refine⟨(R.map seg).flatten,?_⟩;have e:(List.range (n+m)).map (λa=>if a<n then clr b seg a else W (a-n))=(List.range n).map (clr b seg)++(List.range m).map W:=by
  rw[List.range_add,SJ,RK];congr 1
  . exact St λa k=>TJ<|Tx.1 k
  . refine St λa _=> ?_;show(if n+a<n then _ else W (n+a-n))=W a;rw[TK (by omega),Se]
 rw[e]at l;exact l
theorem RS.slots{s1 u:PS}{J:In}{s sg:Nat->Own}{i o:List Own}{H1 g:Heaplet}{D:List Nat}{f j:Slots}(b:RS x s1 I s l i H1)(a:RS x u J sg j o g)(d:I.Le J)(k:u.l=fgtL D s1.l)(h2:∀t,t∉D->Go.Ow.lk f t=Go.Ow.lk l t):RS x u J sg f o g:=by
 refine⟨a.N,a.H,a.n,a.q,a.own,λt c e=> ?_,a.ze,a.ce,a.fx,a.rw,a.rz,a.ro⟩;rw[k]at e;rcases ZGH e with h|⟨h1,h3⟩
 . exact .inl h
 . exact(b.sl t c h3).imp id fun⟨v,m,p⟩=>⟨v,by rw[h2 t h1];exact m,p.mono d⟩
theorem ZIv{K:Kx}(h:noTs K=true):K.ts= []:=by
 unfold noTs at h;split at h
 . assumption
 . cases h
theorem ZG5:∀{A:Slots} {l:Slots} {t:Nat} {v:Value},(t,v)∈A->(A.map (·.1)).Nodup->lk (A++l) t=some v
  | p ::A,l,t,v,h,hn=>by
    have hn:=SR.1 hn;rcases Ta.1 h with h|h
    . subst h;simp[lk]
    . have a:p.1≠t:=λe=>hn.1 (by show p.1∈A.map (·.1);rw[e];exact T7.2 ⟨(t,v),h,rfl⟩);have:Nat.beq p.1 t=false:=Vr a;rw[RB];simp only[lk,this];exact ZG5 h hn.2
theorem ZIy:∀{A:Slots} {l:Slots} {t:Nat},(∀p∈A,p.1≠t)->lk (A++l) t=lk l t
  |[],l,t,h=>rfl
  | p::A,l,t,h=>by
    have:Nat.beq p.1 t=false:=Vr (h p<|by simp);rw[RB];simp only[lk,this];exact ZIy λq a=>h q<|by simp[a]
theorem ZKg:∀(ps:List Nat) (vs:List Value),∃k,(ps.zip vs).map (·.1)=ps.take k
 |[],vs=>⟨0,rfl⟩
 |p::ps,[]=>⟨0,rfl⟩
 |p::ps,v::vs=>by obtain⟨k,e⟩:=ZKg ps vs;exact⟨k+1,by simp[e]⟩
theorem ZSd{ps:List Nat}{vs:List Value}{p:Nat×Value}(h:p∈ps.zip vs):p.1∈ps:=(List.of_mem_zip h).1
theorem ZNK:∀{ps:List Nat} {vs:List Value} {i t:Nat} {v:Value},ps[i]? =some t->vs[i]? =some v->(t,v)∈ps.zip vs
 |[],vs,i,t,v,h,k=>by simp at h
 |p::ps,[],i,t,v,h,k=>by simp at k
 |p::ps,u::vs,0,t,v,h,k=>by simp at h k;subst h k;simp
 |p::ps,u::vs,i+1,t,v,h,k=>by simp only[RQ];exact Sl _<|ZNK (by simpa using h)<|by simpa using k
def cdX:Ex->Code
 | .norm=>.skip
 | .exit id=>.exit id
 | .ret=>.ret
open Classical in
theorem ZSp (hX:EnvOk X)(hP:x.P=X.P)(hr:x.r=none)(hs:RS x s I seg l own H){g:Operand}{ps:Array Nat}{assign body:Code}{f:Nat}{ws:List Value}(hg:evo l g=some (.func (.func f) #[] ws.toArray)){S:ItSpec}(hit:ItOk X.P f S){ρ:Rho}{z:VH (hyS S.i)}
    (hmt:TellsS I.H (Wf ρ I seg) S.i (ofVH (hyS S.i) z) ws)(hinj:InjR ρ)(hρ:∀i a,ZK ρ i=some (some a)->a<s.n)(hdom:∀i a,ZK ρ i=some a->i<S.i.bs.length){L:Lp}{k:Ex->PS->Option β}
    (h:rngAt X Z s ps.toList assign body L S (S.R z) (BP ρ) k=some r)
    (hk:∀D e s' I' seg' own' H',I.Le I'->k e s'=some r->RS x s' I' seg' l own' H'->JN {x with ds:=Go.Ow.mark D::x.ds} (Q<|exX e) l ([(D,.deferred<|some [])]::own') H'):JC x (.rangeFunc g ps assign body) Q l own H:=by
  unfold rngAt at h;rw[ZNs]at h;obtain⟨b,hb⟩:∃b,b=BP ρ:=⟨_,rfl⟩;rw[<-hb]at h;have A:=hs.away b;obtain⟨s1,hs1e⟩:∃s1,s1=awS s b:=⟨_,rfl⟩;rw[<-hs1e]at h A;have hn1:s1.n=s.n:=by rw[hs1e];rfl
  obtain⟨E,Y⟩:∃E,E=clr b seg:=⟨_,rfl⟩;rw[<-Y]at A;obtain⟨W,hW⟩:∃W,W=Wf ρ I seg:=⟨_,rfl⟩;rw[<-hW]at hmt;obtain⟨G,hown1⟩:∃G,G=(List.range s.n).map E:=⟨_,rfl⟩;rw[<-hown1]at A;obtain⟨mine,hmine⟩:∃mine,mine=(List.range S.i.bs.length).map (sgW W):=⟨_,rfl⟩;obtain ⟨R,hperm⟩:∃R:Own,own.flatten.Perm ((G++mine).flatten++R):=by
    rw[hs.own,hown1,hmine,Y];refine ZJN s.n S.i.bs.length seg b (λi=>(ZK ρ i).bind id) (sgW W) (λi j a _ _ e1 e2=> ?_) (λi a _ e=> ?_) λi _=> ?_
    . cases h1:ZK ρ i with
      |none=>rw[h1]at e1;cases e1
      | some o1=>cases h2:ZK ρ j with
        |none=>rw[h2]at e2;cases e2
        | some o2=>
          rw[h1]at e1;rw[h2]at e2;have e1:o1=some a:=e1;have e2:o2=some a:=e2;subst e1 e2;exact hinj _ _ _ h1 h2
    . cases h1:ZK ρ i with
      |none=>rw[h1]at e;cases e
      | some o=>
        rw[h1]at e;have e:o=some a:=e;subst e;exact⟨by rw[hb];exact ZG2<|W5 h1,hρ _ _ h1⟩
    . show sgW W i=_;rw[hW];unfold sgW Wf;cases ZK ρ i with
      |none=>rfl
      |some o=>cases o<;>rfl
  obtain⟨C,hD⟩:∃C,C=ps.toList++(dstC assign++(dstC body++(L.h.ts++tsK L.ks))):=⟨_,rfl⟩;replace h:=show bb (rngOk s1.N ps.toList L S.n) (pkK s1 (ps.toList++(dstC assign++(dstC body++(L.h.ts++tsK L.ks)))) L.dc L.dr s1 L.h λx0=>Option.bind (S.R z (VH<|hyS L.h.S) (KT L.ks) (λy x=>upK s1 (ps.toList++(dstC assign++(dstC body++(L.h.ts++tsK L.ks)))) L.dc L.dr L.h x λs1'=>s1'.bu [] ⟨S.y,[]⟩ (ofVH (hyS ⟨S.y,[]⟩) y) λus s2=>ZMg ps.toList us s2 λs3=>code X Z assign (VH (hyS L.h.S) ⊕ KT L.ks) s3 λe s4=>match e with
    | .norm=>code X Z body (VH (hyS L.h.S) ⊕ KT L.ks) s4 λe V=>match e with| .norm=>pkK s1 (ps.toList++(dstC assign++(dstC body++(L.h.ts++tsK L.ks)))) L.dc L.dr V L.h λy=>some (.inl y)|e=>inK s1 (ps.toList++(dstC assign++(dstC body++(L.h.ts++tsK L.ks)))) L.dc L.dr e V L.ks λy=>some (.inr y)
    |_=>none) x0) λout=>Sum.elim (λx=>upK s1 (ps.toList++(dstC assign++(dstC body++(L.h.ts++tsK L.ks)))) L.dc L.dr L.h x<|k .norm) (elK s1 (ps.toList++(dstC assign++(dstC body++(L.h.ts++tsK L.ks)))) L.dc L.dr k L.ks) out) none=some r from h
  rw[<-hD]at h;obtain⟨hck,h⟩:=ZC h;unfold rngOk at hck;simp only[TD]at hck;obtain⟨⟨c1,c2⟩,c3,c4,c5⟩:=hck;have c1:=ZIv c1;have c2:∀K∈L.ks,K.ts= []:=λK hK=>ZIv<|Zd.1 c2 K hK;have c3:S.n=ps.toList.length:=TA c3;have c4:=JH c4;have c5:∀t∈ps.toList,t<x.n:=λt ht=>by have:=Zd.1 c5 t ht;rw[A.N]at this;simpa using this
  obtain⟨B,hB⟩:∃B:VH (hyS ⟨S.y,[]⟩)->VH (hyS L.h.S)->Option (VH (hyS L.h.S) ⊕ KT L.ks),B=(λy x=>upK s1 C L.dc L.dr L.h x λs1'=>s1'.bu [] ⟨S.y,[]⟩ (ofVH (hyS ⟨S.y,[]⟩) y) λus s2=>ZMg ps.toList us s2 λs3=>code X Z assign (VH (hyS L.h.S) ⊕ KT L.ks) s3 λe s4=>match e with
    | .norm=>code X Z body (VH (hyS L.h.S) ⊕ KT L.ks) s4 λe V=>match e with| .norm=>pkK s1 C L.dc L.dr V L.h λy=>some (.inl y)|e=>inK s1 C L.dc L.dr e V L.ks λy=>some (.inr y)
    |_=>none):=⟨_,rfl⟩
  rw[<-hB]at h;obtain⟨x0,h1,h2⟩:=ZC2 (F:=mine) A rfl A (In.Le.refl _) (λ_ _=>OE s1 C L.dc L.dr) h;obtain⟨out,hf,hout⟩:=ZT h1;have hIH:I.H=H:=hs.H;intro a w hh;refine h2 (Kc:=λa w=>(Code.rangeFunc g ps assign body).wpIn (Fw x.r) 0 x.P Q a w) (λo0 g0 hle0 hb0=> ?_) a w (ZJA hh hperm);intro a w hh;have hh:Holds x l (mine++o0) g0 a w:=Go.Pv.hperm hh (by rw[TW,TW];exact Tc);refine ZNJ (x:=x) (Q:=Q) (ps:=ps) (assign:=assign) (body:=body) (RA:=RAi S) hr B x0 out
    (λy o g=>Bh x s1 I C L.dc L.dr L.h y l o g/\Hle H g) (λt c o g=>∃e:Ex,c=cdX e/\e≠.norm/\BhE x s1 I C L.dc L.dr e L.ks t l o g/\Hle H g) (λ_ _=>True) mine o0 hg (by rw[hP];exact hit.1) rfl ?_ ?_ ?_ ⟨hb0,hle0⟩ ?_ ?_ ?_ a w hh
  . -- the iterator
    intro lr I' X' O hY hI;rw[hP]at hY|-;rw[hmine];exact hit.2 g0 W ws z (λk w e=>by
      rw[hW]at e;unfold Wf at e;cases e2:ZK ρ k with
      |none=>rw[e2]at e;cases e
      |some a=>exact hdom k a e2) (hmt.mono (by rw[hIH];exact hle0)) B x0 out hf lr I' X' O hY hI
  . intro H' args y hy;rw[hy.1,c3,TM]
  . rw[Ti];exact λt ht=>SC<|c5 t ht
  . -- a round
    rintro lr y yv args o H1 H' out' d ⟨hI,hleI⟩ ⟨hy1,hy2⟩ hbd;rw[hB]at hbd;obtain⟨u,J,sg1,hu,M,hxt,hul⟩:=hI hbd;have hul:=hul c1
    -- the slots
    let l2:Slots:=(ps.toList.zip args.toList).reverse++l;have hps:∀t∈ps.toList,t∈C:=λt ht=>(by rw[hD];exact List.mem_append_left _ ht);have hl2:∀t,t∉C->Go.Ow.lk l2 t=Go.Ow.lk l t:=λt ht=>ZIy λp hp e=>ht (by rw[<-e];exact hps _<|ZSd<|List.mem_reverse.1 hp);have hsu2:=(A.slots M hxt.i hul hl2).le d;obtain⟨hok,cs,hs',k1,rs,bl,k2,rs',hLi,hBi,hu⟩:=Jb hu;let J2:In:={H:=H',ν:=J.ν,n:=u.n+0,κ:=λc=>if c<u.c then J.κ c else(cnt<|ofVH (hyS ⟨S.y,[]⟩) y)[c-u.c]?.getD 0,q:=u.c+(cnt<|ofVH (hyS ⟨S.y,[]⟩) y).length};have hC:Cnt J2 u.c (cnt<|ofVH (hyS ⟨S.y,[]⟩) y):=λm j e=>by
      have hlt:=(TC.1 e).1;refine⟨by show u.c+m<u.c+_;omega,?_⟩;show(if u.c+m<u.c then _ else(cnt<|ofVH (hyS ⟨S.y,[]⟩) y)[u.c+m-u.c]?.getD 0)=j;rw[TK (by omega),Se,e];rfl
    obtain⟨v1,hs2⟩:=RS.bu (J:=J2) (seg2:=sg1) (ρ:=[]) hsu2 hy2 hok hLi hBi (λi a e=>by cases e) (λi j a e=>by cases e) rfl rfl rfl (λa ha=>rfl) (λc hc=>TJ hc) hC (λi w e=>by cases e) (λa ha=>.inl rfl)
      (λp hp hlt=>by
        obtain⟨i,w,e1,_⟩:=(hy2 (sg [] u.n) J2 u.c _ _ _ _ _ _ _ ⟨rfl,λi w e=>by cases e⟩ hC hLi hBi).2.2.2 p hp;cases e1)
      (λp hp hlt=>by
        obtain⟨i,w,cur,T,e1,_⟩:=(hy2 (sg [] u.n) J2 u.c _ _ _ _ _ _ _ ⟨rfl,λi w e=>by cases e⟩ hC hLi hBi).2.2.1 p hp;cases e1)
    have ho:(List.range J2.n).map sg1=o:=(by rw[M.own];rfl);rw[ho]at hs2;have hJ2:J.Le J2:=⟨by rw[M.H];exact d,by rw[M.n];exact TF _,λ_ _=>rfl,by rw[M.q];exact Rc _ _,λc hc=>TJ (by rw[<-M.q];exact hc)⟩;have hkeys:((ps.toList.zip args.toList).reverse.map (·.1)).Nodup:=by
      rw[List.map_reverse,(List.reverse_perm _).nodup_iff];obtain⟨kk,e⟩:=ZKg ps.toList args.toList;rw[e];exact c4.sublist<|List.take_sublist _ _
    obtain⟨s3,hu,hs3,he3,_⟩:=ZJt hs2 v1 (λi t v e1 e2=>ZG5 (List.mem_reverse.2<|ZNK e1 e2) hkeys) hu;have hc2:u.c<=k2:=by
      have h5:=hs2.q;have h6:u.c+(cnt<|ofVH (hyS ⟨S.y,[]⟩) y).length=k2:=h5;omega
    have hx3:Xt s1 I s3 J2:=⟨hxt.e.trans<|(Ext.bu hc2).trans he3,hxt.i.trans hJ2⟩;refine⟨λL1 o1 H2=>∃s4 I4 seg4,RS x s4 I4 seg4 L1 o1 H2/\Xt s1 I s4 I4/\code X Z body (VH (hyS L.h.S) ⊕ KT L.ks) s4 (λe V=>match e with| .norm=>pkK s1 C L.dc L.dr V L.h λy=>some (.inl y)|e=>inK s1 C L.dc L.dr e V L.ks λy=>some<|.inr y)=some out',λwb hwb=> ?_,?_⟩
    . refine ZDZ (x:={x with r:=some lr,w0:=wb,H0:=H',S:=ids o.flatten,ds:=[]}) hX hP hu (hs3.cx rfl) λe s' I' seg' l' own' H'' he hk' hs'=> ?_;cases e with
      |norm=>exact λa w hh=>⟨l',own',H'',⟨s',I',seg',hs'.cx rfl,hx3.trans he,hk'⟩,hh⟩
      |exit id=>cases hk'
      |ret=>cases hk'
    . rintro wb L1 oa H2 ⟨s4,I4,seg4,hs4,hx4,hcode⟩ hwb;refine ZDZ (x:={x with r:=some lr,w0:=wb,H0:=H2,S:=ids oa.flatten,ds:=[]}) hX hP hcode (hs4.cx rfl) λe V I5 seg5 l5 own5 H5 he hi ht=> ?_;have hx5:=hx4.trans he;have hag:okT s1 V C=true->okC s1 V L.dc L.dr=true->Agr s1 V C L.dc L.dr:=Agr.ext hx5.e;have hle5:Hle H H5:=(by have:=hx5.i.H;rw[hIH,ht.H]at this;exact this);have hs1':RS {x with r:=some lr,w0:=wb,H0:=H2,S:=ids oa.flatten,ds:=[]} s1 I E l G H:=A.cx rfl;have conv:∀{y:VH (hyS L.h.S)} {o':List Own} {g':Heaplet},Bh {x with r:=some lr,w0:=wb,H0:=H2,S:=ids oa.flatten,ds:=[]} s1 I C L.dc L.dr L.h y l5 o' g'->Bh x s1 I C L.dc L.dr L.h y l o' g':=λ{y o' g'} hB' {β k r} hq=>by
        obtain⟨u,J,sg,g1,U,g3,g4⟩:=hB' hq;exact⟨u,J,sg,g1,A.slots (U.cx rfl) g3.i (g4 c1) λ_ _=>rfl,g3,g4⟩
      have convE:∀{e:Ex} {y:KT L.ks} {o':List Own} {g':Heaplet},BhE {x with r:=some lr,w0:=wb,H0:=H2,S:=ids oa.flatten,ds:=[]} s1 I C L.dc L.dr e L.ks y l5 o' g'->BhE x s1 I C L.dc L.dr e L.ks y l o' g':=λ{e y o' g'} hB' {β k r} hq=>by
        obtain⟨u,J,sg,g1,U,g3,g4⟩:=hB' hq;exact⟨u,J,sg,g1,A.slots (U.cx rfl) g3.i (g4 c2) λ_ _=>rfl,g3,g4⟩
      cases e with
      | norm=>
        obtain⟨z',h5,h6⟩:=ZC2 (F:=[]) hs1' rfl ht hx5.i hag hi;cases h5;refine(Th own5)▸h6 λo' g' hg' hb'=> ?_;rw[Th];exact ZQY ⟨conv hb',hle5.trans hg'⟩
      | exit id=>
        obtain⟨z',h5,h6⟩:=ZGF hs1' rfl ht hx5.i hag hi;cases h5;exact h6 (λo' g' hg' hb'=>JN.rX ⟨.exit id,rfl,by simp,convE hb',hle5.trans hg'⟩)
      | ret=>
        obtain⟨z',h5,h6⟩:=ZGF hs1' rfl ht hx5.i hag hi;cases h5;exact h6 λo' g' hg' hb'=>JN.rR ⟨.ret,rfl,by simp,convE hb',hle5.trans hg'⟩
  . -- all items
    rintro D yv m' o H1 H' hDs rfl-d ⟨hI,hleI⟩ hle;obtain⟨u,J,sg,g1,U,g3,_⟩:=hI<|show upK s1 C L.dc L.dr L.h yv (k .norm)=some r from hout
    have hJH:=U.H;have U:=U.le d;have:=hk D .norm u {J with H:=H'} sg o H' (g3.i.trans ⟨by rw[hJH];exact d,TF _,λ_ _=>rfl,TF _,λ_ _=>rfl⟩) g1 U;exact λa w hh=>this a w<|ZJA (R:=m'.flatten) hh (by simp only[TP,TW];rw[TE];exact Sw _ Tc)
  . -- a way out
    rintro D c t m' o H1 H' hDs rfl-d ⟨e,rfl,hne,hE,hleI⟩ hle;obtain⟨u,J,sg,g1,U,g3,_⟩:=hE<|show elK s1 C L.dc L.dr k L.ks t=some r from hout
    have hJH:=U.H;have U:=U.le d;have:=hk D e u {J with H:=H'} sg o H' (g3.i.trans ⟨by rw[hJH];exact d,TF _,λ_ _=>rfl,TF _,λ_ _=>rfl⟩) g1 U;have this:JN {x with ds:=Go.Ow.mark D::x.ds} (Q<|exX e) l ([(D,Obj.deferred<|some [])]::(m'++o)) H':=λa w hh=>this a w (ZJA (R:=m'.flatten) hh (by simp only[TP,TW];rw[TE];exact Sw _ Tc));cases e with
    |norm=>exact absurd rfl hne
    |exit id=>exact ZAf this
    |ret=>exact BX this
end
section
variable{β:Type}{r:β}{x x':Cx}{X:Env}{Z:Hints}{it:Nat->List ItSpec}{s s':PS}{I I':In}{seg seg':Nat->Own}{l l':Slots}{own own':List Own}{H H':Heaplet}
variable{Q:Exit->Act->World->Prop}
theorem ZLa{cs:List CV}{k:(S:ItSpec)->Rn (VH<|hyS ⟨S.y,[]⟩)->List Nat->Option β}:∀{L:List ItSpec},itG s cs k L=some r->∃S∈L,∃ρ z,InjR ρ/\(∀i a,ZK ρ i=some (some a)->a<s.n)/\(∀i a,ZK ρ i=some a->i<S.i.bs.length)/\k S (S.R z) (BP ρ)=some r/\
    ∀(I:In) (seg:Nat->Own) (vs:List Value),Rw s [] I seg->VUs I cs vs->TellsS I.H (Wf ρ I seg) S.i (ofVH (hyS S.i) z) vs
  |[],h=>by cases h
  | S ::L,h=>by
    replace h:=show Option.rec (motive:=λ_=>Option β) (itG s cs k L) (λq=>toVH (hyS S.i) q.1 λz=>k S (S.R z) (BP q.2)) (mtS s S.i cs [] λhs ρ js=>match js with|[]=>bb (allB (λp=>Nat.blt p.1 S.i.bs.length) ρ) (some (hs,ρ)) none|_=>none)=some r from h;cases d:(mtS s S.i cs [] λhs ρ js=>match js with|[]=>bb (allB (λp=>Nat.blt p.1 S.i.bs.length) ρ) (some (hs,ρ)) none|_=>none)with
    | none=>
      rw[d]at h;obtain⟨g,h1,h2⟩:=ZLa<|show itG s cs k L=some r from h
      exact⟨g,Sl _ h1,h2⟩
    | some q=>
      rw[d]at h;obtain⟨hs,ρ,js,c,_,b,f,l⟩:=ZB3 d (λi j a e1 e2=>by cases e1);cases js with
      |cons=>cases c
      | nil=>
        obtain⟨m,c⟩:=ZC<|show bb (allB (λp=>Nat.blt p.1 S.i.bs.length) ρ) (some (hs,ρ)) none=some q from c
        cases c;obtain⟨z,e,o⟩:=UD<|show toVH (hyS S.i) hs (λz=>k S (S.R z)<|BP ρ)=some r from h
        clear h;subst e;exact⟨S,by simp,ρ,z,b,λi a e=>(f i a e).2,λi a e=>by simpa using Zd.1 m _ (W5 e),o,l⟩
theorem RS.left (hs:RS x s I seg l own H)(D:Nat):
 RS x ⟨s.N,s.l,s.o,s.z,s.n+1,s.f,s.c,(s.n,.junk)::s.r⟩ {I with ν:=upN I.ν s.n (0,.int .u64 D),n:=s.n+1} (upN seg s.n [(D,.deferred<|some [])]) l (own++ [[(D,.deferred<|some [])]]) H/\I.Le {I with ν:=upN I.ν s.n (0,.int .u64 D),n:=s.n+1}:=by
 have b:I.Le {I with ν:=upN I.ν s.n (0,.int .u64 D),n:=s.n+1}:=⟨Rz _,by show I.n<=s.n+1;rw[hs.n];omega,λk g=>Zg (by rw[hs.n]at g;omega),TF _,λ_ _=>rfl⟩;refine⟨⟨hs.N,hs.H,rfl,hs.q,?_,λt c e=> ?_,λa k e=> ?_,λa o c e=> ?_,hs.fx,λk c e=> ?_,λk c e=> ?_,λk c j d e e2=> ?_⟩,b⟩
 . rw[hs.own,List.range_succ,SJ];congr 1
   . exact St λa i=>(Zg<|Sq<|Tx.1 i).symm
   . show _= [upN seg s.n _ s.n];rw[Zl]
 . exact(hs.sl t c e).imp id fun⟨v,h1,h2⟩=>⟨v,h1,h2.mono b⟩
 . obtain⟨h1,h2⟩:=hs.ze a k e;refine⟨SV h1,?_⟩;rw[Zg<|Sq h1];show∃cur T,seg a= [((upN I.ν s.n _ a).1,_)]/\_;rw[Zg<|Sq h1];exact h2
 . refine(hs.ce a o c e).imp id fun⟨h1,cur,T,v,h2,h3,p⟩=>⟨SV h1,cur,T,v,?_,h3,p.mono b⟩;rw[Zg<|Sq h1];show seg a= [((upN I.ν s.n _ a).1,_)];rw[Zg<|Sq h1];exact h2
 . change ZK ((s.n,RC.junk)::s.r) k=some c at e;rw[ZH]at e;split at e
   . rename_i q;cases e;have q:s.n=k:=q;subst q;refine .inr ⟨SD _,?_⟩;rw[Zl];show _= [(dN (upN I.ν s.n (0,Value.int .u64 D) s.n).2,_)];rw[Zl];rfl
   . refine(hs.rw k c e).imp id fun⟨h1,h2⟩=>⟨SV h1,?_⟩;rw[Zg<|Sq h1];show RwOk I.H (upN I.ν s.n _ k).2 _ _;rw[Zg<|Sq h1];exact h2
 . change ZK ((s.n,RC.junk)::s.r) k=some c at e;rw[ZH]at e;split at e
   . rename_i q
     right;show ZK s.z k=none;cases h:ZK s.z k with
     |none=>rfl
     |some m=>have:=(hs.ze k m h).1;have q:s.n=k:=q;omega
   . exact hs.rz k c e
 . change ZK ((s.n,RC.junk)::s.r) k=some c at e;rw[ZH]at e;split at e
   . rename_i q
     right;exact(hs.ce k j d e2).resolve_right fun⟨h,_⟩=>by have q:s.n=k:=q;omega
   . exact hs.ro k c j d e e2
def XE (I:In)(J:List Nat):List Deferred:=J.map λj=>Go.Ow.mark<|dN (I.ν j).2
theorem ZG3 (h:I.Le I'){J:List Nat}(a:∀j∈J,j<I.n):XE I' J=XE I J:=St λj b=>by rw[h.ν j<|a j b]
def KcR (x:Cx)(Q:Exit->Act->World->Prop)(I:In)(k:List Nat->Ex->PS->Option β)(r:β):Prop:=
 ∀J e s' I' seg' l' own' H',I.Le I'->k J e s'=some r->(∀j∈J,j<s'.n)->RS x s' I' seg' l' own' H'->JN {x with ds:=XE I' J} (Q<|exX e) l' own' H'
theorem KcR.ext{k:List Nat->Ex->PS->Option β}(h:KcR x Q I k r)(e:I.Le I'):KcR x Q I' k r:=λJ a t I' seg' l' own' H' h1 b c hs=>h J a t I' seg' l' own' H' (e.trans h1) b c hs
theorem ZGE (m:EnvOk X)(o:x.P=X.P){c:Code}{J:List Nat}{k:List Nat->Ex->PS->Option β}(hs:RS x s I seg l own H)(g:∀j∈J,j<s.n)(h:code X Z c β s (k J)=some r)(p:KcR x Q I k r):JC {x with ds:=XE I J} c Q l own H:=
 ZDZ (x:={x with ds:=XE I J}) m o h (hs.cx rfl) λe s' I' seg' l' own' H' a b d=>by
  have:=p J e s' I' seg' l' own' H' a.i b (λj f=>Tj (g j f) a.e.n)<|d.cx rfl;rwa[ZG3 a.i λj f=>by rw[hs.n];exact g j f]at this
theorem ZQE (G:EnvOk X)(hI:∀f,∀S∈it f,ItOk X.P f S)(K:x.P=X.P)(V:x.r=none):∀{c:Code} {β:Type} {r:β} {J:List Nat} {s:PS} {k:List Nat->Ex->PS->Option β} {I:In} {seg:Nat->Own} {l:Slots} {own:List Own} {H:Heaplet},codeR X it Z c β J s k=some r->RS x s I seg l own H->(∀j∈J,j<s.n)->∀{Q:Exit->Act->World->Prop},KcR x Q I k r->JC {x with ds:=XE I J} c Q l own H:=by
  intro c;induction c with
  |skip=>intro β r J s k I seg l own H h hs q Q i;exact JC.skip (i J .norm s I seg l own H (In.Le.refl _) h q hs)
  |ret=>intro β r J s k I seg l own H h hs q Q i;exact BX (i J .ret s I seg l own H (In.Le.refl _) h q hs)
  |exit id=>intro β r J s k I seg l own H h hs q Q i;exact ZAf (i J (.exit id) s I seg l own H (In.Le.refl _) h q hs)
  |region id ops dr=>intro β r J s k I seg l own H h hs q Q i;exact ZGE G K hs q h i
  |cond o a b C E=>intro β r J s k I seg l own H h hs q Q i;exact ZGE G K hs q h i
  |loop b U=>intro β r J s k I seg l own H h hs q Q i;exact ZGE G K hs q h i
  | seq a b C E=>
    intro β r J s k I seg l own H h hs q Q i;have h:codeR X it Z a β J s (λJ e s'=>match e with| .norm=>codeR X it Z b β J s' k|e=>k J e s')=some r:=h;refine Y0<|C h hs q λy e s' I' seg' l' own' H' A d t p=> ?_;cases e with
    |norm=>exact Z9 (E d p t<|i.ext A)
    |exit id=>exact U0 (i y (.exit id) s' I' seg' l' own' H' A d t p)
    |ret=>exact Wa (i y .ret s' I' seg' l' own' H' A d t p)
  | block id b U=>
    intro β r J s k I seg l own H h hs q Q i;have h:(Bool.rec (code X Z (.block id b) β s (k J)) (codeR X it Z b β J s λJ e s'=>match e with| .exit j=>Bool.rec (k J e s') (k J .norm s') (Nat.beq j id)|e=>k J e s') (hasR b):Option β)=some r:=h;cases hb:hasR b with
    |false=>rw[hb]at h;exact ZGE G K hs q h i
    | true=>
      rw[hb]at h;refine JC.block (U (show codeR X it Z b β J s (λJ e s'=>match e with| .exit j=>Bool.rec (k J e s') (k J .norm s') (Nat.beq j id)|e=>k J e s')=some r from h) hs q (λy e s' I' seg' l' own' H' A d t p=> ?_));cases e with
      |norm=>exact KH (i y .norm s' I' seg' l' own' H' A d t p)
      |ret=>exact ZKb (i y .ret s' I' seg' l' own' H' A d t p)
      | exit j=>
        have d:(Bool.rec (k y (.exit j) s') (k y .norm s') (Nat.beq j id):Option β)=some r:=d;cases u:Nat.beq j id with
        | true=>
          rw[u]at d;cases TA u;exact Kb (i y .norm s' I' seg' l' own' H' A d t p)
        | false=>
          rw[u]at d;exact BU u (i y (.exit j) s' I' seg' l' own' H' A d t p)
  | rangeFunc g ps a b C E=>
    intro β r J s k I seg l own H h hs q Q i;replace h:=show ev s g (λv=>match v with
      | .clo f [] m=>itG s m (λS l bs=>oB (ZK Z.lp<|keyR b) λL=>rngAt X Z s ps.toList a b (L.at s) S l bs λe s=>s.left λj s=>k (j::J) e s) (it f)
      |_=>none)=some r from h
    obtain⟨c,v,e1,e2,h⟩:=ZZ hs h;split at h
    . rename_i f m;simp only[VR]at e2;obtain⟨us,ws,rfl,W,Y⟩:=e2;cases W.un0;obtain⟨S,hS,ρ,z,M,R,O,h,hT⟩:=ZLa h;obtain⟨L,hLp,h⟩:=Zb h;refine ZSp (x:={x with ds:=XE I J}) G K V (hs.cx rfl) e1 (hI f S hS) (hT I seg ws (Rw.of (JS:=[]) hs) Y.vu) M R O h λD e s' I' seg' own' H' F d p=> ?_;obtain⟨T,B⟩:=(p.cx (x':=x) rfl).left D;have hn:I.n<=s'.n:=(by have:=F.n;rw[p.n]at this;exact this);have:=i (s'.n::J) e _ _ _ _ _ _ (F.trans B) (show k (s'.n::J) e ⟨s'.N,s'.l,s'.o,s'.z,s'.n+1,s'.f,s'.c,(s'.n,.junk)::s'.r⟩=some r from d) (λj u=>by
        rcases Ta.1 u with rfl|u
        . exact SD _
        . have:=q j u;rw[<-hs.n]at this;show j<s'.n+1;omega) T
      have hm:XE {I' with ν:=upN I'.ν s'.n (0,.int .u64 D),n:=s'.n+1} (s'.n::J)=Go.Ow.mark D::XE I J:=by
        show Go.Ow.mark (dN (upN I'.ν s'.n (0,Value.int .u64 D) s'.n).2)::XE {I' with ν:=upN I'.ν s'.n (0,.int .u64 D),n:=s'.n+1} J=_;rw[Zl,ZG3 (F.trans B) λj u=>by rw[hs.n];exact q j u];rfl
      rw[hm]at this;exact λa w hh=>this a w<|Go.Pv.hperm hh (by simp only[TP,TW,RM,Th];exact Tc)
    . cases h
  |_=>intro β r J s k I seg l own H h;cases h
theorem ZLc{j:Nat}(h:ZHU s j=true):ZK s.r j=some .junk:=by
 unfold ZHU at h;split at h
 . assumption
 . cases h
theorem ZS8 (hX:EnvOk X)(hI:∀f,∀S∈it f,ItOk X.P f S){f:Nat}{i o:Sp}:FnOk X.P f i o (fnR X it Z f i o):=by
  intro H W vs z y T hT h;obtain⟨fn,hf,h⟩:=Zb (show oB X.P.funcs[f]? (λfn=>oB fn.body λc=>PS.bu ⟨fn.ntmps,[],[],[],0,[],0,[]⟩ [] i (ofVH (hyS i) z) λus s=>Xq (argsL us 0) λl=>bb (Nat.ble l.length fn.ntmps) (codeR X it Z c (VH<|hyS o) [] ⟨s.N,l,s.o,s.z,s.n,s.f,s.c,s.r⟩ λJ e s=>match e with
    | .exit _=>none
    |_=>bb (Bool.and (ZB1 J)<|allB (ZHU s) J) (s.away J λs=>U4 Z.pb s λs=>mvJ Z.mv s λs=>oB (GG X.P s fn.results.toList some) λl=>mtS s o l (idR i.bs.length) λhs ρ js=>bb (allB (λp=>Nat.blt p.1 o.bs.length) ρ) (toVH (hyS o) hs some) none) none) none)=some y from h)
  obtain⟨c,hc,h⟩:=Zb h;obtain⟨hok,cs,I,c1,U,V,Y,D,hLi,hBi,h⟩:=Jb h;rw[Y7]at h;obtain⟨hn,h⟩:=ZC h;have hlen:∀(cs:List CV) (k:Nat),(argsL cs k).length=cs.length:=λcs=>by
    induction cs with
    |nil=>intro k;rfl
    |cons a cs ih=>intro k;show(argsL cs (k+1)).length+1=_;rw[ih];rfl
  rw[hlen]at hn;let s0:PS:=⟨fn.ntmps,[],[],[],0,[],0,[]⟩;let J:In:={H:=H,ν:=λa=>match W a with|some w=>w.1|none=>(0,.nilIface),n:=0+i.bs.length,κ:=λc=>(cnt<|ofVH (hyS i) z)[c]?.getD 0,q:=0+(cnt<|ofVH (hyS i) z).length};have hC:Cnt J 0 (cnt<|ofVH (hyS i) z):=λm j e=>by
    have Q:=(TC.1 e).1;refine⟨by show 0+m<0+_;omega,?_⟩;show(cnt<|ofVH (hyS i) z)[0+m]?.getD 0=j;rw[Te,e];rfl
  have hsg:∀k,sg ([]:Rho) 0 k=k:=λk=>Te k;have hW4:∀k w,W k=some w->sg ([]:Rho) 0 k<J.n/\J.ν (sg ([]:Rho) 0 k)=w.1/\sgW W (sg ([]:Rho) 0 k)=w.2:=λk w e=>by
    rw[hsg];refine⟨by show k<0+i.bs.length;have:=T k w e;omega,?_,?_⟩
    . show(match W k with|some w=>w.1|none=>_)=_;rw[e]
    . unfold sgW;rw[e]
  have base:∀(x:Cx) (l:Slots),x.n=fn.ntmps->RS x s0 ⟨H,λ_=>(0,.nilIface),0,λ_=>0,0⟩ (λ_=> []) l [] H:=λx l hx=>
    ⟨hx.symm,rfl,rfl,rfl,rfl,λt c e=>(by cases e),λa m e=>(by cases e),λa o c e=>(by cases e),λc hc=>(by cases hc),λk c e=>(by cases e),λk c e=>(by cases e),λk c o d e=>(by cases e)⟩
  have entry:∀(x:Cx) (l:Slots),x.n=fn.ntmps->VRs J cs vs/\RS x (buS s0 i V Y (U++D)) J (sgW W) l ((List.range J.n).map<|sgW W) H:=λx l hx=>
    RS.bu (J:=J) (seg2:=sgW W) (base x l hx) hT hok hLi hBi (λi a e=>by cases e) (λi j a e=>by cases e) rfl rfl rfl (λa ha=>absurd ha<|Tn _) (λc hc=>absurd hc<|Tn _) hC hW4 (λa ha=>absurd ha<|Tn _) (λp hp Q=>absurd Q<|Tn _) λp hp Q=>absurd Q<|Tn _
  have hJn:J.n=i.bs.length:=Te _;have hvs:=(entry {P:=X.P,r:=none,n:=fn.ntmps,w0:=default,H0:=H,S:=[],ds:=[]} [] rfl).1;rw[hvs.length]at hn;refine Pe (l:=(List.range' 0 vs.length).zip vs) hf hc hn (sub_self λp hp=>(ZJQ vs 0 p hp).2) λw _=> ?_;obtain⟨_,C⟩:=entry {P:=X.P,r:=none,n:=fn.ntmps,w0:=w,H0:=H,S:=ids ((List.range i.bs.length).map<|sgW W).flatten,ds:=[]} ((List.range' 0 vs.length).zip vs) rfl;rw[hJn]at C;have hs1:RS {P:=X.P,r:=none,n:=fn.ntmps,w0:=w,H0:=H,S:=ids ((List.range i.bs.length).map<|sgW W).flatten,ds:=[]} ⟨(buS s0 i V Y (U++D)).N,argsL cs 0,(buS s0 i V Y (U++D)).o,(buS s0 i V Y (U++D)).z,(buS s0 i V Y (U++D)).n,(buS s0 i V Y (U++D)).f,(buS s0 i V Y (U++D)).c,(buS s0 i V Y (U++D)).r⟩ J (sgW W) ((List.range' 0 vs.length).zip vs) ((List.range i.bs.length).map<|sgW W) H:=
    ⟨C.N,C.H,C.n,C.q,C.own,λt c e=>.inr<|ZDj hvs e,C.ze,C.ce,C.fx,C.rw,C.rz,C.ro⟩
  refine ZQE (x:={P:=X.P,r:=none,n:=fn.ntmps,w0:=w,H0:=H,S:=ids ((List.range i.bs.length).map<|sgW W).flatten,ds:=[]}) hX hI rfl rfl h hs1 (λj hj=>by cases hj) ?_;intro v e s9 I' A l' own9 H' he hk hJJ R;have fin:∀{ex:Exit},ex=.ret\/ex=.normal->bb (Bool.and (ZB1 v)<|allB (ZHU s9) v) (s9.away v λs'=>U4 Z.pb s' λs'=>mvJ Z.mv s' λs'=>oB (GG X.P s' fn.results.toList some) λl=>mtS s' o l (idR i.bs.length) λhs ρ js=>bb (allB (λp=>Nat.blt p.1 o.bs.length) ρ) (toVH (hyS o) hs some) none) none=some y->
      JN {P:=X.P,r:=none,n:=fn.ntmps,w0:=w,H0:=H,S:=ids ((List.range i.bs.length).map<|sgW W).flatten,ds:=XE I' v} (RetM {P:=X.P,r:=none,n:=fn.ntmps,w0:=w,H0:=H,S:=ids ((List.range i.bs.length).map<|sgW W).flatten,ds:=[]} fn (λu K' H'=>∃us F,(∀k w,F k=some w->k<o.bs.length)/\(∀k w,W k=some w->∃w',F k=some w'/\w'.1=w.1)/\u=Ow.pack us/\TellsS H' F o (ofVH (hyS o) y) us/\K'=(List.range o.bs.length).map (sgW F)) ex) l' own9 H':=by
    intro ex hex hr;obtain⟨hck,hr⟩:=ZC hr;simp only[TD]at hck;have hnd:=JH hck.1;have hjk:∀j∈v,A j= [(dN (I'.ν j).2,.deferred<|some [])]:=λj hj=>by
      rcases R.rw j _ (ZLc<|Zd.1 hck.2 j hj)with h|⟨_,h⟩
      . cases h
      . exact h
    rw[ZNs]at hr;have I:=R.away v;obtain⟨s',hs'e⟩:∃s',s'=awS s9 v:=⟨_,rfl⟩;rw[<-hs'e]at hr I;obtain⟨seg',hseg'⟩:∃seg',seg'=clr v A:=⟨_,rfl⟩;obtain⟨own',L⟩:∃own',own'=(List.range s9.n).map (clr v A):=⟨_,rfl⟩;rw[<-L,<-hseg']at I;let Ds:List Nat:=v.map λj=>dN (I'.ν j).2;have hmk:ZEF Ds=(List.range v.length).map (λi=>match v[i]? with|some a=>A a|none=> []):=by
      show(v.map λj=>dN (I'.ν j).2).map _=_;rw[RK];refine Tl λi=> ?_;rw[SN,SN];by_cases hi:i<v.length
      . rw[Rm hi,TL hi];show some [(dN (I'.ν v[i]).2,Obj.deferred<|some [])]=some (match v[i]? with|some a=>A a|none=> []);rw[TL hi];show _=some (A v[i]);rw[hjk _<|Ry hi]
      . rw[Tz (by omega),Tz (by simp;omega)];rfl
    obtain⟨RR,hpp⟩:=ZJN s9.n v.length A v (λi=>v[i]?) (λi=>match v[i]? with|some a=>A a|none=> []) (λi j a h1 h2 e1 e2=>by
        obtain⟨g1,g2⟩:=TC.1 e1;obtain⟨g3,g4⟩:=TC.1 e2;exact(List.getElem_inj hnd).1<|g2.trans g4.symm) (λi a h1 e=>⟨Tq e,hJJ a<|Tq e⟩) λi _=>rfl
    rw[<-R.own,<-L,<-hmk]at hpp
    suffices hsuf:JN {P:=X.P,r:=none,n:=fn.ntmps,w0:=w,H0:=H,S:=ids ((List.range i.bs.length).map<|sgW W).flatten,ds:=XE I' v} (RetM {P:=X.P,r:=none,n:=fn.ntmps,w0:=w,H0:=H,S:=ids ((List.range i.bs.length).map<|sgW W).flatten,ds:=[]} fn (λu K' H'=>∃us F,(∀k w,F k=some w->k<o.bs.length)/\(∀k w,W k=some w->∃w',F k=some w'/\w'.1=w.1)/\u=Ow.pack us/\TellsS H' F o (ofVH (hyS o) y) us/\K'=(List.range o.bs.length).map (sgW F)) ex) l' (own'++ZEF Ds) H' from λa w hh=>hsuf a w<|ZJA hh hpp
    have I:RS {P:=X.P,r:=none,n:=fn.ntmps,w0:=w,H0:=H,S:=ids ((List.range i.bs.length).map<|sgW W).flatten,ds:=XE I' v} s' I' seg' l' own' H':=I.cx rfl;have hnn:i.bs.length<=s'.n:=by
      rw[hs'e];show i.bs.length<=s9.n;have h1:=he.n;rw[R.n,hJn]at h1;exact h1
    have inner:∀(O:In) (G:Nat->Own) (E:List Own) (H1:Heaplet) (s1:PS),(∀k,k<i.bs.length->O.ν k=I'.ν k)->RS {P:=X.P,r:=none,n:=fn.ntmps,w0:=w,H0:=H,S:=ids ((List.range i.bs.length).map<|sgW W).flatten,ds:=XE I' v} s1 O G l' E H1->oB (GG X.P s1 fn.results.toList some) (λl=>mtS s1 o l (idR i.bs.length) λhs ρ js=>bb (allB (λp=>Nat.blt p.1 o.bs.length) ρ) (toVH (hyS o) hs some) none)=some y->
        JN {P:=X.P,r:=none,n:=fn.ntmps,w0:=w,H0:=H,S:=ids ((List.range i.bs.length).map<|sgW W).flatten,ds:=XE I' v} (RetM {P:=X.P,r:=none,n:=fn.ntmps,w0:=w,H0:=H,S:=ids ((List.range i.bs.length).map<|sgW W).flatten,ds:=[]} fn (λu K' H'=>∃us F,(∀k w,F k=some w->k<o.bs.length)/\(∀k w,W k=some w->∃w',F k=some w'/\w'.1=w.1)/\u=Ow.pack us/\TellsS H' F o (ofVH (hyS o) y) us/\K'=(List.range o.bs.length).map (sgW F)) ex) l' (E++ZEF Ds) H1:=by
      intro O G E H1 s1 hν hs1' hr;obtain⟨cs2,hr1,hm⟩:=Zb hr;obtain⟨hv,ρ,js,hm,hsub,hinj,hρ,hT2⟩:=ZB3 hm (λi j a e1 e2=>by
        rw[ZCN]at e1 e2;split at e1
        . split at e2
          . have e1:=TB<|TB e1;have e2:=TB<|TB e2;omega
          . cases e2
        . cases e1)
      obtain⟨hdm,hm⟩:=ZC hm;have hdm:∀k a,ZK ρ k=some a->k<o.bs.length:=λk a e=>(by simpa using Zd.1 hdm _ (W5 e));obtain⟨y',ey,hm2⟩:=UD hm;cases hm2;subst ey;have hin:∀k,k<i.bs.length->ZK ρ k=some (some k):=λk hk=>hsub _ _ (by rw[ZCN,TJ hk]);refine UR (js:=js) hs1' λseg2 own2 H2 g2 M=> ?_;obtain⟨cs3,us,f1,f2,f3⟩:=ZCy (x:={P:=X.P,r:=none,n:=fn.ntmps,w0:=w,H0:=H,S:=ids ((List.range i.bs.length).map<|sgW W).flatten,ds:=XE I' v}) rfl M (by rw[ZIs<|Yo js s1];exact hr1);cases f3;have hTS:=hT2 {O with H:=H2} seg2 us (Rw.of M) f2.vu;have hWd:∀k w,Wf ρ {O with H:=H2} seg2 k=some w->k<o.bs.length:=λk w e=>by
        unfold Wf at e;cases e2:ZK ρ k with
        |none=>rw[e2]at e;cases e
        |some a=>exact hdm k a e2
      obtain ⟨Rx,_,hp⟩:=ZAQ (g:=seg2) (K:=List.range (pubS js s1).n) (N:=o.bs.length) (seg:=sgW<|Wf ρ {O with H:=H2} seg2) (λk=>(ZK ρ k).bind id)
        (λa b i' _ _ e1 e2=>by
          cases h1:ZK ρ a with
          |none=>rw[h1]at e1;cases e1
          | some o1=>cases h2:ZK ρ b with
            |none=>rw[h2]at e2;cases e2
            | some o2=>
              rw[h1]at e1;rw[h2]at e2;have e1:o1=some i':=e1;have e2:o2=some i':=e2;subst e1 e2;exact hinj _ _ _ h1 h2)
        (λa i' _ e=>by
          cases h1:ZK ρ a with
          |none=>rw[h1]at e;cases e
          |some o=>rw[h1]at e;have e:o=some i':=e;subst e;rw[Tx,(Yo js s1).n];exact(hρ _ _ h1).2)
        (λk _=>by
          unfold sgW Wf;cases ZK ρ k with
          |none=>rfl
          |some a=>cases a<;>rfl)
      refine ZH2 (K:=(List.range o.bs.length).map<|sgW<|Wf ρ {O with H:=H2} seg2) (rst:=Rx.map seg2) Ds hex ⟨rfl,rfl,rfl,rfl⟩ (by show XE I' v=(v.map λj=>dN (I'.ν j).2).map _;rw[RK];rfl) (by simp) (by rw[TW];exact Tc) f1 (by rw[M.own];exact hp) ⟨us,_,hWd,λk w e=> ?_,rfl,hTS,rfl⟩;have hk:=T k w e;refine⟨_,Wf_of<|hin k hk,?_⟩;show O.ν k=w.1;rw[hν k hk,he.ν k (by show k<0+i.bs.length;omega)];show(match W k with|some w=>w.1|none=>_)=_;rw[e]
    rw[Vu]at hr;refine UR (js:=Z.pb) I λseg2 own2 H2 g2 M=> ?_;exact ZGA (B:=i.bs.length) M (by rw[(Yo Z.pb s').n];exact hnn) hr λs1 O G E h1 h2 h3=>inner O G E H2 s1 h1 h2 h3
  cases e with
  |norm=>exact fin (.inr rfl) hk
  |ret=>exact fin (.inl rfl) hk
  |exit id=>cases hk
end
noncomputable section
def lastD (l:List Oper):Option (List Oper×Operand):=List.rec none (λo r i=>match r with
 |[]=>(match o with|⟨none,.defer ⟨.value p,⟨[]⟩,⟨[]⟩⟩,_,_,_,none⟩=>some ([],p)|_=>none)
 |_::_=>Option.rec none (λq=>some (o::q.1,q.2)) i) l
abbrev Wd:=Option<|Nat×List CV
def codeD (X:Env)(Z:Hints)(c:Code):(β:Type)->PS->(Wd->Ex->PS->Option β)->Option β:=Code.rec (motive:=λ_=>(β:Type)->PS->(Wd->Ex->PS->Option β)->Option β)
 (λβ s k=>k none .norm s)
 (λid ops dr β s k=>Bool.rec (match lastD ops.toList with
  |some (l,p)=>pops X ops.toList l s λs=>ev s p λv=>(match v with| .clo f [] m=>k (some (f,m)) .norm s|_=>none)
  |none=>code X Z (.region id ops false) β s<|k none) (code X Z (.region id ops true) β s<|k none) dr)
 (λa b i d β s k=>i β s λv e s'=>match e with| .norm=>(match v with|none=>d β s' k|some q=>code X Z b β s'<|k<|some q)|e=>k v e s')
 (λc a b _ _ β s k=>code X Z (.cond c a b) β s<|k none)
 (λid b _ β s k=>code X Z (.block id b) β s<|k none)
 (λb _ β s k=>code X Z (.loop b) β s<|k none)
 (λ_ _ _ _ _ _ β _ _=>none)
 (λid β s k=>k none (.exit id) s)
 (λ_ _ _ _ _=>none) (λ_ _ _ _=>none) (λ_ _ _ _=>none)
 (λβ s k=>k none .ret s)
 (λ_ _ _ _=>none) c
abbrev runW{β:Type}(X:Env)(v:Wd)(s:PS)(f:PS->Option β):Option β:=match v with|none=>f s|some q=>callK s q.2 (λ_ s=>f s)<|X.dsp q.1
def fnD (X:Env)(Z:Hints)(f:Nat)(i o:Sp)(x:VH (hyS i)):Option (VH<|hyS o):=oB X.P.funcs[f]? λfn=>oB fn.body λc=>PS.bu ⟨fn.ntmps,[],[],[],0,[],0,[]⟩ [] i (ofVH (hyS i) x) λus s=>(match s with
  | ⟨N,_,a,z,n,q,cc,r⟩=>Xq (argsL us 0) λl=>bb (Nat.ble l.length fn.ntmps) (codeD X Z c _ ⟨N,l,a,z,n,q,cc,r⟩ λv e s=>match e with
    | .exit _=>none
    |_=>runW X v s λs=>U4 Z.pb s λs=>mvJ Z.mv s λs=>oB (GG X.P s fn.results.toList some) λl=>mtS s o l (idR i.bs.length) λhs ρ js=>bb (allB (λp=>Nat.blt p.1 o.bs.length) ρ) (toVH (hyS o) hs some) none) none)
end
theorem ZG9:∀{l:List Oper} {q:List Oper×Operand},lastD l=some q->∃ty pos aft,l=q.1++ [⟨none,.defer ⟨.value q.2,#[],#[]⟩,ty,pos,aft,none⟩]
  |[],q,h=>by cases h
  | [o],q,h=>by
    unfold lastD at h;simp only at h;split at h
    . cases h;exact⟨_,_,_,rfl⟩
    . cases h
  | o ::b::r,q,h=>by
    have h:(Option.rec none (λq=>some (o::q.1,q.2)) (lastD (b::r)):Option (List Oper×Operand))=some q:=h;cases a:lastD (b::r)with
    |none=>rw[a]at h;cases h
    | some c=>
      rw[a]at h;cases h;obtain⟨ty,pos,aft,e⟩:=ZG9 a;exact⟨ty,pos,aft,by rw[e];rfl⟩
section
variable{β:Type}{r:β}{x:Cx}{X:Env}{Z:Hints}{s s':PS}{I I':In}{seg:Nat->Own}{l:Slots}{own:List Own}{H:Heaplet}
theorem ZLn{P:Program}{f:Nat}:Enter P f (DoesD P f):=λ{fn c vs K H R} b d hn h=>λw g j=>by
 have hn:=TI hn;refine callsDIn_of_wp b d trivial ?_;refine h w _ w ⟨?_,rfl,?_,⟨g,j,PO _ _,λp k=>.inl<|Sb k,Rz _,λ_ _ _=>rfl,PF⟩⟩
 . simp;omega
 . intro i v e;obtain⟨_,h2⟩:=ZC8 vs 0 i v e;have hi:i<vs.length:=by
    rcases SZ i vs.length with a|a
    . exact a
    . simp[Tz a]at h2
   have h3:vs[i]=v:=(by simpa[TL hi]using h2);have:i<(vs.toArray++Array.replicate (fn.ntmps-vs.toArray.size) undef).size:=(by simp;omega);simp only[Sj,T9 this,Rb];rw[S8<|by simpa using hi];simpa using h3
theorem ZRP (h:EnvOk X){f:Nat}{i o:Sp}:FnOkG (DoesD X.P f) i o (fnV X Z f i o):=ZNn ZLn h
theorem ZK0{ops:Array Oper}{Q:Exit->Act->World->Prop}{R:List Oper}(c:EnvOk X)(d:x.P=X.P):∀{rest:List Oper} {s:PS} {I:In} {seg:Nat->Own} {l:Slots} {own:List Own} {H:Heaplet} {k:PS->Option β},RS x s I seg l own H->pops X ops.toList rest s k=some r->
    (∀s' I' seg' l' own' H',Go s I seg H s' I' seg' H'->k s'=some r->RS x s' I' seg' l' own' H'->JL x ops Q R l' own' H')->JL x ops Q (rest++R) l own H
  |[],s,I,seg,l,own,H,k,hs,h,a=>a _ _ _ _ _ _ (Go.refl _ _ _ _) h hs
  | o::rest,s,I,seg,l,own,H,k,hs,h,a=>
    ZPy c d hs (show gop X ops.toList s o (λs=>pops X ops.toList rest s k)=some r from h) λs' I' seg' l' own' H' g e b=>ZK0 c d b e λt J sg f i H2 j=>a t J sg f i H2<|g.trans j
theorem ZOn{b:Cx}{fn:Func}{R u:Value->List Own->Heaplet->Prop}{j:Exit}{g:FuncId}{cap:Array Value}{K rst:List Own}(k:x.P=b.P/\x.w0=b.w0/\x.H0=b.H0/\x.S=b.S/\x.n=b.n)(m:b.ds= [])
 (d:x.ds= [{target:=.fn (.func g) cap,args:=#[]}])(A:Enters x.P g)(o:j=.ret\/j=.normal)
 (y:own.flatten.Perm (K.flatten++rst.flatten))(D:DoesD x.P g cap K H u)(h:∀v K' H',u v K' H'->Hle H H'->JN b (Ret b fn R .ret) l (K'++rst) H'):JN x (RetD b fn R j) l own H:=λa w c=>by
 obtain⟨h1,h2,h3,k,B⟩:=k;have p:=c.mem.ok.perm y;have C:=D w c.mem.agr p.left;have run:LeavesIn Fence.wide 0 b.P fn a.tmps (λe i=>∃v K' H',e=.returned v/\R v K' H'/\Mem b.w0 b.H0 b.S K'.flatten H' i) [{target:=.fn (.func g) cap,args:=#[]}] .returning w:=by
  refine leavesIn_cons (by simp) (by simp[Fence.wide]) (f:=g) (args:=cap) ?_ (λ_ _=>trivial) ?_
  . rw[<-h1];simp only[invoke];simpa using A cap w
  . rw[<-h1];refine CallsDIn.mono C λe F i q=> ?_;obtain⟨rfl,v,K',H',rfl,r,z⟩:=q;show LeavesIn _ _ _ _ _ _ [] .returning i;have s:Mem x.w0 x.H0 x.S (K'.flatten++rst.flatten) H' i:=c.mem.go y z;have t:Holds b l (K'++rst) H' {a with defers:=[]} i:=⟨B▸c.size,m.symm,c.slots,by rw[TW,<-h2,<-h3,<-k];exact s⟩;obtain⟨-,v,E,r⟩:=h _ _ _ r z.le _ _ t;rw[h1];exact⟨v,E,r⟩
 rcases o with rfl|rfl
 . show LeavesIn _ _ _ _ a.tmps _ a.defers .returning w;rw[c.ds,d];exact run
 . show LeavesIn _ _ _ _ a.tmps _ a.defers .returning w;rw[c.ds,d];exact run
def dsW (v:Wd)(ws:List Value):List Deferred:=match v with|none=> []|some q=> [{target:=.fn (.func q.1) ws.toArray,args:=#[]}]
def WdOk (I:In)(v:Wd)(ws:List Value):Prop:=match v with|none=>ws= []|some q=>VRs I q.2 ws
def KcD (x:Cx)(Q:Exit->Act->World->Prop)(I:In)(k:Wd->Ex->PS->Option β)(r:β):Prop:=
 ∀v ws e s' I' seg' l' own' H',I.Le I'->k v e s'=some r->WdOk I' v ws->RS x s' I' seg' l' own' H'->JN {x with ds:=dsW v ws} (Q<|exX e) l' own' H'
theorem KcD.ext{Q:Exit->Act->World->Prop}{k:Wd->Ex->PS->Option β}(h:KcD x Q I k r)(e:I.Le I'):KcD x Q I' k r:=λv ws a t I' seg' l' own' H' h1 b c hs=>h v ws a t I' seg' l' own' H' (e.trans h1) b c hs
theorem GQ{Q:Exit->Act->World->Prop}(g:EnvOk X)(j:x.P=X.P){c:Code}{v:Wd}{ws:List Value}{k:Wd->Ex->PS->Option β}(hs:RS x s I seg l own H)(d:WdOk I v ws)(h:code X Z c β s (k v)=some r)(m:KcD x Q I k r):JC {x with ds:=dsW v ws} c Q l own H:=
 ZDZ (x:={x with ds:=dsW v ws}) g j h (hs.cx rfl) λe s' I' seg' l' own' H' f a b=>m v ws e s' I' seg' l' own' H' f.i a (by
  cases v with
  |none=>exact d
  |some q=>exact VRs.mono f.i d)<|b.cx rfl
theorem ZQF (t:EnvOk X)(u:x.P=X.P)(D:x.r=none)(C:x.ds= []):∀{c:Code} {β:Type} {r:β} {s:PS} {k:Wd->Ex->PS->Option β} {I:In} {seg:Nat->Own} {l:Slots} {own:List Own} {H:Heaplet},codeD X Z c β s k=some r->RS x s I seg l own H->∀{Q:Exit->Act->World->Prop},KcD x Q I k r->JC x c Q l own H:=by
  have i:({x with ds:=dsW none []}:Cx)=x:=by
    show({x with ds:=[]}:Cx)=x;rw[<-C]
  intro c;induction c with
  |skip=>intro β r s k I seg l own H h hs Q d;exact JC.skip (by have:=d none [] .norm s I seg l own H (In.Le.refl _) h rfl hs;rwa[i]at this)
  |ret=>intro β r s k I seg l own H h hs Q d;exact BX (by have:=d none [] .ret s I seg l own H (In.Le.refl _) h rfl hs;rwa[i]at this)
  |exit id=>intro β r s k I seg l own H h hs Q d;exact ZAf (by have:=d none [] (.exit id) s I seg l own H (In.Le.refl _) h rfl hs;rwa[i]at this)
  |cond o a b y z=>intro β r s k I seg l own H h hs Q d;have:=GQ (v:=none) (ws:=[]) t u hs rfl (show code X Z (.cond o a b) β s (k none)=some r from h) d;rwa[i]at this
  |loop b E=>intro β r s k I seg l own H h hs Q d;have:=GQ (v:=none) (ws:=[]) t u hs rfl (show code X Z (.loop b) β s (k none)=some r from h) d;rwa[i]at this
  |block id b E=>intro β r s k I seg l own H h hs Q d;have:=GQ (v:=none) (ws:=[]) t u hs rfl (show code X Z (.block id b) β s (k none)=some r from h) d;rwa[i]at this
  | region id ops dr=>
    intro β r s k I seg l own H h hs Q d;cases dr with
    |true=>have:=GQ (v:=none) (ws:=[]) t u hs rfl (show code X Z (.region id ops true) β s (k none)=some r from h) d;rwa[i]at this
    | false=>
      replace h:=show(match lastD ops.toList with
        |some (l,p)=>pops X ops.toList l s λs=>ev s p λv=>(match v with| .clo f [] m=>k (some (f,m)) .norm s|_=>none)
        |none=>code X Z (.region id ops false) β s<|k none)=some r from h
      split at h
      . rename_i L p F;obtain⟨ty,pos,aft,e⟩:=ZG9 F;refine Zj ?_;rw[e];refine ZK0 t u hs h λs' I' seg' l' own' H' g A j=> ?_;obtain⟨c,v,e1,e2,A⟩:=ZZ j A;split at A
        . rename_i f m;simp only[VR]at e2;obtain⟨us,ws,rfl,G,J⟩:=e2;cases G.un0;refine ZQc D e1<|JL.nil ?_;rw[C];exact d (some (f,m)) ws .norm s' I' seg' l' own' H' g.I A J j
        . cases A
      . have:=GQ (v:=none) (ws:=[]) t u hs rfl h d;rwa[i]at this
  | seq a b y z=>
    intro β r s k I seg l own H h hs Q d;have h:codeD X Z a β s (λv e s'=>match e with| .norm=>(match v with|none=>codeD X Z b β s' k|some q=>code X Z b β s'<|k<|some q)|e=>k v e s')=some r:=h;refine Y0<|y h hs λv ws e s' I' seg' l' own' H' B n w j=> ?_;cases e with
    | norm=>
      cases v with
      | none=>
        have w:ws= []:=w;subst w;rw[i];exact Z9 (z n j<|d.ext B)
      |some q=>exact Z9 (GQ t u j w n<|d.ext B)
    |exit id=>exact U0 (d v ws (.exit id) s' I' seg' l' own' H' B n w j)
    |ret=>exact Wa (d v ws .ret s' I' seg' l' own' H' B n w j)
  |_=>intro β r s k I seg l own H h;cases h
theorem ZS9 (hX:EnvOk X){f:Nat}{i o:Sp}:FnOk X.P f i o (fnD X Z f i o):=by
  intro H W vs z y E hT h;obtain⟨fn,hf,h⟩:=Zb (show oB X.P.funcs[f]? (λfn=>oB fn.body λc=>PS.bu ⟨fn.ntmps,[],[],[],0,[],0,[]⟩ [] i (ofVH (hyS i) z) λus s=>Xq (argsL us 0) λl=>bb (Nat.ble l.length fn.ntmps) (codeD X Z c (VH<|hyS o) ⟨s.N,l,s.o,s.z,s.n,s.f,s.c,s.r⟩ λv e s=>match e with
    | .exit _=>none
    |_=>runW X v s λs=>U4 Z.pb s λs=>mvJ Z.mv s λs=>oB (GG X.P s fn.results.toList some) λl=>mtS s o l (idR i.bs.length) λhs ρ js=>bb (allB (λp=>Nat.blt p.1 o.bs.length) ρ) (toVH (hyS o) hs some) none) none)=some y from h)
  obtain⟨c,hc,h⟩:=Zb h;obtain⟨hok,cs,M,c1,U,V,Y,C,hLi,hBi,h⟩:=Jb h;rw[Y7]at h;obtain⟨hn,h⟩:=ZC h;have hlen:∀(cs:List CV) (k:Nat),(argsL cs k).length=cs.length:=λcs=>by
    induction cs with
    |nil=>intro k;rfl
    |cons a cs ih=>intro k;show(argsL cs (k+1)).length+1=_;rw[ih];rfl
  rw[hlen]at hn;let s0:PS:=⟨fn.ntmps,[],[],[],0,[],0,[]⟩;let J:In:={H:=H,ν:=λa=>match W a with|some w=>w.1|none=>(0,.nilIface),n:=0+i.bs.length,κ:=λc=>(cnt<|ofVH (hyS i) z)[c]?.getD 0,q:=0+(cnt<|ofVH (hyS i) z).length};have hC:Cnt J 0 (cnt<|ofVH (hyS i) z):=λm j e=>by
    have O:=(TC.1 e).1;refine⟨by show 0+m<0+_;omega,?_⟩;show(cnt<|ofVH (hyS i) z)[0+m]?.getD 0=j;rw[Te,e];rfl
  have hsg:∀k,sg ([]:Rho) 0 k=k:=λk=>Te k;have hW4:∀k w,W k=some w->sg ([]:Rho) 0 k<J.n/\J.ν (sg ([]:Rho) 0 k)=w.1/\sgW W (sg ([]:Rho) 0 k)=w.2:=λk w e=>by
    rw[hsg];refine⟨by show k<0+i.bs.length;have:=E k w e;omega,?_,?_⟩
    . show(match W k with|some w=>w.1|none=>_)=_;rw[e]
    . unfold sgW;rw[e]
  have base:∀(x:Cx) (l:Slots),x.n=fn.ntmps->RS x s0 ⟨H,λ_=>(0,.nilIface),0,λ_=>0,0⟩ (λ_=> []) l [] H:=λx l hx=>
    ⟨hx.symm,rfl,rfl,rfl,rfl,λt c e=>(by cases e),λa m e=>(by cases e),λa o c e=>(by cases e),λc hc=>(by cases hc),λk c e=>(by cases e),λk c e=>(by cases e),λk c o d e=>(by cases e)⟩
  have entry:∀(x:Cx) (l:Slots),x.n=fn.ntmps->VRs J cs vs/\RS x (buS s0 i V Y (U++C)) J (sgW W) l ((List.range J.n).map<|sgW W) H:=λx l hx=>
    RS.bu (J:=J) (seg2:=sgW W) (base x l hx) hT hok hLi hBi (λi a e=>by cases e) (λi j a e=>by cases e) rfl rfl rfl (λa ha=>absurd ha<|Tn _) (λc hc=>absurd hc<|Tn _) hC hW4 (λa ha=>absurd ha<|Tn _) (λp hp O=>absurd O<|Tn _) λp hp O=>absurd O<|Tn _
  have hJn:J.n=i.bs.length:=Te _;have hvs:=(entry {P:=X.P,r:=none,n:=fn.ntmps,w0:=default,H0:=H,S:=[],ds:=[]} [] rfl).1;rw[hvs.length]at hn;intro w ha hk0;have hn:=TI hn;refine callsIn_of_wp_defers hf hc trivial ?_;let D:Cx:={P:=X.P,r:=none,n:=fn.ntmps,w0:=w,H0:=H,S:=ids ((List.range i.bs.length).map<|sgW W).flatten,ds:=[]};obtain⟨_,b⟩:=entry D ((List.range' 0 vs.length).zip vs) rfl;rw[hJn]at b;have hs1:RS D ⟨(buS s0 i V Y (U++C)).N,argsL cs 0,(buS s0 i V Y (U++C)).o,(buS s0 i V Y (U++C)).z,(buS s0 i V Y (U++C)).n,(buS s0 i V Y (U++C)).f,(buS s0 i V Y (U++C)).c,(buS s0 i V Y (U++C)).r⟩ J (sgW W) ((List.range' 0 vs.length).zip vs) ((List.range i.bs.length).map<|sgW W) H:=
    ⟨b.N,b.H,b.n,b.q,b.own,λt c e=>.inr<|ZDj hvs e,b.ze,b.ce,b.fx,b.rw,b.rz,b.ro⟩
  have hJC:JC D c (RetD D fn λu K' H'=>∃us A,(∀k w,A k=some w->k<o.bs.length)/\(∀k w,W k=some w->∃F,A k=some F/\F.1=w.1)/\u=Ow.pack us/\TellsS H' A o (ofVH (hyS o) y) us/\K'=(List.range o.bs.length).map (sgW A)) ((List.range' 0 vs.length).zip vs) ((List.range i.bs.length).map<|sgW W) H:=by
    refine ZQF (x:=D) hX rfl rfl rfl h hs1 ?_;intro v ws e s' I' seg' l' own' H' he hk hw M;have hnn:i.bs.length<=s'.n:=by
      have h1:=he.n;rw[M.n,hJn]at h1;exact h1
    have hνJ:∀k w,W k=some w->J.ν k=w.1:=λk w e=>by
      show(match W k with|some w=>w.1|none=>_)=_;rw[e]
    have fin:∀{Q:Exit} {I1:In} {seg1:Nat->Own} {G:List Own} {H1:Heaplet} {s1:PS},J.Le I1->i.bs.length<=s1.n->RS D s1 I1 seg1 l' G H1->Q=.ret\/Q=.normal->U4 Z.pb s1 (λs=>mvJ Z.mv s λs1=>oB (GG X.P s1 fn.results.toList some) λl=>mtS s1 o l (idR i.bs.length) λhs ρ js=>bb (allB (λp=>Nat.blt p.1 o.bs.length) ρ) (toVH (hyS o) hs some) none)=some y->
        JN D (Ret D fn (λu K' H'=>∃us A,(∀k w,A k=some w->k<o.bs.length)/\(∀k w,W k=some w->∃F,A k=some F/\F.1=w.1)/\u=Ow.pack us/\TellsS H' A o (ofVH (hyS o) y) us/\K'=(List.range o.bs.length).map (sgW A)) Q) l' G H1:=by
      intro Q I1 seg1 G H1 s1 hle hn1 hs1 L T;rw[Vu]at T;refine Gs (js:=Z.pb) hs1 λseg2 own2 H2 g2 hs2=> ?_;refine ZPa (B:=i.bs.length) hs2 (by rw[(Yo Z.pb s1).n];exact hn1) T λs2 I2 seg3 own3 h1 h2 h3=> ?_;exact ZP4 E (λk w e=>by
        have hk:=E k w e;rw[h1 k hk];show I1.ν k=w.1;rw[hle.ν k (by rw[hJn];exact hk)];exact hνJ k w e) h2 L h3
    have go :∀{Q:Exit},Q=.ret\/Q=.normal->(runW X v s' λs=>U4 Z.pb s λs=>mvJ Z.mv s λs=>oB (GG X.P s fn.results.toList some) λl=>mtS s o l (idR i.bs.length) λhs ρ js=>bb (allB (λp=>Nat.blt p.1 o.bs.length) ρ) (toVH (hyS o) hs some) none)=some y->
        JN {D with ds:=dsW v ws} (RetD D fn (λu K' H'=>∃us A,(∀k w,A k=some w->k<o.bs.length)/\(∀k w,W k=some w->∃F,A k=some F/\F.1=w.1)/\u=Ow.pack us/\TellsS H' A o (ofVH (hyS o) y) us/\K'=(List.range o.bs.length).map (sgW A)) Q) l' own' H':=by
      intro Q L T;cases v with
      | none=>
        have hw:ws= []:=hw;exact ZQZ L (fin he hnn M L T)
      | some q=>
        obtain⟨g,m⟩:=q;have T:callK s' m (λ_ s=>U4 Z.pb s λs=>mvJ Z.mv s λs=>oB (GG X.P s fn.results.toList some) λl=>mtS s o l (idR i.bs.length) λhs ρ js=>bb (allB (λp=>Nat.blt p.1 o.bs.length) ρ) (toVH (hyS o) hs some) none) (X.dsp g)=some y:=T;cases hds:X.dsp g with
        |nil=>rw[hds]at T;cases T
        | cons S0 L0=>
          have hEn:Enters X.P g:=(hX.dsp g S0 (by rw[hds];simp)).1;refine ZHp (x:={D with ds:=dsW (some (g,m)) ws}) (xf:=D) (lf:=λ_=>l') (Kf:=λ_=>Ret D fn (λu K' H'=>∃us A,(∀k w,A k=some w->k<o.bs.length)/\(∀k w,W k=some w->∃F,A k=some F/\F.1=w.1)/\u=Ow.pack us/\TellsS H' A o (ofVH (hyS o) y) us/\K'=(List.range o.bs.length).map (sgW A)) .ret) (DO:=DoesD X.P g)
            (λ{K rst own H R} _ hp hD hcont=> ?_) (λS hS=>(hX.dsp g S hS).2) (M.cx rfl) hw T λus vs' s2 I2 seg2 own2 H2 hgo hk2 _ hs2=> ?_
          . exact ZOn (x:={D with ds:=dsW (some (g,m)) ws}) ⟨rfl,rfl,rfl,rfl,rfl⟩ rfl rfl hEn L hp hD λv K' H' hR hle=>hcont v K' H' hR hle
          . exact fin (he.trans hgo.I) (TS hnn hgo.e.n) (hs2.cx rfl) (.inl rfl) hk2
    cases e with
    |norm=>exact go (.inr rfl) hk
    |ret=>exact go (.inl rfl) hk
    |exit id=>cases hk
  refine hJC _ w ⟨?_,rfl,?_,⟨ha,hk0,PO _ _,λp hp=>.inl<|Sb hp,Rz _,λ_ _ _=>rfl,PF⟩⟩
  . simp[D];omega
  . intro i v e;obtain⟨_,h2⟩:=ZC8 vs 0 i v e;have hi:i<vs.length:=by
      rcases SZ i vs.length with h'|h'
      . exact h'
      . simp[Tz h']at h2
    have h3:vs[i]=v:=(by simpa[TL hi]using h2);have:i<(vs.toArray++Array.replicate (fn.ntmps-vs.toArray.size) undef).size:=(by simp;omega);simp only[Sj,T9 this,Rb];rw[S8<|by simpa using hi];simpa using h3
end
theorem ZDm{x:Cx}{l:Slots}{own:List Own}{H:Heaplet}{R:List Own->Heaplet->Prop}(h:R own H):JN x (λa b=>∃K2 H2,R K2 H2/\Mem x.w0 x.H0 x.S K2.flatten H2 b) l own H:=λa w c=>⟨own,H,h,c.mem⟩
theorem Pm{P:Program}{f:FuncId}{args:Array Value}{K:List Own}{H:Heaplet}{R R':Value->List Own->Heaplet->Prop}(h:Does P f args K H R)
 (c:∀w v K' H',R v K' H'->JN {P:=P,r:=none,n:=0,w0:=w,H0:=H,S:=ids K.flatten,ds:=[]} (λa b=>∃K2 H2,R' v K2 H2/\Mem w H (ids K.flatten) K2.flatten H2 b) [] K' H'):Does P f args K H R':=λw d g=>by
 refine CallsIn.mono (h w d g) ?_;rintro e b ⟨v,K',H',rfl,j,k⟩;obtain⟨K2,H2,h1,h2⟩:=c w v K' H' j {tmps:=#[],defers:=[]} b ⟨rfl,rfl,λi v e=>(by cases e),k⟩;exact⟨v,K2,H2,rfl,h1,h2⟩
abbrev s0:PS:=⟨0,[],[],[],0,[],0,[]⟩
theorem ZDN{i:Sp}{W:Wt}{H:Heaplet}{vs:List Value}{z:VH (hyS i)}(f:∀k w,W k=some w->k<i.bs.length)(D:TellsS H W i (ofVH (hyS i) z) vs){cs:List CV}{s:PS}
 (h:PS.bu s0 [] i (ofVH (hyS i) z) (λus s=>some (us,s))=some (cs,s)):∃(J:In) (x:Cx),J.H=H/\VRs J cs vs/\RS x s J (sgW W) [] ((List.range i.bs.length).map<|sgW W) H/\∀k w,W k=some w->J.ν k=w.1:=by
 obtain⟨g,E,F,L,M,N,O,G,l,u,h⟩:=Jb h;cases h;let J:In:={H:=H,ν:=λa=>match W a with|some w=>w.1|none=>(0,.nilIface),n:=0+i.bs.length,κ:=λc=>(cnt<|ofVH (hyS i) z)[c]?.getD 0,q:=0+(cnt<|ofVH (hyS i) z).length};let x:Cx:={P:=default,r:=none,n:=0,w0:=default,H0:=H,S:=[],ds:=[]};have I:Cnt J 0 (cnt<|ofVH (hyS i) z):=λm j e=>by
  have b:=(TC.1 e).1;refine⟨by show 0+m<0+_;omega,?_⟩;show(cnt<|ofVH (hyS i) z)[0+m]?.getD 0=j;rw[Te,e];rfl
 have v:∀k,sg ([]:Rho) 0 k=k:=λk=>Te k;have y:∀k w,W k=some w->sg ([]:Rho) 0 k<J.n/\J.ν (sg ([]:Rho) 0 k)=w.1/\sgW W (sg ([]:Rho) 0 k)=w.2:=λk w e=>by
  rw[v];refine⟨by show k<0+i.bs.length;have:=f k w e;omega,?_,?_⟩
  . show(match W k with|some w=>w.1|none=>_)=_;rw[e]
  . unfold sgW;rw[e]
 have base:RS x s0 ⟨H,λ_=>(0,.nilIface),0,λ_=>0,0⟩ (λ_=> []) [] [] H:=
  ⟨rfl,rfl,rfl,rfl,rfl,λt c e=>(by cases e),λa m e=>(by cases e),λa o c e=>(by cases e),λc A=>(by cases A),λk c e=>(by cases e),λk c e=>(by cases e),λk c o d e=>(by cases e)⟩
 have B:J.n=i.bs.length:=Te _;obtain⟨h1,h2⟩:=RS.bu (J:=J) (seg2:=sgW W) base D g l u (λi a e=>by cases e) (λi j a e=>by cases e) rfl rfl rfl (λa C=>absurd C<|Tn _) (λc A=>absurd A<|Tn _) I y (λa C=>absurd C<|Tn _) (λp K b=>absurd b<|Tn _) λp K b=>absurd b<|Tn _;rw[B]at h2;exact⟨J,x,rfl,h1,h2,λk w e=>by show(match W k with|some w=>w.1|none=>_)=_;rw[e]⟩
theorem DP{o:Sp}{H:Heaplet}{s:PS}{I:In}{seg:Nat->Own}{cs:List CV}{us:List Value}{y:VH (hyS o)}{ρ:Rho}(h:Rw s [] I seg)(hI:I.H=H)(b:VRs I cs us)
 (c:mtS s o cs [] (λhs ρ js=>some (hs,ρ,js))=some (ofVH (hyS o) y,ρ,[])):TellsS H (Wf ρ I seg) o (ofVH (hyS o) y) us:=by
 obtain⟨hs,d,js,e,_,_,_,f⟩:=ZB3 c (λi j a e1 e2=>by cases e1);cases e;rw[<-hI];exact f I seg us h b.vu
theorem Rw.zero (I:In)(seg:Nat->Own):Rw s0 [] I seg:=⟨λj t E m e=>(by cases e),λj t m e=>(by rcases e with e|⟨e,_⟩<;>cases e),λj E m e=>(by cases e),λa m e=>(by cases e)⟩
abbrev s1 (t:Ty)(E:Nat)(m:List (den t)):PS:=⟨0,[],[],[],1,[],0,[(0,.own t E m)]⟩
theorem Rw.one{t:Ty}{E:Nat}{m:List (den t)}{I:In}{seg:Nat->Own}(h:RowOf I.H (RT t) 0 E (szY t) (I.ν 0).2 m (seg 0)):Rw (s1 t E m) [] I seg:=by
 refine⟨λj u b m' e _=> ?_,λj u m' e=> ?_,λj b m' e=> ?_,λa m' e=>by cases e⟩
 . rw[ZH]at e;split at e
   . rename_i q;have q:0=j:=q;subst q;cases e;exact h
   . cases e
 . rcases e with e|⟨e,_⟩
   . rw[ZH]at e;split at e<;>cases e
   . cases e
 . rw[ZH]at e;split at e<;>cases e
theorem FnOk.data{P:Program}{f:Nat}{i o:Sp}{g:VH (hyS i)->Option (VH<|hyS o)}(hi:i.bs= [])(l:o.bs= [])(j:VH (hyS i)->List CV)(co:VH (hyS o)->List CV)
 (b:∀z,PS.bu s0 [] i (ofVH (hyS i) z) (λus s=>some (us,s))=some (j z,s0))(c:∀y,mtS s0 o (co y) [] (λhs ρ js=>some (hs,ρ,js))=some (ofVH (hyS o) y,[],[]))
 (h:∀(I:In) (vs:List Value) (z:VH (hyS i)) (y:VH (hyS o)),VRs I (j z) vs->g z=some y->Does P f vs.toArray [] I.H λu K' H'=>∃us,u=Ow.pack us/\K'= []/\VRs {I with H:=H'} (co y) us):FnOk P f i o g:=by
 intro H W vs z y a m d;obtain⟨J,x,n,p,_⟩:=ZDN a m<|b z;have:=h J vs z y p d;rw[n]at this;rw[hi];refine this.mono λu K' H' ⟨us,e1,e2,e3⟩=>⟨us,Wf [] {J with H:=H'} (λ_=> []),λk w e=> ?_,λk w e=> ?_,e1,DP (Rw.zero _ _) rfl e3<|c y,?_⟩
 . unfold Wf at e;cases e
 . have:=a k w e;rw[hi]at this;exact absurd this<|Tn _
 . rw[e2,l];rfl
theorem FnOk.row{P:Program}{f:Nat}{i:Sp}{t:Ty}{E:Nat}{l:VH (hyS i)->Option (List<|den t)}(hi:i.bs= [])(p:VH (hyS i)->List CV)
 (b:∀z,PS.bu s0 [] i (ofVH (hyS i) z) (λus s=>some (us,s))=some (p z,s0))(c:∀m:List (den t),mtS (s1 t E m) ⟨[.d (.sl t) [(0,0,E)]],[.row]⟩ [.row 0] [] (λhs ρ js=>some (hs,ρ,js))=some ([.d (.sl t) m],[(0,some 0)],[]))
 (h:∀(I:In) (vs:List Value) (z:VH (hyS i)) (m:List (den t)),VRs I (p z) vs->l z=some m->Does P f vs.toArray [] I.H λu K' H'=>∃K,K'= [K]/\RowOf H' (RT t) 0 E (szY t) u m K):FnOk P f i ⟨[.d (.sl t) [(0,0,E)]],[.row]⟩ l:=by
 intro H W vs z y a r g;obtain⟨J,x,v,A,_⟩:=ZDN a r<|b z;have:=h J vs z y A g;rw[v]at this;rw[hi];refine this.mono λu K' H' ⟨K,e1,e2⟩=> ?_;obtain⟨ao,cap,B,_⟩:=e2.len;have j:=DP (o:=⟨[.d (.sl t) [(0,0,E)]],[.row]⟩) (H:=H') (s:=s1 t E y) (I:={H:=H',ν:=λ_=>(0,u),n:=1,κ:=λ_=>0,q:=0}) (seg:=λ_=>K) (cs:=[.row 0]) (us:=[u]) (y:=y) (ρ:=[(0,some 0)])
  (Rw.one e2) rfl (VRs.cons (by simp only[VR];exact⟨Nat.zero_lt_one,trivial,ao,_,cap,B⟩) VRs.nil) (c y)
 refine⟨[u],_,λk w e=> ?_,λk w e=> ?_,rfl,j,?_⟩
 . unfold Wf at e;rw[show ZK ([(0,some 0)]:Rho) k=if 0=k then some (some 0)else none from ZH _ _ _]at e;split at e
   . rename_i q;subst q;exact Nat.zero_lt_one
   . cases e
 . have:=a k w e;rw[hi]at this;exact absurd this<|Tn _
 . rw[e1];rfl
theorem Pk{P:Program}{f:FuncId}{args:Array Value}{K:List Own}{H:Heaplet}{R:Value->List Own->Heaplet->Prop}(i:Nat){g:Nat}{cur:Array Value}{t:TypeId}(hi:K[i]? =some [(g,.cells cur t (0,0))])
 (h:∀H1,Hle H H1->(∀o u,cur[o]? =some u->H1 g o=some u)->Does P f args (K.set i []) H1 R):Does P f args K H R:=λw a b=>by
 have c:Mem w H (ids K.flatten) K.flatten H w:=⟨a,b,PO _ _,λp d=>.inl<|Sb d,Rz _,λ_ _ _=>rfl,PF⟩;have m:=Mem.pub0 c hi;have h2:=h _ m.le (λo u e=>by simp only[if_true];exact e) w m.agr m.ok;refine CallsIn.mono h2 ?_;rintro e l ⟨v,K',H',rfl,j,k⟩;refine⟨v,K',H',rfl,j,?_⟩;have:=m.go (K:=(K.set i []).flatten) (rst:=[]) (by simp) k;simpa using this
theorem Pq{α a c:Type}{P:Program}{l:Nat}{RA R:Heaplet->Array Value->α->Prop}{Y:α->a->Option (a ⊕ c)}{I:a->Own->Heaplet->Prop}{X:c->Own->Heaplet->Prop}(h:YSpecG P l RA Y I X)(b:∀H args y,R H args y->RA H args y):YSpecG P l R Y I X:=
 λy s args O H w o h1 h2 h3 d e=>h y s args O H w o h1 (b _ _ _ h2) h3 d e
theorem ZKh{P:Program}{l:Nat}{args:Array Value}{w:World}{R R':Ending->World->Prop}(h:Ow.Yields P l args w R)(b:∀e a,R e a->R' e a):Ow.Yields P l args w R':=by
 obtain⟨fn,tmps,assign,body,h1,h2⟩:=h;exact⟨fn,tmps,assign,body,h1,h2.mono b⟩
theorem ZNj{α b k:Type}{P:Program}{f:FuncId}{cap:Array Value}{H:Heaplet}{RA:Heaplet->Array Value->α->Prop}{xs:List α}(l:IterL P f cap H RA xs)(m:α->b->Option (b ⊕ k))(s0:b)(c:b ⊕ k)(d:forL m xs s0=some c)
 {n:Nat}{I':b->Own->Heaplet->Prop}{X:k->Own->Heaplet->Prop}{O:Own}(A:YSpecG P n RA m I' X)(hI:IX I' X (.inl s0) O H):
 Does P f (#[.func (.yield n) #[] #[]]++cap) [O] H (λu K' H'=>∃a,K'= [a]/\IX I' X c a H'):=by
 refine(l n (λpre o H=>∃s t O,pre++t=xs/\o= [O]/\forL m t s=some c/\IX I' X (.inl s) O H) (λpre o H=>∃O,o= [O]/\IX I' X c O H) [O] ?_ ⟨s0,xs,O,rfl,rfl,d,hI⟩).mono ?_
 . rintro pre y args o H w ⟨s,t,O,e1,rfl,p,hI⟩ ⟨q,z,e2⟩ r g;have ht:t=y::z:=by
    have:=e1.trans e2.symm;exact List.append_cancel_left this
   subst ht;rw[TP,RM,Th]at g;obtain⟨i,hb,v⟩:=ZOb p;refine ZKh (A y s args O H w i hI q hb r g) ?_;rintro e D ⟨a,H',rfl,B,j⟩;refine⟨i.isLeft,[a],H',rfl,by simpa using B,?_⟩;rcases v with⟨s',rfl,x⟩|⟨E,rfl,rfl⟩
   . exact⟨s',z,a,by rw[<-e1];simp,rfl,x,j⟩
   . exact⟨a,rfl,j⟩
 . rintro u K' H' ⟨_,h|h⟩
   . obtain⟨C,rfl,s,t,O,e1,rfl,p,hI⟩:=h;have:t= []:=(by simpa using e1);subst this;have:c=.inl s:=(TB p).symm;subst this;exact⟨O,rfl,hI⟩
   . obtain⟨C,_,O,rfl,hI⟩:=h;exact⟨O,rfl,hI⟩
theorem OA{P:Program}{f:FuncId}{args:Array Value}{K K2:List Own}{H:Heaplet}{R:Value->List Own->Heaplet->Prop}(e:K2.flatten=K.flatten)(h:Does P f args K2 H R):Does P f args K H R:=by
 unfold Does at h|-;rw[<-e];exact h
noncomputable def ZQH {α:Type} (m:List α) (n:Int):Option (List<|List α):=if 1<=n/\n<=1099511627776/\m.length<=LIM then some (Xw n.toNat m.length m)else none
noncomputable def Y4 {α:Type} (m:List α) (n:Int) {a b:Type} (c:List α->a->Option (a ⊕ b)) (s:a):Option (a ⊕ b):=Option.bind (ZQH m n) λl=>forL c l s
noncomputable def backR (m:List UInt8) {a b:Type} (c:Int×UInt8->a->Option (a ⊕ b)) (s:a):Option (a ⊕ b):=forL (fun(p:Nat×UInt8)=>c (((p.1:Nat):Int),p.2)) (bwd m m.length) s
abbrev ZCP (t:Ty):Sp:=⟨[.ptr 0 0,.ptr 1 0],[.cells 1 [.d (.sl t) []],.cells 1 [.d .i []]]⟩
abbrev ZSn (t:Ty)(m:List (den t))(N:Int):PS:=⟨0,[],[((1,0),.i N),((0,0),.sl t m)],[(1,1),(0,1)],2,[],0,[]⟩
theorem ZHo{P:Program}{f:Nat}{t:Ty}(p:Enters P f)(r:∀(m:List (den t)) (N:Int),PS.bu s0 [] (ZCP t) (ofVH (hyS<|ZCP t) (m,N)) (λus s=>some (us,s))=some ([.ptr 0 0,.ptr 1 0],ZSn t m N))
 (w:∀y:List (den t),mtS s0 ⟨[.d (.sl t) []],[]⟩ [.sl t y] [] (λhs ρ js=>some (hs,ρ,js))=some ([.d (.sl t) y],[],[]))(A:∀(m:List (den t)) (N:Int),(1<=N/\N<=1099511627776/\m.length<=LIM)->∀(H:Heaplet) (v:Value) (K L:Nat),IsSlice H (RT t) (szY t) v m->H K 0=some v->H L 0=some (.int .i64 N)->
 IterL P f #[.pointer<|some ⟨K,0,none⟩,.pointer<|some ⟨L,0,none⟩] H (λH' args (y:List (den t))=>∃ao:Option Addr,args= #[.slice ao y.length y.length]/\IsSlice H' (RT t) (szY t) (.slice ao y.length y.length) y) (Xw N.toNat m.length m)):
 ItOk P f ⟨ZCP t,1,[.d (.sl t) []],fun(x:List (den t)×Int) _ _ b s=>Y4 x.1 x.2 b s⟩:=by
 refine⟨p,?_⟩;intro H W vs z c X σ τ b g M a Q I' Y O Z hI;obtain⟨m,N⟩:=z;have a:Y4 m N b g=some M:=a;unfold Y4 ZQH at a;split at a
 case isFalse=>cases a
 rename_i hN;rw[Tg]at a;obtain⟨J,x,hJ,j,hs,_⟩:=ZDN (i:=ZCP t) (z:=(m,N)) c X (r m N);obtain⟨v2,us,rfl,R,j⟩:=j.un;obtain⟨v3,us2,rfl,S,j⟩:=j.un;cases j.un0;simp only[VR]at R S;obtain⟨-,rfl⟩:=R;obtain⟨-,rfl⟩:=S;have c0:=hs.ce 0 0 (.sl t m) rfl;have B:=hs.ce 1 0 (.i N) rfl;rcases c0 with c0|⟨-,T,T0,C,g0,q0,w0⟩
 . cases c0
 rcases B with B|⟨-,U,T1,u1,g1,q1,V⟩
 . cases B
 simp only[VR]at V;subst V;have w0:IsSlice J.H (RT t) (szY t) C m:=w0;rw[hJ]at w0;show Does P f #[.func (.yield Q) #[] #[],.pointer<|some ⟨(J.ν 0).1,0,none⟩,.pointer<|some ⟨(J.ν 1).1,0,none⟩] [sgW W 0,sgW W 1,O] H _;rw[g0,g1];refine Pk 0 rfl λH1 D E=>Pk 1 rfl λH2 l F=>OA (K2:=[O]) rfl ?_;have E:=E 0 C (by rw[<-Sa];exact q0);have F:=F 0 _ (by rw[<-Sa];exact q1);have k:=D.trans l;have G:YSpecG P Q (λH' args (y:List (den t))=>∃ao:Option Addr,args= #[.slice ao y.length y.length]/\IsSlice H' (RT t) (szY t) (.slice ao y.length y.length) y) b I' Y:=Pq Z λH args y ⟨ao,e,h⟩=>by
  subst e;exact⟨rfl,DP (o:=⟨[.d (.sl t) []],[]⟩) (y:=y) (I:={H:=H,ν:=λ_=>(0,.nilIface),n:=0,κ:=λ_=>0,q:=0}) (seg:=λ_=> []) (cs:=[.sl t y]) (Rw.zero _ _) rfl (VRs.cons (by simp only[VR];exact h) VRs.nil) (w y)⟩
 refine(ZNj (A m N hN H2 C _ _ (w0.mono (RT.mono t) k) (l _ _ _ E) F) b g M a G<|hI.mono k).mono ?_;rintro u K' H' ⟨O',rfl,h⟩;exact⟨[],O',rfl,trivial,h⟩
abbrev ZPt:Sp:=⟨[.ptr 0 0],[.cells 1 [.d (.sl .w8) []]]⟩
theorem ZRg{P:Program}{f:Nat}(g:Enters P f)(j:∀(m:List UInt8) (H:Heaplet) (v:Value) (b:Nat),IsSlice H RU8 1 v m->H b 0=some v->
 IterL P f #[.pointer<|some ⟨b,0,none⟩] H (λ_ args (y:Nat×UInt8)=>args= #[.int .i64 ((y.1:Nat):Int),.int .u8 (y.2.toNat:Int)]) (bwd m m.length)):
 ItOk P f ⟨ZPt,2,[.d .i [],.d .w8 []],fun(x:List UInt8) _ _ e s=>backR x e s⟩:=by
 refine⟨g,?_⟩;intro H W vs z a K U V e c D k E I' X O L hI;have k:forL (fun(p:Nat×UInt8)=>e (((p.1:Nat):Int),p.2)) (bwd z z.length) c=some D:=k;obtain⟨J,x,M,r,hs,_⟩:=ZDN (i:=ZPt) (z:=z) a K (cs:=[.ptr 0 0]) (s:=⟨0,[],[((0,0),.sl .w8 z)],[(0,1)],1,[],0,[]⟩) rfl;obtain⟨Y,us,rfl,F,r⟩:=r.un;cases r.un0;simp only[VR]at F;obtain⟨-,rfl⟩:=F;have c0:=hs.ce 0 0 (.sl .w8 z) rfl;rcases c0 with c0|⟨-,G,Z,t,N,Q,w0⟩
 . cases c0
 have w0:IsSlice J.H RU8 1 t z:=w0;rw[M]at w0;show Does P f #[.func (.yield E) #[] #[],.pointer<|some ⟨(J.ν 0).1,0,none⟩] [sgW W 0,O] H _;rw[N];refine Pk 0 rfl λH1 l A=>OA (K2:=[O]) rfl ?_;have A:=A 0 t (by rw[<-Sa];exact Q);have B:YSpecG P E (λH' args (y:Nat×UInt8)=>args= #[.int .i64 ((y.1:Nat):Int),.int .u8 (y.2.toNat:Int)]) (fun(p:Nat×UInt8)=>e (((p.1:Nat):Int),p.2)) I' X:=λy s args O H w C h1 h2 h3 R S=>by
  subst h2;exact L (((y.1:Nat):Int),y.2) s _ O H w C h1 ⟨rfl,DP (o:=⟨[.d .i [],.d .w8 []],[]⟩) (y:=(((y.1:Nat):Int),y.2)) (I:={H:=H,ν:=λ_=>(0,.nilIface),n:=0,κ:=λ_=>0,q:=0}) (seg:=λ_=> []) (cs:=[.i ((y.1:Nat):Int),.w8 y.2]) (Rw.zero _ _) rfl
   (VRs.cons (by simp only[VR])<|VRs.cons (by simp only[VR]) VRs.nil) rfl⟩ h3 R S
 refine(ZNj (j z H1 t _ (w0.mono RU8.mono l) A) _ c D k B<|hI.mono l).mono ?_;rintro u K' H' ⟨T,rfl,h⟩;exact⟨[],T,rfl,trivial,h⟩
abbrev iPcs:Sp:=⟨[.ptr 0 0,.ptr 1 0],[.cells 1 [.d (.sl .w8) []],.cells 1 [.d (.sl .w8) []]]⟩
theorem ZOO{P:Program}{f:Nat}(M:Enters P f){F:∀{g m:Type},(List UInt8->g->Option (g ⊕ m))->g->List UInt8->List UInt8->Option (g ⊕ m)}
 (N:∀{g m:Type} (j:List UInt8->g->Option (g ⊕ m)) (s:g) (c d:List UInt8) (H:Heaplet) {A:Nat} {I:g->Own->Heaplet->Prop} {X:m->Own->Heaplet->Prop} {O:Own} {a b T U:Nat} {v u:Value},
  YSpecG P A (fun(H:Heaplet) (args:Array Value) (y:List UInt8)=>∃w:Value,args= #[w]/\IsSlice H RU8 1 w y) j I X->IX I X (.inl s) O H->IsSlice H RU8 1 v c->IsSlice H RU8 1 u d->∀r:g ⊕ m,F j s c d=some r->
  Does P f #[.func (.yield A) #[] #[],.pointer<|some ⟨a,0,none⟩,.pointer<|some ⟨b,0,none⟩] [[(a,.cells #[v] T (0,0))],[(b,.cells #[u] U (0,0))],O] H λ_ K' H'=>∃K:Own,K'= [[(a,.cells #[v] T (0,0))],[(b,.cells #[u] U (0,0))],K]/\IX I X r K H'):
 ItOk P f ⟨iPcs,1,[.d (.sl .w8) []],fun(x:List UInt8×List UInt8) _ _ j s=>F j s x.1 x.2⟩:=by
 refine⟨M,?_⟩;intro H W vs z B hT g m j C V Q A I' X' O hY hI;obtain⟨c,d⟩:=z;have Q:F j C c d=some V:=Q;obtain⟨J,x,hJ,D,hs,_⟩:=ZDN (i:=iPcs) (z:=(c,d)) B hT (cs:=[.ptr 0 0,.ptr 1 0]) (s:=⟨0,[],[((1,0),.sl .w8 d),((0,0),.sl .w8 c)],[(1,1),(0,1)],2,[],0,[]⟩) rfl;obtain⟨v2,us,rfl,Y,D⟩:=D.un;obtain⟨v3,us2,rfl,Z,D⟩:=D.un;cases D.un0;simp only[VR]at Y Z;obtain⟨-,rfl⟩:=Y;obtain⟨-,rfl⟩:=Z;obtain⟨-,k,T0,g0,n0⟩:=hs.ze 0 1 rfl;obtain⟨-,l,T,g1,n1⟩:=hs.ze 1 1 rfl;have c0:=hs.ce 0 0 (.sl .w8 c) rfl;have R:=hs.ce 1 0 (.sl .w8 d) rfl;rcases c0 with c0|⟨-,p,T0',u0,E,q0,w0⟩
 . cases c0
 rcases R with R|⟨-,t,T1',u1,G,q1,L⟩
 . cases R
 obtain⟨-,rfl⟩:_/\k=p:=by rw[g0]at E;injection E with h;injection h with h1 h2;injection h2 with h2;exact⟨h1,h2⟩
 obtain⟨-,rfl⟩:_/\l=t:=by rw[g1]at G;injection G with h;injection h with h1 h2;injection h2 with h2;exact⟨h1,h2⟩
 obtain⟨l0⟩:=k;obtain⟨l1⟩:=l;obtain⟨a0,rfl⟩:∃a,l0= [a]:=List.length_eq_one_iff.1 n0;obtain⟨a1,rfl⟩:∃a,l1= [a]:=List.length_eq_one_iff.1 n1;cases q0;cases q1;have w0:IsSlice J.H RU8 1 u0 c:=w0;have L:IsSlice J.H RU8 1 u1 d:=L;rw[hJ]at w0 L;show Does P f #[.func (.yield A) #[] #[],.pointer<|some ⟨(J.ν 0).1,0,none⟩,.pointer<|some ⟨(J.ν 1).1,0,none⟩] [sgW W 0,sgW W 1,O] H _;rw[g0,g1];have S:YSpecG P A (fun(H:Heaplet) (args:Array Value) (y:List UInt8)=>∃w:Value,args= #[w]/\IsSlice H RU8 1 w y) j I' X':=Pq hY λH args y ⟨w,e,h⟩=>by
  subst e;exact⟨rfl,DP (o:=⟨[.d (.sl .w8) []],[]⟩) (y:=y) (I:={H:=H,ν:=λ_=>(0,.nilIface),n:=0,κ:=λ_=>0,q:=0}) (seg:=λ_=> []) (cs:=[.sl .w8 y]) (Rw.zero _ _) rfl (VRs.cons (by simp only[VR];exact h) VRs.nil) rfl⟩
 refine(N j C c d H S hI w0 L V Q).mono ?_;rintro u K' H' ⟨K,rfl,h⟩;exact⟨[_,_],K,rfl,trivial,h⟩
theorem ZRL (n:Nat):InjR (idR n):=λi j a e1 e2=>by
 rw[ZCN]at e1 e2;split at e1
 . split at e2
   . cases e1;cases e2;rfl
   . cases e2
 . cases e1
theorem P0{P:Program}{f:Nat}{i o:Sp}{p:VH (hyS i)->Option (VH<|hyS o)}(r:VH (hyS i)->List CV)(t:VH (hyS i)->PS)
 (j:∀z,PS.bu s0 [] i (ofVH (hyS i) z) (λus s=>some (us,s))=some (r z,t z))
 (h:∀(I:In) (x:Cx) (seg:Nat->Own) (vs:List Value) (z:VH (hyS i)) (y:VH (hyS o)),VRs I (r z) vs->RS x (t z) I seg [] ((List.range i.bs.length).map seg) I.H->p z=some y->
  Does P f vs.toArray ((List.range i.bs.length).map seg) I.H (λu K' H'=>∃(us:List Value) (I':In) (seg':Nat->Own) (s':PS) (co:List CV) (ρ:Rho),u=Ow.pack us/\I'.H=H'/\(∀k,k<i.bs.length->I'.ν k=I.ν k)/\
   Rw s' [] I' seg'/\VRs I' co us/\mtS s' o co (idR i.bs.length) (λhs ρ js=>some (hs,ρ,js))=some (ofVH (hyS o) y,ρ,[])/\(∀k a,ZK ρ k=some a->k<o.bs.length)/\K'.flatten=((List.range o.bs.length).map<|sgW<|Wf ρ I' seg').flatten)):FnOk P f i o p:=by
 intro H W vs z y b A l w v c;obtain⟨J,x,B,C,hs,m⟩:=ZDN b A<|j z;rw[<-B]at hs v c|-;refine CallsIn.mono (h J x (sgW W) vs z y C hs l w v c) ?_;rintro e G ⟨u,K',H',rfl,⟨us,I',seg',s',co,ρ,e1,e2,e3,e4,e5,e6,e7,e8⟩,D⟩;obtain⟨E,F,js,g,d,_,_,n⟩:=ZB3 e6<|ZRL _;cases g;refine⟨u,(List.range o.bs.length).map<|sgW<|Wf ρ I' seg',H',rfl,⟨us,Wf ρ I' seg',λk w e=> ?_,λk w e=> ?_,e1,?_,rfl⟩,?_⟩
 . unfold Wf at e;cases q:ZK ρ k with
   |none=>rw[q]at e;cases e
   |some a=>exact e7 k a q
 . have g:=b k w e;refine⟨(nuO I'<|some k,sgO seg'<|some k),?_,?_⟩
   . unfold Wf;rw[d _ _<|by rw[ZCN,TJ g]];rfl
   . show I'.ν k=w.1;rw[e3 k g,m k w e]
 . rw[<-e2];exact n I' seg' us e4 e5.vu
 . rw[<-e8];exact D
theorem Pg{P:Program}{f:Nat}{i o:Sp}{c:VH (hyS i)->Option (VH<|hyS o)}(h:FnOk P f i o c)(hi:i.bs= [])(g:o.bs= []){I:In}{us:List Value}{cs co:List CV}{z:VH (hyS i)}{y:VH (hyS o)}(j:VRs I cs us)
 (l:mtS s0 i cs [] (λhs ρ js=>some (hs,ρ,js))=some (ofVH (hyS i) z,[],[]))(a:c z=some y)(b:PS.bu s0 [] o (ofVH (hyS o) y) (λus s=>some (us,s))=some (co,s0)):
 Does P f us.toArray [] I.H (λu K' H'=>K'= []/\∃ws J,J.H=H'/\u=Ow.pack ws/\VRs J co ws):=by
 have m:=DP (Rw.zero I λ_=> []) rfl j l;have:=h I.H _ us z y (λk w e=>by unfold Wf at e;cases e) m a;rw[hi]at this;refine this.mono ?_;rintro u K' H' ⟨ws,W,h1,_,h3,n,d⟩;rw[g]at d;obtain⟨J,x,p,q,_,_⟩:=ZDN h1 n b;exact⟨d,ws,J,p,h3,q⟩
def Kf (P:Program)(f:Nat)(S:Spec):Prop:=Enters P f/\FnOk P f S.i S.o S.f
def Kd (P:Program)(f:Nat)(S:Spec):Prop:=Enters P f/\FnOkG (DoesD P f) S.i S.o S.f
abbrev Tb:Type:=List<|Nat×List Spec
abbrev Kt (K:Nat->Spec->Prop)(l:Tb):Prop:=List.rec True (λp _ a=>List.rec a (λS _ i=>K p.1 S/\i) p.2) l
noncomputable abbrev lkT (l:Tb) (f:Nat):List Spec:=(ZK l f).getD []
theorem Kt.get{K:Nat->Spec->Prop}:∀{l:Tb},Kt K l->∀f,∀S∈lkT l f,K f S
  |[],_,f,S,h=>by cases h
  | (g,m) ::l,d,f,S,h=>by
    have split:∀(m:List Spec),(List.rec (motive:=λ_=>Prop) (Kt K l) (λS _ i=>K g S/\i) m)->(∀S∈m,K g S)/\Kt K l:=λm=>by
      induction m with
      |nil=>exact λh=>⟨λS h=>(by cases h),h⟩
      |cons a r c=>exact λh=>⟨λS b=>by
          rcases Ta.1 b with rfl|b
          . exact h.1
          . exact(c h.2).1 S b,(c h.2).2⟩
    obtain⟨h1,h2⟩:=split m d;unfold lkT at h;rw[ZH]at h;split at h
    . rename_i q;have q:g=f:=q;subst q;exact h1 S h
    . exact Kt.get h2 f S h
def entQ (P : Program) (f : Nat) : Bool := match P.funcs[f]? with | some fn => Bool.and (Bool.not fn.body.isNone) (Bool.not<|fn.name == "runtime.NumGoroutine") | none => false
theorem ZDT{P:Program}{f:Nat}(h:entQ P f=true):Enters P f:=by
 unfold entQ at h;split at h
 . rename_i fn a;rw[TD]at h;exact ZQ a (by simpa using h.1)<|by simpa using h.2
 . cases h
def NtL (P:Program)(l:List (Nat×NK)):Prop:=∀f n,ZK l f=some n->NtOk P f n
theorem NtL.nil{P:Program}:NtL P []:=λf n h=>by cases h
theorem NtL.cons{P:Program}{l:List (Nat×NK)}{f:Nat}{n:NK}(h:NtOk P f n)(a:NtL P l):NtL P ((f,n)::l):=λg m e=>by
 rw[ZH]at e;split at e
 . rename_i q;have q:f=g:=q;subst q;cases e;exact h
 . exact a g m e
noncomputable abbrev mkX (P:Program) (ty:List (Nat×Ty)) (nt:List (Nat×NK)) (hb:List Nat) (t d:Tb):Env:=⟨P,ty,lkT t,lkT d,nt,hb⟩
theorem ZNp{P:Program}{ty:List (Nat×Ty)}{nt:List (Nat×NK)}{hb:List Nat}{t d:Tb}(hn:NtL P nt)(ht:Kt (Kf P) t)(a:Kt (Kd P) d):EnvOk (mkX P ty nt hb t d):=⟨λf S h=>ht.get f S h,λf S h=>a.get f S h,λf n h=>hn f n h⟩
theorem FnOkG.of{DO:Array Value->List Own->Heaplet->(Value->List Own->Heaplet->Prop)->Prop}{i o:Sp}{a b:VH (hyS i)->Option (VH<|hyS o)}(h:FnOkG DO i o a)(e:∀x,a x=b x):FnOkG DO i o b:=by
 rw[<-funext e];exact h
theorem kG{P:Program}{f:Nat}{i o:Sp}{a:VH (hyS i)->Option (VH<|hyS o)}(b:entQ P f=true)(h:FnOk P f i o a):Kf P f ⟨i,o,a⟩:=⟨ZDT b,h⟩
section
variable{P:Program}{ty:List (Nat×Ty)}{nt:List (Nat×NK)}{hb:List Nat}{t d:Tb}{Z:Hints}{f:Nat}{S:Spec}
theorem kv (hn:NtL P nt)(t d:Tb)(hb:List Nat)(Z:Hints)(a:entQ P f=true)(ht:Kt (Kf P) t)(h:∀x,fnV (mkX P ty nt hb t d) Z f S.i S.o x=S.f x)(b:Kt (Kd P) d:=by trivial):Kf P f S:=⟨ZDT a,(ZS7<|ZNp hn ht b).of h⟩
theorem kr (hn:NtL P nt)(t d:Tb)(hb:List Nat)(it:List (Nat×List ItSpec))(hI:∀f,∀S∈lkI it f,ItOk P f S)(Z:Hints)(a:entQ P f=true)(ht:Kt (Kf P) t)(h:∀x,fnR (mkX P ty nt hb t d) (lkI it) Z f S.i S.o x=S.f x)(b:Kt (Kd P) d:=by trivial):Kf P f S:=⟨ZDT a,(ZS8 (ZNp hn ht b) hI).of h⟩
theorem kD (hn:NtL P nt)(t d:Tb)(hb:List Nat)(Z:Hints)(a:entQ P f=true)(ht:Kt (Kf P) t)(h:∀x,fnD (mkX P ty nt hb t d) Z f S.i S.o x=S.f x)(b:Kt (Kd P) d:=by trivial):Kf P f S:=⟨ZDT a,(ZS9<|ZNp hn ht b).of h⟩
theorem kw (hn:NtL P nt)(t d:Tb)(hb:List Nat)(Z:Hints)(a:entQ P f=true)(ht:Kt (Kf P) t)(h:∀x,fnV (mkX P ty nt hb t d) Z f S.i S.o x=S.f x)(b:Kt (Kd P) d:=by trivial):Kd P f S:=⟨ZDT a,(ZRP<|ZNp hn ht b).of h⟩
theorem OB{P:Program}:∀f,∀S∈lkI [] f,ItOk P f S:=λf S h=>by cases h
theorem PJ{P:Program}{g:Nat}{S:ItSpec}{l:List (Nat×List ItSpec)}(h:ItOk P g S)(b:∀f,∀S∈lkI l f,ItOk P f S):∀f,∀T∈lkI ((g,[S])::l) f,ItOk P f T:=λf T a=>by
 have e:lkI ((g,[S])::l) f=if g=f then [S]else lkI l f:=by
  show(Bool.rec (lkI l f) [S] (Nat.beq g f):List ItSpec)=_;by_cases q:g=f
  . subst q;rw[TJ rfl,Nat.beq_refl]
  . rw[TK q];cases hb:Nat.beq g f
    . rfl
    . exact absurd (TA hb) q
 rw[e]at a;split at a
 . rename_i q;subst q;rw[Sz]at a;subst a;exact h
 . exact b f T a
end
abbrev argI (H:Heaplet):In:=⟨H,λ_=>(0,.nilIface),0,λ_=>0,0⟩
theorem true_of{u:Value}{K:List Own}{H':Heaplet}(h:K= []/\∃ws J,In.H J=H'/\u=Ow.pack ws/\VRs J [.b true] ws):u=.bool true:=by
 obtain⟨_,ws,J,_,rfl,a⟩:=h;obtain⟨w,ws,rfl,h1,h2⟩:=a.un;cases h2.un0;simp only[VR]at h1;exact h1
theorem Kf.use{P:Program}{f:Nat}{i o:Sp}{c:VH (hyS i)->Option (VH<|hyS o)}(h:Kf P f ⟨i,o,c⟩)(hi:i.bs= [])(d:o.bs= []){I:In}{us:List Value}{cs co:List CV}{z:VH (hyS i)}{y:VH (hyS o)}(e:VRs I cs us)
 (g:mtS s0 i cs [] (λhs ρ js=>some (hs,ρ,js))=some (ofVH (hyS i) z,[],[]))(a:c z=some y)(b:PS.bu s0 [] o (ofVH (hyS o) y) (λus s=>some (us,s))=some (co,s0)):
 Does P f us.toArray [] I.H (λu K' H'=>K'= []/\∃ws J,J.H=H'/\u=Ow.pack ws/\VRs J co ws):=Pg h.2 hi d e g a b
end Go.Pv
namespace Go.Ow
def KN (p:UInt64)(a:UInt64):Option (UInt64×UInt64):=
 some ((((sr64 p (((32:UInt64).toNat:Int)).toNat)*(sr64 a (((32:UInt64).toNat:Int)).toNat))+(sr64 (((sr64 p (((32:UInt64).toNat:Int)).toNat)*(a&&&(4294967295:UInt64)))+(sr64 ((p&&&(4294967295:UInt64))*(a&&&(4294967295:UInt64))) (((32:UInt64).toNat:Int)).toNat)) (((32:UInt64).toNat:Int)).toNat))+(sr64 (((((sr64 p (((32:UInt64).toNat:Int)).toNat)*(a&&&(4294967295:UInt64)))+(sr64 ((p&&&(4294967295:UInt64))*(a&&&(4294967295:UInt64))) (((32:UInt64).toNat:Int)).toNat))&&&(4294967295:UInt64))+((p&&&(4294967295:UInt64))*(sr64 a (((32:UInt64).toNat:Int)).toNat))) (((32:UInt64).toNat:Int)).toNat),p*a)
def Qj (p:UInt64)(a:UInt64):Option (UInt64×UInt64):=
 Option.bind (KN p a) λx=>some (x.1,x.2)
def KU (s:List Int×Int):Option ((List Int×Int) ⊕ (List Int)):=
 cond (decide<|s.2<(s.1.length:Int)) (chk (0<=s.2/\s.2<=(s.1.length:Int)/\(s.1.length:Int)<=s.1.length)<|chk (0<=(0:Int)/\(0:Int)<=s.2/\s.2<=s.1.length)<|cpyO s.1 s.2 (s.1.length:Int) (cut s.1 (0:Int) s.2) λm=>some<|.inl (m,w64<|s.2+(min ((cut s.1 (0:Int) s.2).length:Int)<|(s.1.length:Int)-s.2))) (some<|.inr s.1)
def QX (p:List Int)(b:Int):Option (List Int):=
 cond (decide (b<0)) (none) (Option.bind (Qj (u64i (p.length:Int))<|u64i b) λa=>cond (decide<|(0:UInt64)<a.1) (none)<|cond (decide<|(9223372036854775807:UInt64)<a.2) (none)<|mks (w64 (a.2.toNat:Int)) 0 λx=>cpyO x 0 (x.length:Int) p λm=>Option.bind (loop KU (m,min (p.length:Int)<|(x.length:Int)-0)) λt=>some t)
def Vf (p:List Int):Option (List<|List UInt8):=if(∀n∈p,0<=n)/\(p.map Int.toNat).sum<=LIM/\p.length<=LIM then some (p.map λn=>List.replicate n.toNat 0)else none
def UY:Option Disk:=
 Option.bind (QX ([256]) 256) λa=>Option.bind (Vf a) λx=>some<|Disk.mk x ([]:List Write)
def og_bytes_Clone (p:List UInt8):Option (List UInt8):=app [] p λq=>some q
def QZ (p:Disk)(s:List Write×Nat):Option ((List Write×Nat) ⊕ (List Write)):=
 cond (decide<|((s.2:Nat):Int)<(p.Waits.length:Int)) (idx p.Waits ((s.2:Nat):Int) λy=>Option.bind (og_bytes_Clone y.Data) λx=>app s.1 ([Write.mk y.At x]) λq=>some<|.inl (q,s.2+1)) (some<|.inr s.1)
def Qa (p:Disk)(s:List (List UInt8)×Nat):Option ((List (List UInt8)×Nat) ⊕ (List<|List UInt8)):=
 cond (decide<|((s.2:Nat):Int)<(p.Blocks.length:Int)) (idx p.Blocks ((s.2:Nat):Int) λy=>idx s.1 ((s.2:Nat):Int) λa=>chk (y.length=a.length)<|setI s.1 ((s.2:Nat):Int) y λm=>some<|.inl (m,s.2+1)) (some<|.inr s.1)
def Qb (p:Disk)(s:List Int×Nat):Option ((List Int×Nat) ⊕ (List Int)):=
 cond (decide<|((s.2:Nat):Int)<(p.Blocks.length:Int)) (idx p.Blocks ((s.2:Nat):Int) λy=>app s.1 ([(y.length:Int)]) λq=>some<|.inl (q,s.2+1)) (some<|.inr s.1)
def XD (p:Disk):Option Disk:=
 Option.bind (loop (Qb p) (([]:List Int),0)) λb=>Option.bind (Vf b) λx=>Option.bind (loop (Qa p) (x,0)) λt=>Option.bind (loop (QZ p) (([]:List Write),0)) λa=>some<|Disk.mk t a
def Ku (p:Int):Option Bool:=
 some (decide<|(u64i p)<(256:UInt64))
def BZ (p:Disk)(s:Bool×Nat):Option ((Bool×Nat) ⊕ Bool):=
 cond (decide<|((s.2:Nat):Int)<(p.Waits.length:Int)) (idx p.Waits ((s.2:Nat):Int) λy=>cond s.1 (Option.bind (Ku y.At) λx=>cond x (some<|.inl (decide<|(y.Data.length:Int)=256,s.2+1))<|some<|.inl (false,s.2+1))<|some<|.inl (false,s.2+1)) (some<|.inr s.1)
def Ba (p:Disk)(s:Bool×Nat):Option ((Bool×Nat) ⊕ Bool):=
 cond (decide<|((s.2:Nat):Int)<(p.Blocks.length:Int)) (idx p.Blocks ((s.2:Nat):Int) λy=>cond s.1 (some<|.inl (decide<|(y.length:Int)=256,s.2+1))<|some<|.inl (false,s.2+1)) (some<|.inr s.1)
def Gu (p:Disk):Option Int:=
 Option.bind (cond (decide<|(p.Blocks.length:Int)=256) (some<|decide<|(p.Waits.length:Int)<=4096)<|some false) λa=>Option.bind (loop (Ba p) (a,0)) λb=>Option.bind (loop (BZ p) (b,0)) λt=>cond t (some 0)<|some 8
def og_slices_Clone_byte_L (p:List (List UInt8)):Option (List<|List UInt8):=app [] p λq=>some q
def ZBx (p:Int):Option Bool:=
 some true
def KD (p:Disk)(s:(List (Int×Write))×Nat):Option (((List (Int×Write))×Nat) ⊕ (List (Int×Write))):=
 cond (decide<|((s.2:Nat):Int)<(p.Waits.length:Int)) (idx p.Waits ((s.2:Nat):Int) λy=>Option.bind (ZBx ((s.2:Nat):Int)) λx=>cond x (some<|.inl ((putM s.1 y.At y),s.2+1))<|some<|.inl (s.1,s.2+1)) (some<|.inr s.1)
def Kv (p:Disk):Option (List (Int×Write)):=
 Option.bind (loop (KD p) (([]:List (Int×Write)),0)) λt=>some t
def QY (p:Disk):Option Disk:=
 Option.bind (og_slices_Clone_byte_L p.Blocks) λx=>Option.bind (Kv<|Disk.mk x p.Waits) λa=>layR (λy:Write=>y.Data) x a λm=>Option.bind (XD<|Disk.mk m ([]:List Write)) λb=>some b
def og_bytes_Repeat_l1 (x:UInt64×UInt64)(t:Int)(s:List UInt8×Int):Option ((List UInt8×Int) ⊕ (List UInt8)):=
 cond (decide<|s.2<(w64 (x.2.toNat:Int))) (chk (0<=s.2/\s.2<=(s.1.length:Int)/\(s.1.length:Int)<=s.1.length)<|chk (0<=(0:Int)/\(0:Int)<=min s.2 t/\min s.2 t<=s.1.length)<|cpyO s.1 s.2 (s.1.length:Int) (cut s.1 (0:Int)<|min s.2 t) λm=>some<|.inl (m,w64<|s.2+(min ((cut s.1 (0:Int)<|min s.2 t).length:Int)<|(s.1.length:Int)-s.2))) (some<|.inr s.1)
def X5 (p:List UInt8)(a:Int):Option (List UInt8):=
 cond (decide (a=0)) (some ([]:List UInt8)) (cond (decide (a<0)) (none)<|Option.bind (Qj (u64i (p.length:Int))<|u64i a) λx=>cond (decide<|(0:UInt64)<x.1) (none)<|cond (decide<|(9223372036854775807:UInt64)<x.2) (none)<|cond (decide<|(p.length:Int)=0) (some ([]:List UInt8))<|Option.bind (cond (decide<|8192<(w64 (x.2.toNat:Int))) (chk ((p.length:Int)≠0)<|cond (decide<|(w64<|(w64<|(8192:Int).tdiv (p.length:Int))*(p.length:Int))=0) (some (p.length:Int)) (some<|w64<|(w64<|(8192:Int).tdiv (p.length:Int))*(p.length:Int)))<|some<|w64 (x.2.toNat:Int)) λt=>mks (w64 (x.2.toNat:Int)) (0:UInt8) λn=>slc n 0 (w64 (x.2.toNat:Int)) λm=>cpyO m 0 (m.length:Int) p λb=>Option.bind (loop (og_bytes_Repeat_l1 x t) (b,min (p.length:Int)<|(m.length:Int)-0)) λc=>some c)
def Yg (p:Int):Option (List UInt8):=
 cond (decide (p<0)) (none) (Option.bind (cond (decide<|0<(w64 (p-0))) (mks (w64 (p-0)) (0:UInt8) λq=>slc q 0 0 λm=>some m)<|some ([]:List UInt8)) λt=>some t)
def Ys (p:Int):Option (List Ptr):=
 cond (decide (p<0)) (none) (Option.bind (cond (decide<|0<(w64 (p-0))) (mks (w64 (p-0)) (Ptr.mk 0 (0:UInt32) (0:UInt32) (0:UInt32) (0:UInt32)) λq=>slc q 0 0 λm=>some m)<|some ([]:List Ptr)) λt=>some t)
def sortL{α:Type} [Inhabited α](cf:α->α->Int)(l:List α):List α:=(Sort.pdq (λx y=>decide<|cf x y<0) l.toArray 0 l.length (Lib.bitLen l.length) true true).toList
end Go.Ow
