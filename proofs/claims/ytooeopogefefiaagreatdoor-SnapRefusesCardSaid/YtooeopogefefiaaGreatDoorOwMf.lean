import Derived.Test.YtooeopogefefiaaGreatDoorOwMe
import Derived.Test.YtooeopogefefiaaGreatDoorOwMa
import Derived.KernelRfl
import Derived.Test.YtooeopogefefiaaGreatDoorOwMc
import Derived.Sort.Defs
import Derived.Lib.BitFns
/-
  What is proved here: functions whose body ranges over functions do in the machine what they do on such states.
-/
set_option linter.constructorNameAsVariable false
set_option linter.unusedSimpArgs false
set_option linter.unusedVariables false
namespace Go.Pv
open Go Go.Ow Go.RowKit
section
variable{β:Type}{r:β}{x x':Cx}{X:Env}{Z:Hints}{it:Nat->List ItSpec}{s s':PS}{I I':In}{seg seg':Nat->Own}{l l':Slots}{own own':List Own}{H H':Heaplet}
variable{Q:Exit->Act->World->Prop}
theorem ZMB{cs:List CV}{k:(S:ItSpec)->Rn (VH (hyS ⟨S.y,[]⟩))->List Nat->Option β}:∀{L:List ItSpec},itG s cs k L=some r->∃S∈L,∃ρ z,InjR ρ/\(∀i a,ZG ρ i=some (some a)->a<s.n)/\(∀i a,ZG ρ i=some a->i<S.i.bs.length)/\k S (S.R z) (B6 ρ)=some r/\
    ∀(I:In) (seg:Nat->Own) (vs:List Value),Rw s [] I seg->VUs I cs vs->TellsS I.H (Wf ρ I seg) S.i (ofVH (hyS S.i) z) vs
  |[],h=>by cases h
  | S ::L,h=>by
    replace h:=show Option.rec (motive:=λ_=>Option β) (itG s cs k L) (λq=>toVH (hyS S.i) q.1 λz=>k S (S.R z) (B6 q.2)) (mtS s S.i cs [] λhs ρ js=>match js with|[]=>bb (allB (λp=>Nat.blt p.1 S.i.bs.length) ρ) (some (hs,ρ)) none|_=>none)=some r from h;cases d:(mtS s S.i cs [] λhs ρ js=>match js with|[]=>bb (allB (λp=>Nat.blt p.1 S.i.bs.length) ρ) (some (hs,ρ)) none|_=>none)with
    | none=>
      rw[d]at h;obtain⟨g,h1,h2⟩:=ZMB (show itG s cs k L=some r from h)
      exact⟨g,Sl _ h1,h2⟩
    | some q=>
      rw[d]at h;obtain⟨hs,ρ,js,c,_,b,f,l⟩:=ZCn d (λi j a e1 e2=>by cases e1);cases js with
      |cons=>cases c
      | nil=>
        obtain⟨m,c⟩:=ZA (show bb (allB (λp=>Nat.blt p.1 S.i.bs.length) ρ) (some (hs,ρ)) none=some q from c)
        cases c;obtain⟨z,e,o⟩:=UX (show toVH (hyS S.i) hs (λz=>k S (S.R z) (B6 ρ))=some r from h)
        clear h;subst e;exact⟨S,by simp,ρ,z,b,λi a e=>(f i a e).2,λi a e=>by simpa using ZW.1 m _ (UN e),o,l⟩
theorem RS.left (hs:RS x s I seg l own H)(D:Nat):
 RS x ⟨s.N,s.l,s.o,s.z,s.n+1,s.f,s.c,(s.n,.junk)::s.r⟩ {I with ν:=upN I.ν s.n (0,.int .u64 D),n:=s.n+1} (upN seg s.n [(D,.deferred (some []))]) l (own++ [[(D,.deferred (some []))]]) H/\I.Le {I with ν:=upN I.ν s.n (0,.int .u64 D),n:=s.n+1}:=by
 have b:I.Le {I with ν:=upN I.ν s.n (0,.int .u64 D),n:=s.n+1}:=⟨R1 _,by show I.n<=s.n+1;rw[hs.n];omega,λk g=>ZY (by rw[hs.n]at g;omega),TL _,λ_ _=>rfl⟩;refine⟨⟨hs.N,hs.H,rfl,hs.q,?_,λt c e=> ?_,λa k e=> ?_,λa o c e=> ?_,hs.fx,λk c e=> ?_,λk c e=> ?_,λk c j d e e2=> ?_⟩,b⟩
 . rw[hs.own,List.range_succ,Su];congr 1
   . exact Sx λa i=>(ZY (St (SE.1 i))).symm
   . show _= [upN seg s.n _ s.n];rw[Ze]
 . exact(hs.sl t c e).imp id fun⟨v,h1,h2⟩=>⟨v,h1,h2.mono b⟩
 . obtain⟨h1,h2⟩:=hs.ze a k e;refine⟨Sc h1,?_⟩;rw[ZY (St h1)];show∃cur T,seg a= [((upN I.ν s.n _ a).1,_)]/\_;rw[ZY (St h1)];exact h2
 . refine(hs.ce a o c e).imp id fun⟨h1,cur,T,v,h2,h3,p⟩=>⟨Sc h1,cur,T,v,?_,h3,p.mono b⟩;rw[ZY (St h1)];show seg a= [((upN I.ν s.n _ a).1,_)];rw[ZY (St h1)];exact h2
 . change ZG ((s.n,RC.junk)::s.r) k=some c at e;rw[ZE]at e;split at e
   . rename_i q;cases e;have q:s.n=k:=q;subst q;refine .inr ⟨SN _,?_⟩;rw[Ze];show _= [(dN (upN I.ν s.n (0,Value.int .u64 D) s.n).2,_)];rw[Ze];rfl
   . refine(hs.rw k c e).imp id fun⟨h1,h2⟩=>⟨Sc h1,?_⟩;rw[ZY (St h1)];show RwOk I.H (upN I.ν s.n _ k).2 _ _;rw[ZY (St h1)];exact h2
 . change ZG ((s.n,RC.junk)::s.r) k=some c at e;rw[ZE]at e;split at e
   . rename_i q
     right;show ZG s.z k=none;cases h:ZG s.z k with
     |none=>rfl
     |some m=>have:=(hs.ze k m h).1;have q:s.n=k:=q;omega
   . exact hs.rz k c e
 . change ZG ((s.n,RC.junk)::s.r) k=some c at e;rw[ZE]at e;split at e
   . rename_i q
     right;exact(hs.ce k j d e2).resolve_right fun⟨h,_⟩=>by have q:s.n=k:=q;omega
   . exact hs.ro k c j d e e2
def XX (I:In)(J:List Nat):List Deferred:=J.map λj=>Go.Ow.mark (dN (I.ν j).2)
theorem ZHT (h:I.Le I'){J:List Nat}(a:∀j∈J,j<I.n):XX I' J=XX I J:=Sx λj b=>by rw[h.ν j (a j b)]
def KcR (x:Cx)(Q:Exit->Act->World->Prop)(I:In)(k:List Nat->Ex->PS->Option β)(r:β):Prop:=
 ∀J e s' I' seg' l' own' H',I.Le I'->k J e s'=some r->(∀j∈J,j<s'.n)->RS x s' I' seg' l' own' H'->JN {x with ds:=XX I' J} (Q (exX e)) l' own' H'
theorem KcR.ext{k:List Nat->Ex->PS->Option β}(h:KcR x Q I k r)(e:I.Le I'):KcR x Q I' k r:=λJ a t I' seg' l' own' H' h1 b c hs=>h J a t I' seg' l' own' H' (e.trans h1) b c hs
theorem ZGf (m:EnvOk X)(o:x.P=X.P){c:Code}{J:List Nat}{k:List Nat->Ex->PS->Option β}(hs:RS x s I seg l own H)(g:∀j∈J,j<s.n)(h:code X Z c β s (k J)=some r)(p:KcR x Q I k r):JC {x with ds:=XX I J} c Q l own H:=
 ZED (x:={x with ds:=XX I J}) m o h (hs.cx rfl) λe s' I' seg' l' own' H' a b d=>by
  have:=p J e s' I' seg' l' own' H' a.i b (λj f=>Tn (g j f) a.e.n) (d.cx rfl);rwa[ZHT a.i (λj f=>by rw[hs.n];exact g j f)]at this
theorem ZRn (G:EnvOk X)(hI:∀f,∀S∈it f,ItOk X.P f S)(K:x.P=X.P)(V:x.r=none):∀{c:Code} {β:Type} {r:β} {J:List Nat} {s:PS} {k:List Nat->Ex->PS->Option β} {I:In} {seg:Nat->Own} {l:Slots} {own:List Own} {H:Heaplet},codeR X it Z c β J s k=some r->RS x s I seg l own H->(∀j∈J,j<s.n)->∀{Q:Exit->Act->World->Prop},KcR x Q I k r->JC {x with ds:=XX I J} c Q l own H:=by
  intro c;induction c with
  |skip=>intro β r J s k I seg l own H h hs q Q i;exact JC.skip (i J .norm s I seg l own H (In.Le.refl _) h q hs)
  |ret=>intro β r J s k I seg l own H h hs q Q i;exact ZIU (i J .ret s I seg l own H (In.Le.refl _) h q hs)
  |exit id=>intro β r J s k I seg l own H h hs q Q i;exact ZEV (i J (.exit id) s I seg l own H (In.Le.refl _) h q hs)
  |region id ops dr=>intro β r J s k I seg l own H h hs q Q i;exact ZGf G K hs q h i
  |cond o a b C E=>intro β r J s k I seg l own H h hs q Q i;exact ZGf G K hs q h i
  |loop b U=>intro β r J s k I seg l own H h hs q Q i;exact ZGf G K hs q h i
  | seq a b C E=>
    intro β r J s k I seg l own H h hs q Q i;have h:codeR X it Z a β J s (λJ e s'=>match e with| .norm=>codeR X it Z b β J s' k|e=>k J e s')=some r:=h;refine ZK6 (C h hs q (λy e s' I' seg' l' own' H' A d t p=> ?_));cases e with
    |norm=>exact J8 (E d p t (i.ext A))
    |exit id=>exact ZA1 (i y (.exit id) s' I' seg' l' own' H' A d t p)
    |ret=>exact ZA2 (i y .ret s' I' seg' l' own' H' A d t p)
  | block id b U=>
    intro β r J s k I seg l own H h hs q Q i;have h:(Bool.rec (code X Z (.block id b) β s (k J)) (codeR X it Z b β J s λJ e s'=>match e with| .exit j=>Bool.rec (k J e s') (k J .norm s') (Nat.beq j id)|e=>k J e s') (hasR b):Option β)=some r:=h;cases hb:hasR b with
    |false=>rw[hb]at h;exact ZGf G K hs q h i
    | true=>
      rw[hb]at h;refine JC.block (U (show codeR X it Z b β J s (λJ e s'=>match e with| .exit j=>Bool.rec (k J e s') (k J .norm s') (Nat.beq j id)|e=>k J e s')=some r from h) hs q (λy e s' I' seg' l' own' H' A d t p=> ?_));cases e with
      |norm=>exact DD (i y .norm s' I' seg' l' own' H' A d t p)
      |ret=>exact ZK3 (i y .ret s' I' seg' l' own' H' A d t p)
      | exit j=>
        have d:(Bool.rec (k y (.exit j) s') (k y .norm s') (Nat.beq j id):Option β)=some r:=d;cases u:Nat.beq j id with
        | true=>
          rw[u]at d;cases TB u;exact J9 (i y .norm s' I' seg' l' own' H' A d t p)
        | false=>
          rw[u]at d;exact DC u (i y (.exit j) s' I' seg' l' own' H' A d t p)
  | rangeFunc g ps a b C E=>
    intro β r J s k I seg l own H h hs q Q i;replace h:=show ev s g (λv=>match v with
      | .clo f [] m=>itG s m (λS l bs=>oB (ZG Z.lp (keyR b)) λL=>rngAt X Z s ps.toList a b (L.at s) S l bs λe s=>s.left λj s=>k (j::J) e s) (it f)
      |_=>none)=some r from h
    obtain⟨c,v,e1,e2,h⟩:=ZT hs h;split at h
    . rename_i f m;simp only[VR]at e2;obtain⟨us,ws,rfl,W,Y⟩:=e2;cases W.un0;obtain⟨S,hS,ρ,z,M,R,O,h,hT⟩:=ZMB h;obtain⟨L,hLp,h⟩:=ZU h;refine ZUd (x:={x with ds:=XX I J}) G K V (hs.cx rfl) e1 (hI f S hS) (hT I seg ws (Rw.of (JS:=[]) hs) Y.vu) M R O h (λD e s' I' seg' own' H' F d p=> ?_);obtain⟨T,B⟩:=(p.cx (x':=x) rfl).left D;have hn:I.n<=s'.n:=(by have:=F.n;rw[p.n]at this;exact this);have:=i (s'.n::J) e _ _ _ _ _ _ (F.trans B) (show k (s'.n::J) e ⟨s'.N,s'.l,s'.o,s'.z,s'.n+1,s'.f,s'.c,(s'.n,.junk)::s'.r⟩=some r from d) (λj u=>by
        rcases Ta.1 u with rfl|u
        . exact SN _
        . have:=q j u;rw[<-hs.n]at this;show j<s'.n+1;omega) T
      have hm:XX {I' with ν:=upN I'.ν s'.n (0,.int .u64 D),n:=s'.n+1} (s'.n::J)=Go.Ow.mark D::XX I J:=by
        show Go.Ow.mark (dN (upN I'.ν s'.n (0,Value.int .u64 D) s'.n).2)::XX {I' with ν:=upN I'.ν s'.n (0,.int .u64 D),n:=s'.n+1} J=_;rw[Ze,ZHT (F.trans B) (λj u=>by rw[hs.n];exact q j u)];rfl
      rw[hm]at this;exact λa w hh=>this a w (Go.Pv.hperm hh (by simp only[Td,Ti,Rj,Tt];exact Ts))
    . cases h
  |_=>intro β r J s k I seg l own H h;cases h
theorem ZMC{j:Nat}(h:ZHq s j=true):ZG s.r j=some .junk:=by
 unfold ZHq at h;split at h
 . assumption
 . cases h
theorem ZUz (hX:EnvOk X)(hI:∀f,∀S∈it f,ItOk X.P f S){f:Nat}{i o:Sp}:FnOk X.P f i o (fnR X it Z f i o):=by
  intro H W vs z y T hT h;obtain⟨fn,hf,h⟩:=ZU (show oB X.P.funcs[f]? (λfn=>oB fn.body λc=>PS.bu ⟨fn.ntmps,[],[],[],0,[],0,[]⟩ [] i (ofVH (hyS i) z) λus s=>QD (argsL us 0) λl=>bb (Nat.ble l.length fn.ntmps) (codeR X it Z c (VH (hyS o)) [] ⟨s.N,l,s.o,s.z,s.n,s.f,s.c,s.r⟩ λJ e s=>match e with
    | .exit _=>none
    |_=>bb (Bool.and (ZCl J) (allB (ZHq s) J)) (s.away J λs=>JO Z.pb s λs=>mvJ Z.mv s λs=>oB (Gk X.P s fn.results.toList some) λl=>mtS s o l (idR i.bs.length) λhs ρ js=>bb (allB (λp=>Nat.blt p.1 o.bs.length) ρ) (toVH (hyS o) hs some) none) none) none)=some y from h)
  obtain⟨c,hc,h⟩:=ZU h;obtain⟨hok,cs,I,c1,U,V,Y,D,hLi,hBi,h⟩:=J6 h;rw[XS]at h;obtain⟨hn,h⟩:=ZA h;have hlen:∀(cs:List CV) (k:Nat),(argsL cs k).length=cs.length:=λcs=>by
    induction cs with
    |nil=>intro k;rfl
    |cons a cs ih=>intro k;show(argsL cs (k+1)).length+1=_;rw[ih];rfl
  rw[hlen]at hn;let s0:PS:=⟨fn.ntmps,[],[],[],0,[],0,[]⟩;let J:In:={H:=H,ν:=λa=>match W a with|some w=>w.1|none=>(0,.nilIface),n:=0+i.bs.length,κ:=λc=>(cnt (ofVH (hyS i) z))[c]?.getD 0,q:=0+(cnt (ofVH (hyS i) z)).length};have hC:Cnt J 0 (cnt (ofVH (hyS i) z)):=λm j e=>by
    have Q:=(TD.1 e).1;refine⟨by show 0+m<0+_;omega,?_⟩;show(cnt (ofVH (hyS i) z))[0+m]?.getD 0=j;rw[Tf,e];rfl
  have hsg:∀k,sg ([]:Rho) 0 k=k:=λk=>Tf k;have hW4:∀k w,W k=some w->sg ([]:Rho) 0 k<J.n/\J.ν (sg ([]:Rho) 0 k)=w.1/\sgW W (sg ([]:Rho) 0 k)=w.2:=λk w e=>by
    rw[hsg];refine⟨by show k<0+i.bs.length;have:=T k w e;omega,?_,?_⟩
    . show(match W k with|some w=>w.1|none=>_)=_;rw[e]
    . unfold sgW;rw[e]
  have base:∀(x:Cx) (l:Slots),x.n=fn.ntmps->RS x s0 ⟨H,λ_=>(0,.nilIface),0,λ_=>0,0⟩ (λ_=> []) l [] H:=λx l hx=>
    ⟨hx.symm,rfl,rfl,rfl,rfl,λt c e=>(by cases e),λa m e=>(by cases e),λa o c e=>(by cases e),λc hc=>(by cases hc),λk c e=>(by cases e),λk c e=>(by cases e),λk c o d e=>(by cases e)⟩
  have entry:∀(x:Cx) (l:Slots),x.n=fn.ntmps->VRs J cs vs/\RS x (buS s0 i V Y (U++D)) J (sgW W) l ((List.range J.n).map (sgW W)) H:=λx l hx=>
    RS.bu (J:=J) (seg2:=sgW W) (base x l hx) hT hok hLi hBi (λi a e=>by cases e) (λi j a e=>by cases e) rfl rfl rfl (λa ha=>absurd ha (Tl _)) (λc hc=>absurd hc (Tl _)) hC hW4 (λa ha=>absurd ha (Tl _)) (λp hp Q=>absurd Q (Tl _)) (λp hp Q=>absurd Q (Tl _))
  have hJn:J.n=i.bs.length:=Tf _;have hvs:=(entry {P:=X.P,r:=none,n:=fn.ntmps,w0:=default,H0:=H,S:=[],ds:=[]} [] rfl).1;rw[hvs.length]at hn;refine P5 (l:=(List.range' 0 vs.length).zip vs) hf hc hn (sub_self λp hp=>(ZJq vs 0 p hp).2) (λw _=> ?_);obtain⟨_,C⟩:=entry {P:=X.P,r:=none,n:=fn.ntmps,w0:=w,H0:=H,S:=ids ((List.range i.bs.length).map (sgW W)).flatten,ds:=[]} ((List.range' 0 vs.length).zip vs) rfl;rw[hJn]at C;have hs1:RS {P:=X.P,r:=none,n:=fn.ntmps,w0:=w,H0:=H,S:=ids ((List.range i.bs.length).map (sgW W)).flatten,ds:=[]} ⟨(buS s0 i V Y (U++D)).N,argsL cs 0,(buS s0 i V Y (U++D)).o,(buS s0 i V Y (U++D)).z,(buS s0 i V Y (U++D)).n,(buS s0 i V Y (U++D)).f,(buS s0 i V Y (U++D)).c,(buS s0 i V Y (U++D)).r⟩ J (sgW W) ((List.range' 0 vs.length).zip vs) ((List.range i.bs.length).map (sgW W)) H:=
    ⟨C.N,C.H,C.n,C.q,C.own,λt c e=>.inr (ZEP hvs e),C.ze,C.ce,C.fx,C.rw,C.rz,C.ro⟩
  refine ZRn (x:={P:=X.P,r:=none,n:=fn.ntmps,w0:=w,H0:=H,S:=ids ((List.range i.bs.length).map (sgW W)).flatten,ds:=[]}) hX hI rfl rfl h hs1 (λj hj=>by cases hj) ?_;intro v e s9 I' A l' own9 H' he hk hJJ R;have fin:∀{ex:Exit},ex=.ret\/ex=.normal->bb (Bool.and (ZCl v) (allB (ZHq s9) v)) (s9.away v λs'=>JO Z.pb s' λs'=>mvJ Z.mv s' λs'=>oB (Gk X.P s' fn.results.toList some) λl=>mtS s' o l (idR i.bs.length) λhs ρ js=>bb (allB (λp=>Nat.blt p.1 o.bs.length) ρ) (toVH (hyS o) hs some) none) none=some y->
      JN {P:=X.P,r:=none,n:=fn.ntmps,w0:=w,H0:=H,S:=ids ((List.range i.bs.length).map (sgW W)).flatten,ds:=XX I' v} (RetM {P:=X.P,r:=none,n:=fn.ntmps,w0:=w,H0:=H,S:=ids ((List.range i.bs.length).map (sgW W)).flatten,ds:=[]} fn (λu K' H'=>∃us F,(∀k w,F k=some w->k<o.bs.length)/\(∀k w,W k=some w->∃w',F k=some w'/\w'.1=w.1)/\u=Ow.pack us/\TellsS H' F o (ofVH (hyS o) y) us/\K'=(List.range o.bs.length).map (sgW F)) ex) l' own9 H':=by
    intro ex hex hr;obtain⟨hck,hr⟩:=ZA hr;simp only[TE]at hck;have hnd:=Jf hck.1;have hjk:∀j∈v,A j= [(dN (I'.ν j).2,.deferred (some []))]:=λj hj=>by
      rcases R.rw j _ (ZMC (ZW.1 hck.2 j hj))with h|⟨_,h⟩
      . cases h
      . exact h
    rw[ZOw]at hr;have I:=R.away v;obtain⟨s',hs'e⟩:∃s',s'=awS s9 v:=⟨_,rfl⟩;rw[<-hs'e]at hr I;obtain⟨seg',hseg'⟩:∃seg',seg'=clr v A:=⟨_,rfl⟩;obtain⟨own',L⟩:∃own',own'=(List.range s9.n).map (clr v A):=⟨_,rfl⟩;rw[<-L,<-hseg']at I;let Ds:List Nat:=v.map λj=>dN (I'.ν j).2;have hmk:ZEp Ds=(List.range v.length).map (λi=>match v[i]? with|some a=>A a|none=> []):=by
      show(v.map λj=>dN (I'.ν j).2).map _=_;rw[RU];refine Tp λi=> ?_;rw[Sb,Sb];by_cases hi:i<v.length
      . rw[Rm hi,TO hi];show some [(dN (I'.ν v[i]).2,Obj.deferred (some []))]=some (match v[i]? with|some a=>A a|none=> []);rw[TO hi];show _=some (A v[i]);rw[hjk _ (Sv hi)]
      . rw[T7 (by omega),T7 (by simp;omega)];rfl
    obtain⟨RR,hpp⟩:=ZJk s9.n v.length A v (λi=>v[i]?) (λi=>match v[i]? with|some a=>A a|none=> []) (λi j a h1 h2 e1 e2=>by
        obtain⟨g1,g2⟩:=TD.1 e1;obtain⟨g3,g4⟩:=TD.1 e2;exact(List.getElem_inj hnd).1 (g2.trans g4.symm)) (λi a h1 e=>⟨TW e,hJJ a (TW e)⟩) (λi _=>rfl)
    rw[<-R.own,<-L,<-hmk]at hpp
    suffices hsuf:JN {P:=X.P,r:=none,n:=fn.ntmps,w0:=w,H0:=H,S:=ids ((List.range i.bs.length).map (sgW W)).flatten,ds:=XX I' v} (RetM {P:=X.P,r:=none,n:=fn.ntmps,w0:=w,H0:=H,S:=ids ((List.range i.bs.length).map (sgW W)).flatten,ds:=[]} fn (λu K' H'=>∃us F,(∀k w,F k=some w->k<o.bs.length)/\(∀k w,W k=some w->∃w',F k=some w'/\w'.1=w.1)/\u=Ow.pack us/\TellsS H' F o (ofVH (hyS o) y) us/\K'=(List.range o.bs.length).map (sgW F)) ex) l' (own'++ZEp Ds) H' from λa w hh=>hsuf a w (ZJR hh hpp)
    have I:RS {P:=X.P,r:=none,n:=fn.ntmps,w0:=w,H0:=H,S:=ids ((List.range i.bs.length).map (sgW W)).flatten,ds:=XX I' v} s' I' seg' l' own' H':=I.cx rfl;have hnn:i.bs.length<=s'.n:=by
      rw[hs'e];show i.bs.length<=s9.n;have h1:=he.n;rw[R.n,hJn]at h1;exact h1
    have inner:∀(O:In) (G:Nat->Own) (E:List Own) (H1:Heaplet) (s1:PS),(∀k,k<i.bs.length->O.ν k=I'.ν k)->RS {P:=X.P,r:=none,n:=fn.ntmps,w0:=w,H0:=H,S:=ids ((List.range i.bs.length).map (sgW W)).flatten,ds:=XX I' v} s1 O G l' E H1->oB (Gk X.P s1 fn.results.toList some) (λl=>mtS s1 o l (idR i.bs.length) λhs ρ js=>bb (allB (λp=>Nat.blt p.1 o.bs.length) ρ) (toVH (hyS o) hs some) none)=some y->
        JN {P:=X.P,r:=none,n:=fn.ntmps,w0:=w,H0:=H,S:=ids ((List.range i.bs.length).map (sgW W)).flatten,ds:=XX I' v} (RetM {P:=X.P,r:=none,n:=fn.ntmps,w0:=w,H0:=H,S:=ids ((List.range i.bs.length).map (sgW W)).flatten,ds:=[]} fn (λu K' H'=>∃us F,(∀k w,F k=some w->k<o.bs.length)/\(∀k w,W k=some w->∃w',F k=some w'/\w'.1=w.1)/\u=Ow.pack us/\TellsS H' F o (ofVH (hyS o) y) us/\K'=(List.range o.bs.length).map (sgW F)) ex) l' (E++ZEp Ds) H1:=by
      intro O G E H1 s1 hν hs1' hr;obtain⟨cs2,hr1,hm⟩:=ZU hr;obtain⟨hv,ρ,js,hm,hsub,hinj,hρ,hT2⟩:=ZCn hm (λi j a e1 e2=>by
        rw[ZC4]at e1 e2;split at e1
        . split at e2
          . have e1:=TJ (TJ e1);have e2:=TJ (TJ e2);omega
          . cases e2
        . cases e1)
      obtain⟨hdm,hm⟩:=ZA hm;have hdm:∀k a,ZG ρ k=some a->k<o.bs.length:=λk a e=>(by simpa using ZW.1 hdm _ (UN e));obtain⟨y',ey,hm2⟩:=UX hm;cases hm2;subst ey;have hin:∀k,k<i.bs.length->ZG ρ k=some (some k):=λk hk=>hsub _ _ (by rw[ZC4,TG hk]);refine Uj (js:=js) hs1' (λseg2 own2 H2 g2 M=> ?_);obtain⟨cs3,us,f1,f2,f3⟩:=ZDY (x:={P:=X.P,r:=none,n:=fn.ntmps,w0:=w,H0:=H,S:=ids ((List.range i.bs.length).map (sgW W)).flatten,ds:=XX I' v}) rfl M (by rw[ZJE (Y6 js s1)];exact hr1);cases f3;have hTS:=hT2 {O with H:=H2} seg2 us (Rw.of M) f2.vu;have hWd:∀k w,Wf ρ {O with H:=H2} seg2 k=some w->k<o.bs.length:=λk w e=>by
        unfold Wf at e;cases e2:ZG ρ k with
        |none=>rw[e2]at e;cases e
        |some a=>exact hdm k a e2
      obtain ⟨Rx,_,hp⟩:=ZA6 (g:=seg2) (K:=List.range (pubS js s1).n) (N:=o.bs.length) (seg:=sgW (Wf ρ {O with H:=H2} seg2)) (λk=>(ZG ρ k).bind id)
        (λa b i' _ _ e1 e2=>by
          cases h1:ZG ρ a with
          |none=>rw[h1]at e1;cases e1
          | some o1=>cases h2:ZG ρ b with
            |none=>rw[h2]at e2;cases e2
            | some o2=>
              rw[h1]at e1;rw[h2]at e2;have e1:o1=some i':=e1;have e2:o2=some i':=e2;subst e1 e2;exact hinj _ _ _ h1 h2)
        (λa i' _ e=>by
          cases h1:ZG ρ a with
          |none=>rw[h1]at e;cases e
          |some o=>rw[h1]at e;have e:o=some i':=e;subst e;rw[SE,(Y6 js s1).n];exact(hρ _ _ h1).2)
        (λk _=>by
          unfold sgW Wf;cases ZG ρ k with
          |none=>rfl
          |some a=>cases a<;>rfl)
      refine ZR8 (K:=(List.range o.bs.length).map (sgW (Wf ρ {O with H:=H2} seg2))) (rst:=Rx.map seg2) Ds hex ⟨rfl,rfl,rfl,rfl⟩ (by show XX I' v=(v.map λj=>dN (I'.ν j).2).map _;rw[RU];rfl) (by simp) (by rw[Ti];exact Ts) f1 (by rw[M.own];exact hp) ⟨us,_,hWd,λk w e=> ?_,rfl,hTS,rfl⟩;have hk:=T k w e;refine⟨_,Wf_of (hin k hk),?_⟩;show O.ν k=w.1;rw[hν k hk,he.ν k (by show k<0+i.bs.length;omega)];show(match W k with|some w=>w.1|none=>_)=_;rw[e]
    rw[WG]at hr;refine Uj (js:=Z.pb) I (λseg2 own2 H2 g2 M=> ?_);exact ZGc (B:=i.bs.length) M (by rw[(Y6 Z.pb s').n];exact hnn) hr (λs1 O G E h1 h2 h3=>inner O G E H2 s1 h1 h2 h3)
  cases e with
  |norm=>exact fin (.inr rfl) hk
  |ret=>exact fin (.inl rfl) hk
  |exit id=>cases hk
end
noncomputable section
def lastD (l:List Oper):Option (List Oper×Operand):=List.rec none (λo r i=>match r with
 |[]=>(match o with|⟨none,.defer ⟨.value p,⟨[]⟩,⟨[]⟩⟩,_,_,_,none⟩=>some ([],p)|_=>none)
 |_::_=>Option.rec none (λq=>some (o::q.1,q.2)) i) l
abbrev Wd:=Option (Nat×List CV)
def codeD (X:Env)(Z:Hints)(c:Code):(β:Type)->PS->(Wd->Ex->PS->Option β)->Option β:=Code.rec (motive:=λ_=>(β:Type)->PS->(Wd->Ex->PS->Option β)->Option β)
 (λβ s k=>k none .norm s)
 (λid ops dr β s k=>Bool.rec (match lastD ops.toList with
  |some (l,p)=>pops X ops.toList l s λs=>ev s p λv=>(match v with| .clo f [] m=>k (some (f,m)) .norm s|_=>none)
  |none=>code X Z (.region id ops false) β s (k none)) (code X Z (.region id ops true) β s (k none)) dr)
 (λa b i d β s k=>i β s λv e s'=>match e with| .norm=>(match v with|none=>d β s' k|some q=>code X Z b β s' (k (some q)))|e=>k v e s')
 (λc a b _ _ β s k=>code X Z (.cond c a b) β s (k none))
 (λid b _ β s k=>code X Z (.block id b) β s (k none))
 (λb _ β s k=>code X Z (.loop b) β s (k none))
 (λ_ _ _ _ _ _ β _ _=>none)
 (λid β s k=>k none (.exit id) s)
 (λ_ _ _ _ _=>none) (λ_ _ _ _=>none) (λ_ _ _ _=>none)
 (λβ s k=>k none .ret s)
 (λ_ _ _ _=>none) c
abbrev runW{β:Type}(X:Env)(v:Wd)(s:PS)(f:PS->Option β):Option β:=match v with|none=>f s|some q=>callK s q.2 (λ_ s=>f s) (X.dsp q.1)
def fnD (X:Env)(Z:Hints)(f:Nat)(i o:Sp)(x:VH (hyS i)):Option (VH (hyS o)):=oB X.P.funcs[f]? λfn=>oB fn.body λc=>PS.bu ⟨fn.ntmps,[],[],[],0,[],0,[]⟩ [] i (ofVH (hyS i) x) λus s=>(match s with
  | ⟨N,_,a,z,n,q,cc,r⟩=>QD (argsL us 0) λl=>bb (Nat.ble l.length fn.ntmps) (codeD X Z c _ ⟨N,l,a,z,n,q,cc,r⟩ λv e s=>match e with
    | .exit _=>none
    |_=>runW X v s (λs=>JO Z.pb s λs=>mvJ Z.mv s λs=>oB (Gk X.P s fn.results.toList some) λl=>mtS s o l (idR i.bs.length) λhs ρ js=>bb (allB (λp=>Nat.blt p.1 o.bs.length) ρ) (toVH (hyS o) hs some) none)) none)
end
theorem ZHX:∀{l:List Oper} {q:List Oper×Operand},lastD l=some q->∃ty p a,l=q.1++ [⟨none,.defer ⟨.value q.2,#[],#[]⟩,ty,p,a,none⟩]
  |[],q,h=>by cases h
  | [o],q,h=>by
    unfold lastD at h;simp only at h;split at h
    . cases h;exact⟨_,_,_,rfl⟩
    . cases h
  | o ::c::r,q,h=>by
    have h:(Option.rec none (λq=>some (o::q.1,q.2)) (lastD (c::r)):Option (List Oper×Operand))=some q:=h;cases b:lastD (c::r)with
    |none=>rw[b]at h;cases h
    | some d=>
      rw[b]at h;cases h;obtain⟨ty,p,a,e⟩:=ZHX b;exact⟨ty,p,a,by rw[e];rfl⟩
section
variable{β:Type}{r:β}{x:Cx}{X:Env}{Z:Hints}{s s':PS}{I I':In}{seg:Nat->Own}{l:Slots}{own:List Own}{H:Heaplet}
theorem ZMO{P:Program}{f:Nat}:Enter P f (DoesD P f):=λ{fn c vs K H R} b d hn h=>λw g j=>by
 have hn:=TN hn;refine callsDIn_of_wp b d trivial ?_;refine h w _ w ⟨?_,rfl,?_,⟨g,j,PH _ _,λp k=>.inl (SU k),R1 _,λ_ _ _=>rfl,R8⟩⟩
 . simp;omega
 . intro i v e;obtain⟨_,h2⟩:=ZDh vs 0 i v e;have hi:i<vs.length:=by
    rcases SX i vs.length with a|a
    . exact a
    . simp[T7 a]at h2
   have h3:vs[i]=v:=(by simpa[TO hi]using h2);have:i<(vs.toArray++Array.replicate (fn.ntmps-vs.toArray.size) undef).size:=(by simp;omega);simp only[Sq,SL this,Ra];rw[RD (by simpa using hi)];simpa using h3
theorem ZS2 (h:EnvOk X){f:Nat}{i o:Sp}:FnOkG (DoesD X.P f) i o (fnV X Z f i o):=ZOk ZMO h
theorem ZLX{ops:Array Oper}{Q:Exit->Act->World->Prop}{R:List Oper}(d:EnvOk X)(e:x.P=X.P):∀{a:List Oper} {s:PS} {I:In} {seg:Nat->Own} {l:Slots} {own:List Own} {H:Heaplet} {k:PS->Option β},RS x s I seg l own H->pops X ops.toList a s k=some r->
    (∀s' I' seg' l' own' H',Go s I seg H s' I' seg' H'->k s'=some r->RS x s' I' seg' l' own' H'->JL x ops Q R l' own' H')->JL x ops Q (a++R) l own H
  |[],s,I,seg,l,own,H,k,hs,h,b=>b _ _ _ _ _ _ (Go.refl _ _ _ _) h hs
  | o::a,s,I,seg,l,own,H,k,hs,h,b=>
    ZRW d e hs (show gop X ops.toList s o (λs=>pops X ops.toList a s k)=some r from h) (λs' I' seg' l' own' H' g f c=>ZLX d e c f (λt J sg i j H2 m=>b t J sg i j H2 (g.trans m)))
theorem ZP3{b:Cx}{fn:Func}{R u:Value->List Own->Heaplet->Prop}{j:Exit}{g:FuncId}{cap:Array Value}{K rst:List Own}(k:x.P=b.P/\x.w0=b.w0/\x.H0=b.H0/\x.S=b.S/\x.n=b.n)(m:b.ds= [])
 (d:x.ds= [{target:=.fn (.func g) cap,args:=#[]}])(A:Enters x.P g)(o:j=.ret\/j=.normal)
 (y:own.flatten.Perm (K.flatten++rst.flatten))(D:DoesD x.P g cap K H u)(h:∀v K' H',u v K' H'->Hle H H'->JN b (Ret b fn R .ret) l (K'++rst) H'):JN x (RetD b fn R j) l own H:=λa w c=>by
 obtain⟨h1,h2,h3,k,B⟩:=k;have p:=c.mem.ok.perm y;have C:=D w c.mem.agr p.left;have run:LeavesIn Fence.wide 0 b.P fn a.tmps (λe i=>∃v K' H',e=.returned v/\R v K' H'/\Mem b.w0 b.H0 b.S K'.flatten H' i) [{target:=.fn (.func g) cap,args:=#[]}] .returning w:=by
  refine leavesIn_cons (by simp) (by simp[Fence.wide]) (f:=g) (args:=cap) ?_ (λ_ _=>trivial) ?_
  . rw[<-h1];simp only[invoke];simpa using A cap w
  . rw[<-h1];refine CallsDIn.mono C (λe F i q=> ?_);obtain⟨rfl,v,K',H',rfl,r,z⟩:=q;show LeavesIn _ _ _ _ _ _ [] .returning i;have s:Mem x.w0 x.H0 x.S (K'.flatten++rst.flatten) H' i:=c.mem.go y z;have t:Holds b l (K'++rst) H' {a with defers:=[]} i:=⟨B▸c.size,m.symm,c.slots,by rw[Ti,<-h2,<-h3,<-k];exact s⟩;obtain⟨-,v,E,r⟩:=h _ _ _ r z.le _ _ t;rw[h1];exact⟨v,E,r⟩
 rcases o with rfl|rfl
 . show LeavesIn _ _ _ _ a.tmps _ a.defers .returning w;rw[c.ds,d];exact run
 . show LeavesIn _ _ _ _ a.tmps _ a.defers .returning w;rw[c.ds,d];exact run
def dsW (v:Wd)(ws:List Value):List Deferred:=match v with|none=> []|some q=> [{target:=.fn (.func q.1) ws.toArray,args:=#[]}]
def WdOk (I:In)(v:Wd)(ws:List Value):Prop:=match v with|none=>ws= []|some q=>VRs I q.2 ws
def KcD (x:Cx)(Q:Exit->Act->World->Prop)(I:In)(k:Wd->Ex->PS->Option β)(r:β):Prop:=
 ∀v ws e s' I' seg' l' own' H',I.Le I'->k v e s'=some r->WdOk I' v ws->RS x s' I' seg' l' own' H'->JN {x with ds:=dsW v ws} (Q (exX e)) l' own' H'
theorem KcD.ext{Q:Exit->Act->World->Prop}{k:Wd->Ex->PS->Option β}(h:KcD x Q I k r)(e:I.Le I'):KcD x Q I' k r:=λv ws a t I' seg' l' own' H' h1 b c hs=>h v ws a t I' seg' l' own' H' (e.trans h1) b c hs
theorem Gy{Q:Exit->Act->World->Prop}(g:EnvOk X)(j:x.P=X.P){c:Code}{v:Wd}{ws:List Value}{k:Wd->Ex->PS->Option β}(hs:RS x s I seg l own H)(d:WdOk I v ws)(h:code X Z c β s (k v)=some r)(m:KcD x Q I k r):JC {x with ds:=dsW v ws} c Q l own H:=
 ZED (x:={x with ds:=dsW v ws}) g j h (hs.cx rfl) λe s' I' seg' l' own' H' f a b=>m v ws e s' I' seg' l' own' H' f.i a (by
  cases v with
  |none=>exact d
  |some q=>exact VRs.mono f.i d) (b.cx rfl)
theorem ZRo (t:EnvOk X)(u:x.P=X.P)(D:x.r=none)(C:x.ds= []):∀{c:Code} {β:Type} {r:β} {s:PS} {k:Wd->Ex->PS->Option β} {I:In} {seg:Nat->Own} {l:Slots} {own:List Own} {H:Heaplet},codeD X Z c β s k=some r->RS x s I seg l own H->∀{Q:Exit->Act->World->Prop},KcD x Q I k r->JC x c Q l own H:=by
  have i:({x with ds:=dsW none []}:Cx)=x:=by
    show({x with ds:=[]}:Cx)=x;rw[<-C]
  intro c;induction c with
  |skip=>intro β r s k I seg l own H h hs Q d;exact JC.skip (by have:=d none [] .norm s I seg l own H (In.Le.refl _) h rfl hs;rwa[i]at this)
  |ret=>intro β r s k I seg l own H h hs Q d;exact ZIU (by have:=d none [] .ret s I seg l own H (In.Le.refl _) h rfl hs;rwa[i]at this)
  |exit id=>intro β r s k I seg l own H h hs Q d;exact ZEV (by have:=d none [] (.exit id) s I seg l own H (In.Le.refl _) h rfl hs;rwa[i]at this)
  |cond o a b y z=>intro β r s k I seg l own H h hs Q d;have:=Gy (v:=none) (ws:=[]) t u hs rfl (show code X Z (.cond o a b) β s (k none)=some r from h) d;rwa[i]at this
  |loop b E=>intro β r s k I seg l own H h hs Q d;have:=Gy (v:=none) (ws:=[]) t u hs rfl (show code X Z (.loop b) β s (k none)=some r from h) d;rwa[i]at this
  |block id b E=>intro β r s k I seg l own H h hs Q d;have:=Gy (v:=none) (ws:=[]) t u hs rfl (show code X Z (.block id b) β s (k none)=some r from h) d;rwa[i]at this
  | region id ops dr=>
    intro β r s k I seg l own H h hs Q d;cases dr with
    |true=>have:=Gy (v:=none) (ws:=[]) t u hs rfl (show code X Z (.region id ops true) β s (k none)=some r from h) d;rwa[i]at this
    | false=>
      replace h:=show(match lastD ops.toList with
        |some (l,p)=>pops X ops.toList l s λs=>ev s p λv=>(match v with| .clo f [] m=>k (some (f,m)) .norm s|_=>none)
        |none=>code X Z (.region id ops false) β s (k none))=some r from h
      split at h
      . rename_i L p F;obtain⟨ty,G,J,e⟩:=ZHX F;refine Q2 ?_;rw[e];refine ZLX t u hs h (λs' I' seg' l' own' H' g A j=> ?_);obtain⟨c,v,e1,e2,A⟩:=ZT j A;split at A
        . rename_i f m;simp only[VR]at e2;obtain⟨us,ws,rfl,K,M⟩:=e2;cases K.un0;refine ZSD D e1 (JL.nil ?_);rw[C];exact d (some (f,m)) ws .norm s' I' seg' l' own' H' g.I A M j
        . cases A
      . have:=Gy (v:=none) (ws:=[]) t u hs rfl h d;rwa[i]at this
  | seq a b y z=>
    intro β r s k I seg l own H h hs Q d;have h:codeD X Z a β s (λv e s'=>match e with| .norm=>(match v with|none=>codeD X Z b β s' k|some q=>code X Z b β s' (k (some q)))|e=>k v e s')=some r:=h;refine ZK6 (y h hs (λv ws e s' I' seg' l' own' H' B n w j=> ?_));cases e with
    | norm=>
      cases v with
      | none=>
        have w:ws= []:=w;subst w;rw[i];exact J8 (z n j (d.ext B))
      |some q=>exact J8 (Gy t u j w n (d.ext B))
    |exit id=>exact ZA1 (d v ws (.exit id) s' I' seg' l' own' H' B n w j)
    |ret=>exact ZA2 (d v ws .ret s' I' seg' l' own' H' B n w j)
  |_=>intro β r s k I seg l own H h;cases h
theorem ZU0 (hX:EnvOk X){f:Nat}{i o:Sp}:FnOk X.P f i o (fnD X Z f i o):=by
  intro H W vs z y E hT h;obtain⟨fn,hf,h⟩:=ZU (show oB X.P.funcs[f]? (λfn=>oB fn.body λc=>PS.bu ⟨fn.ntmps,[],[],[],0,[],0,[]⟩ [] i (ofVH (hyS i) z) λus s=>QD (argsL us 0) λl=>bb (Nat.ble l.length fn.ntmps) (codeD X Z c (VH (hyS o)) ⟨s.N,l,s.o,s.z,s.n,s.f,s.c,s.r⟩ λv e s=>match e with
    | .exit _=>none
    |_=>runW X v s (λs=>JO Z.pb s λs=>mvJ Z.mv s λs=>oB (Gk X.P s fn.results.toList some) λl=>mtS s o l (idR i.bs.length) λhs ρ js=>bb (allB (λp=>Nat.blt p.1 o.bs.length) ρ) (toVH (hyS o) hs some) none)) none)=some y from h)
  obtain⟨c,hc,h⟩:=ZU h;obtain⟨hok,cs,M,c1,U,V,Y,C,hLi,hBi,h⟩:=J6 h;rw[XS]at h;obtain⟨hn,h⟩:=ZA h;have hlen:∀(cs:List CV) (k:Nat),(argsL cs k).length=cs.length:=λcs=>by
    induction cs with
    |nil=>intro k;rfl
    |cons a cs ih=>intro k;show(argsL cs (k+1)).length+1=_;rw[ih];rfl
  rw[hlen]at hn;let s0:PS:=⟨fn.ntmps,[],[],[],0,[],0,[]⟩;let J:In:={H:=H,ν:=λa=>match W a with|some w=>w.1|none=>(0,.nilIface),n:=0+i.bs.length,κ:=λc=>(cnt (ofVH (hyS i) z))[c]?.getD 0,q:=0+(cnt (ofVH (hyS i) z)).length};have hC:Cnt J 0 (cnt (ofVH (hyS i) z)):=λm j e=>by
    have O:=(TD.1 e).1;refine⟨by show 0+m<0+_;omega,?_⟩;show(cnt (ofVH (hyS i) z))[0+m]?.getD 0=j;rw[Tf,e];rfl
  have hsg:∀k,sg ([]:Rho) 0 k=k:=λk=>Tf k;have hW4:∀k w,W k=some w->sg ([]:Rho) 0 k<J.n/\J.ν (sg ([]:Rho) 0 k)=w.1/\sgW W (sg ([]:Rho) 0 k)=w.2:=λk w e=>by
    rw[hsg];refine⟨by show k<0+i.bs.length;have:=E k w e;omega,?_,?_⟩
    . show(match W k with|some w=>w.1|none=>_)=_;rw[e]
    . unfold sgW;rw[e]
  have base:∀(x:Cx) (l:Slots),x.n=fn.ntmps->RS x s0 ⟨H,λ_=>(0,.nilIface),0,λ_=>0,0⟩ (λ_=> []) l [] H:=λx l hx=>
    ⟨hx.symm,rfl,rfl,rfl,rfl,λt c e=>(by cases e),λa m e=>(by cases e),λa o c e=>(by cases e),λc hc=>(by cases hc),λk c e=>(by cases e),λk c e=>(by cases e),λk c o d e=>(by cases e)⟩
  have entry:∀(x:Cx) (l:Slots),x.n=fn.ntmps->VRs J cs vs/\RS x (buS s0 i V Y (U++C)) J (sgW W) l ((List.range J.n).map (sgW W)) H:=λx l hx=>
    RS.bu (J:=J) (seg2:=sgW W) (base x l hx) hT hok hLi hBi (λi a e=>by cases e) (λi j a e=>by cases e) rfl rfl rfl (λa ha=>absurd ha (Tl _)) (λc hc=>absurd hc (Tl _)) hC hW4 (λa ha=>absurd ha (Tl _)) (λp hp O=>absurd O (Tl _)) (λp hp O=>absurd O (Tl _))
  have hJn:J.n=i.bs.length:=Tf _;have hvs:=(entry {P:=X.P,r:=none,n:=fn.ntmps,w0:=default,H0:=H,S:=[],ds:=[]} [] rfl).1;rw[hvs.length]at hn;intro w ha hk0;have hn:=TN hn;refine callsIn_of_wp_defers hf hc trivial ?_;let D:Cx:={P:=X.P,r:=none,n:=fn.ntmps,w0:=w,H0:=H,S:=ids ((List.range i.bs.length).map (sgW W)).flatten,ds:=[]};obtain⟨_,b⟩:=entry D ((List.range' 0 vs.length).zip vs) rfl;rw[hJn]at b;have hs1:RS D ⟨(buS s0 i V Y (U++C)).N,argsL cs 0,(buS s0 i V Y (U++C)).o,(buS s0 i V Y (U++C)).z,(buS s0 i V Y (U++C)).n,(buS s0 i V Y (U++C)).f,(buS s0 i V Y (U++C)).c,(buS s0 i V Y (U++C)).r⟩ J (sgW W) ((List.range' 0 vs.length).zip vs) ((List.range i.bs.length).map (sgW W)) H:=
    ⟨b.N,b.H,b.n,b.q,b.own,λt c e=>.inr (ZEP hvs e),b.ze,b.ce,b.fx,b.rw,b.rz,b.ro⟩
  have hJC:JC D c (RetD D fn (λu K' H'=>∃us A,(∀k w,A k=some w->k<o.bs.length)/\(∀k w,W k=some w->∃F,A k=some F/\F.1=w.1)/\u=Ow.pack us/\TellsS H' A o (ofVH (hyS o) y) us/\K'=(List.range o.bs.length).map (sgW A))) ((List.range' 0 vs.length).zip vs) ((List.range i.bs.length).map (sgW W)) H:=by
    refine ZRo (x:=D) hX rfl rfl rfl h hs1 ?_;intro v ws e s' I' seg' l' own' H' he hk hw M;have hnn:i.bs.length<=s'.n:=by
      have h1:=he.n;rw[M.n,hJn]at h1;exact h1
    have hνJ:∀k w,W k=some w->J.ν k=w.1:=λk w e=>by
      show(match W k with|some w=>w.1|none=>_)=_;rw[e]
    have fin:∀{Q:Exit} {I1:In} {seg1:Nat->Own} {G:List Own} {H1:Heaplet} {s1:PS},J.Le I1->i.bs.length<=s1.n->RS D s1 I1 seg1 l' G H1->Q=.ret\/Q=.normal->JO Z.pb s1 (λs=>mvJ Z.mv s λs1=>oB (Gk X.P s1 fn.results.toList some) (λl=>mtS s1 o l (idR i.bs.length) λhs ρ js=>bb (allB (λp=>Nat.blt p.1 o.bs.length) ρ) (toVH (hyS o) hs some) none))=some y->
        JN D (Ret D fn (λu K' H'=>∃us A,(∀k w,A k=some w->k<o.bs.length)/\(∀k w,W k=some w->∃F,A k=some F/\F.1=w.1)/\u=Ow.pack us/\TellsS H' A o (ofVH (hyS o) y) us/\K'=(List.range o.bs.length).map (sgW A)) Q) l' G H1:=by
      intro Q I1 seg1 G H1 s1 hle hn1 hs1 L T;rw[WG]at T;refine BS (js:=Z.pb) hs1 (λseg2 own2 H2 g2 hs2=> ?_);refine ZQ3 (B:=i.bs.length) hs2 (by rw[(Y6 Z.pb s1).n];exact hn1) T (λs2 I2 seg3 own3 h1 h2 h3=> ?_);exact ZRe E (λk w e=>by
        have hk:=E k w e;rw[h1 k hk];show I1.ν k=w.1;rw[hle.ν k (by rw[hJn];exact hk)];exact hνJ k w e) h2 L h3
    have go :∀{Q:Exit},Q=.ret\/Q=.normal->(runW X v s' (λs=>JO Z.pb s λs=>mvJ Z.mv s λs=>oB (Gk X.P s fn.results.toList some) λl=>mtS s o l (idR i.bs.length) λhs ρ js=>bb (allB (λp=>Nat.blt p.1 o.bs.length) ρ) (toVH (hyS o) hs some) none))=some y->
        JN {D with ds:=dsW v ws} (RetD D fn (λu K' H'=>∃us A,(∀k w,A k=some w->k<o.bs.length)/\(∀k w,W k=some w->∃F,A k=some F/\F.1=w.1)/\u=Ow.pack us/\TellsS H' A o (ofVH (hyS o) y) us/\K'=(List.range o.bs.length).map (sgW A)) Q) l' own' H':=by
      intro Q L T;cases v with
      | none=>
        have hw:ws= []:=hw;exact ZR9 L (fin he hnn M L T)
      | some q=>
        obtain⟨g,m⟩:=q;have T:callK s' m (λ_ s=>JO Z.pb s λs=>mvJ Z.mv s λs=>oB (Gk X.P s fn.results.toList some) λl=>mtS s o l (idR i.bs.length) λhs ρ js=>bb (allB (λp=>Nat.blt p.1 o.bs.length) ρ) (toVH (hyS o) hs some) none) (X.dsp g)=some y:=T;cases hds:X.dsp g with
        |nil=>rw[hds]at T;cases T
        | cons S0 L0=>
          have hEn:Enters X.P g:=(hX.dsp g S0 (by rw[hds];simp)).1;refine ZIB (x:={D with ds:=dsW (some (g,m)) ws}) (xf:=D) (lf:=λ_=>l') (Kf:=λ_=>Ret D fn (λu K' H'=>∃us A,(∀k w,A k=some w->k<o.bs.length)/\(∀k w,W k=some w->∃F,A k=some F/\F.1=w.1)/\u=Ow.pack us/\TellsS H' A o (ofVH (hyS o) y) us/\K'=(List.range o.bs.length).map (sgW A)) .ret) (DO:=DoesD X.P g)
            (λ{K rst own H R} _ hp hD hcont=> ?_) (λS hS=>(hX.dsp g S hS).2) (M.cx rfl) hw T (λus vs' s2 I2 seg2 own2 H2 hgo hk2 _ hs2=> ?_)
          . exact ZP3 (x:={D with ds:=dsW (some (g,m)) ws}) ⟨rfl,rfl,rfl,rfl,rfl⟩ rfl rfl hEn L hp hD (λv K' H' hR hle=>hcont v K' H' hR hle)
          . exact fin (he.trans hgo.I) (TQ hnn hgo.e.n) (hs2.cx rfl) (.inl rfl) hk2
    cases e with
    |norm=>exact go (.inr rfl) hk
    |ret=>exact go (.inl rfl) hk
    |exit id=>cases hk
  refine hJC _ w ⟨?_,rfl,?_,⟨ha,hk0,PH _ _,λp hp=>.inl (SU hp),R1 _,λ_ _ _=>rfl,R8⟩⟩
  . simp[D];omega
  . intro i v e;obtain⟨_,h2⟩:=ZDh vs 0 i v e;have hi:i<vs.length:=by
      rcases SX i vs.length with h'|h'
      . exact h'
      . simp[T7 h']at h2
    have h3:vs[i]=v:=(by simpa[TO hi]using h2);have:i<(vs.toArray++Array.replicate (fn.ntmps-vs.toArray.size) undef).size:=(by simp;omega);simp only[Sq,SL this,Ra];rw[RD (by simpa using hi)];simpa using h3
end
theorem ZGo{x:Cx}{l:Slots}{own:List Own}{H:Heaplet}{R:List Own->Heaplet->Prop}(h:R own H):JN x (λa b=>∃K2 H2,R K2 H2/\Mem x.w0 x.H0 x.S K2.flatten H2 b) l own H:=λa w c=>⟨own,H,h,c.mem⟩
theorem Pu{P:Program}{f:FuncId}{args:Array Value}{K:List Own}{H:Heaplet}{R R':Value->List Own->Heaplet->Prop}(h:Does P f args K H R)
 (c:∀w v K' H',R v K' H'->JN {P:=P,r:=none,n:=0,w0:=w,H0:=H,S:=ids K.flatten,ds:=[]} (λa b=>∃K2 H2,R' v K2 H2/\Mem w H (ids K.flatten) K2.flatten H2 b) [] K' H'):Does P f args K H R':=λw d g=>by
 refine CallsIn.mono (h w d g) ?_;rintro e b ⟨v,K',H',rfl,j,k⟩;obtain⟨K2,H2,h1,h2⟩:=c w v K' H' j {tmps:=#[],defers:=[]} b ⟨rfl,rfl,λi v e=>(by cases e),k⟩;exact⟨v,K2,H2,rfl,h1,h2⟩
abbrev s0:PS:=⟨0,[],[],[],0,[],0,[]⟩
theorem ZFX{i:Sp}{W:Wt}{H:Heaplet}{vs:List Value}{z:VH (hyS i)}(f:∀k w,W k=some w->k<i.bs.length)(D:TellsS H W i (ofVH (hyS i) z) vs){cs:List CV}{s:PS}
 (h:PS.bu s0 [] i (ofVH (hyS i) z) (λus s=>some (us,s))=some (cs,s)):∃(J:In) (x:Cx),J.H=H/\VRs J cs vs/\RS x s J (sgW W) [] ((List.range i.bs.length).map (sgW W)) H/\∀k w,W k=some w->J.ν k=w.1:=by
 obtain⟨g,E,F,L,M,N,O,G,l,u,h⟩:=J6 h;cases h;let J:In:={H:=H,ν:=λa=>match W a with|some w=>w.1|none=>(0,.nilIface),n:=0+i.bs.length,κ:=λc=>(cnt (ofVH (hyS i) z))[c]?.getD 0,q:=0+(cnt (ofVH (hyS i) z)).length};let x:Cx:={P:=default,r:=none,n:=0,w0:=default,H0:=H,S:=[],ds:=[]};have I:Cnt J 0 (cnt (ofVH (hyS i) z)):=λm j e=>by
  have b:=(TD.1 e).1;refine⟨by show 0+m<0+_;omega,?_⟩;show(cnt (ofVH (hyS i) z))[0+m]?.getD 0=j;rw[Tf,e];rfl
 have v:∀k,sg ([]:Rho) 0 k=k:=λk=>Tf k;have y:∀k w,W k=some w->sg ([]:Rho) 0 k<J.n/\J.ν (sg ([]:Rho) 0 k)=w.1/\sgW W (sg ([]:Rho) 0 k)=w.2:=λk w e=>by
  rw[v];refine⟨by show k<0+i.bs.length;have:=f k w e;omega,?_,?_⟩
  . show(match W k with|some w=>w.1|none=>_)=_;rw[e]
  . unfold sgW;rw[e]
 have base:RS x s0 ⟨H,λ_=>(0,.nilIface),0,λ_=>0,0⟩ (λ_=> []) [] [] H:=
  ⟨rfl,rfl,rfl,rfl,rfl,λt c e=>(by cases e),λa m e=>(by cases e),λa o c e=>(by cases e),λc A=>(by cases A),λk c e=>(by cases e),λk c e=>(by cases e),λk c o d e=>(by cases e)⟩
 have B:J.n=i.bs.length:=Tf _;obtain⟨h1,h2⟩:=RS.bu (J:=J) (seg2:=sgW W) base D g l u (λi a e=>by cases e) (λi j a e=>by cases e) rfl rfl rfl (λa C=>absurd C (Tl _)) (λc A=>absurd A (Tl _)) I y (λa C=>absurd C (Tl _)) (λp K b=>absurd b (Tl _)) (λp K b=>absurd b (Tl _));rw[B]at h2;exact⟨J,x,rfl,h1,h2,λk w e=>by show(match W k with|some w=>w.1|none=>_)=_;rw[e]⟩
theorem ZCg{o:Sp}{H:Heaplet}{s:PS}{I:In}{seg:Nat->Own}{cs:List CV}{us:List Value}{y:VH (hyS o)}{ρ:Rho}(h:Rw s [] I seg)(hI:I.H=H)(b:VRs I cs us)
 (c:mtS s o cs [] (λhs ρ js=>some (hs,ρ,js))=some (ofVH (hyS o) y,ρ,[])):TellsS H (Wf ρ I seg) o (ofVH (hyS o) y) us:=by
 obtain⟨hs,d,js,e,_,_,_,f⟩:=ZCn c (λi j a e1 e2=>by cases e1);cases e;rw[<-hI];exact f I seg us h b.vu
theorem Rw.zero (I:In)(seg:Nat->Own):Rw s0 [] I seg:=⟨λj t E m e=>(by cases e),λj t m e=>(by rcases e with e|⟨e,_⟩<;>cases e),λj E m e=>(by cases e),λa m e=>(by cases e)⟩
abbrev s1 (t:Ty)(E:Nat)(m:List (den t)):PS:=⟨0,[],[],[],1,[],0,[(0,.own t E m)]⟩
theorem Rw.one{t:Ty}{E:Nat}{m:List (den t)}{I:In}{seg:Nat->Own}(h:RowOf I.H (RT t) 0 E (szY t) (I.ν 0).2 m (seg 0)):Rw (s1 t E m) [] I seg:=by
 refine⟨λj u b m' e _=> ?_,λj u m' e=> ?_,λj b m' e=> ?_,λa m' e=>by cases e⟩
 . rw[ZE]at e;split at e
   . rename_i q;have q:0=j:=q;subst q;cases e;exact h
   . cases e
 . rcases e with e|⟨e,_⟩
   . rw[ZE]at e;split at e<;>cases e
   . cases e
 . rw[ZE]at e;split at e<;>cases e
theorem FnOk.data{P:Program}{f:Nat}{i o:Sp}{g:VH (hyS i)->Option (VH (hyS o))}(hi:i.bs= [])(l:o.bs= [])(j:VH (hyS i)->List CV)(co:VH (hyS o)->List CV)
 (b:∀z,PS.bu s0 [] i (ofVH (hyS i) z) (λus s=>some (us,s))=some (j z,s0))(c:∀y,mtS s0 o (co y) [] (λhs ρ js=>some (hs,ρ,js))=some (ofVH (hyS o) y,[],[]))
 (h:∀(I:In) (vs:List Value) (z:VH (hyS i)) (y:VH (hyS o)),VRs I (j z) vs->g z=some y->Does P f vs.toArray [] I.H (λu K' H'=>∃us,u=Ow.pack us/\K'= []/\VRs {I with H:=H'} (co y) us)):FnOk P f i o g:=by
 intro H W vs z y a m d;obtain⟨J,x,n,p,_⟩:=ZFX a m (b z);have:=h J vs z y p d;rw[n]at this;rw[hi];refine this.mono λu K' H' ⟨us,e1,e2,e3⟩=>⟨us,Wf [] {J with H:=H'} (λ_=> []),λk w e=> ?_,λk w e=> ?_,e1,ZCg (Rw.zero _ _) rfl e3 (c y),?_⟩
 . unfold Wf at e;cases e
 . have:=a k w e;rw[hi]at this;exact absurd this (Tl _)
 . rw[e2,l];rfl
theorem FnOk.row{P:Program}{f:Nat}{i:Sp}{t:Ty}{E:Nat}{l:VH (hyS i)->Option (List (den t))}(hi:i.bs= [])(p:VH (hyS i)->List CV)
 (b:∀z,PS.bu s0 [] i (ofVH (hyS i) z) (λus s=>some (us,s))=some (p z,s0))(c:∀m:List (den t),mtS (s1 t E m) ⟨[.d (.sl t) [(0,0,E)]],[.row]⟩ [.row 0] [] (λhs ρ js=>some (hs,ρ,js))=some ([.d (.sl t) m],[(0,some 0)],[]))
 (h:∀(I:In) (vs:List Value) (z:VH (hyS i)) (m:List (den t)),VRs I (p z) vs->l z=some m->Does P f vs.toArray [] I.H (λu K' H'=>∃K,K'= [K]/\RowOf H' (RT t) 0 E (szY t) u m K)):FnOk P f i ⟨[.d (.sl t) [(0,0,E)]],[.row]⟩ l:=by
 intro H W vs z y a r g;obtain⟨J,x,v,A,_⟩:=ZFX a r (b z);have:=h J vs z y A g;rw[v]at this;rw[hi];refine this.mono λu K' H' ⟨K,e1,e2⟩=> ?_;obtain⟨ao,cap,B,_⟩:=e2.len;have j:=ZCg (o:=⟨[.d (.sl t) [(0,0,E)]],[.row]⟩) (H:=H') (s:=s1 t E y) (I:={H:=H',ν:=λ_=>(0,u),n:=1,κ:=λ_=>0,q:=0}) (seg:=λ_=>K) (cs:=[.row 0]) (us:=[u]) (y:=y) (ρ:=[(0,some 0)])
  (Rw.one e2) rfl (VRs.cons (by simp only[VR];exact⟨Nat.zero_lt_one,trivial,ao,_,cap,B⟩) VRs.nil) (c y)
 refine⟨[u],_,λk w e=> ?_,λk w e=> ?_,rfl,j,?_⟩
 . unfold Wf at e;rw[show ZG ([(0,some 0)]:Rho) k=if 0=k then some (some 0)else none from ZE _ _ _]at e;split at e
   . rename_i q;subst q;exact Nat.zero_lt_one
   . cases e
 . have:=a k w e;rw[hi]at this;exact absurd this (Tl _)
 . rw[e1];rfl
theorem Pl{P:Program}{f:FuncId}{args:Array Value}{K:List Own}{H:Heaplet}{R:Value->List Own->Heaplet->Prop}(i:Nat){g:Nat}{cur:Array Value}{t:TypeId}(hi:K[i]? =some [(g,.cells cur t (0,0))])
 (h:∀H1,Hle H H1->(∀o u,cur[o]? =some u->H1 g o=some u)->Does P f args (K.set i []) H1 R):Does P f args K H R:=λw a b=>by
 have c:Mem w H (ids K.flatten) K.flatten H w:=⟨a,b,PH _ _,λp d=>.inl (SU d),R1 _,λ_ _ _=>rfl,R8⟩;have m:=Mem.pub0 c hi;have h2:=h _ m.le (λo u e=>by simp only[if_true];exact e) w m.agr m.ok;refine CallsIn.mono h2 ?_;rintro e l ⟨v,K',H',rfl,j,k⟩;refine⟨v,K',H',rfl,j,?_⟩;have:=m.go (K:=(K.set i []).flatten) (rst:=[]) (by simp) k;simpa using this
theorem Pp{α a τ:Type}{P:Program}{l:Nat}{RA R:Heaplet->Array Value->α->Prop}{Y:α->a->Option (a ⊕ τ)}{I:a->Own->Heaplet->Prop}{X:τ->Own->Heaplet->Prop}(h:YSpecG P l RA Y I X)(b:∀H args y,R H args y->RA H args y):YSpecG P l R Y I X:=
 λy s args O H w o h1 h2 h3 c d=>h y s args O H w o h1 (b _ _ _ h2) h3 c d
theorem ZK9{P:Program}{l:Nat}{args:Array Value}{w:World}{R R':Ending->World->Prop}(h:Ow.Yields P l args w R)(b:∀e a,R e a->R' e a):Ow.Yields P l args w R':=by
 obtain⟨fn,tmps,assign,body,h1,h2⟩:=h;exact⟨fn,tmps,assign,body,h1,h2.mono b⟩
theorem ZOg{α b τ:Type}{P:Program}{f:FuncId}{cap:Array Value}{H:Heaplet}{RA:Heaplet->Array Value->α->Prop}{xs:List α}(k:IterL P f cap H RA xs)(l:α->b->Option (b ⊕ τ))(s0:b)(c:b ⊕ τ)(d:forL l xs s0=some c)
 {m:Nat}{I':b->Own->Heaplet->Prop}{X:τ->Own->Heaplet->Prop}{O:Own}(z:YSpecG P m RA l I' X)(hI:IX I' X (.inl s0) O H):
 Does P f (#[.func (.yield m) #[] #[]]++cap) [O] H (λu K' H'=>∃a,K'= [a]/\IX I' X c a H'):=by
 refine(k m (λpre o H=>∃s t O,pre++t=xs/\o= [O]/\forL l t s=some c/\IX I' X (.inl s) O H) (λpre o H=>∃O,o= [O]/\IX I' X c O H) [O] ?_ ⟨s0,xs,O,rfl,rfl,d,hI⟩).mono ?_
 . rintro pre y args o H w ⟨s,t,O,e1,rfl,n,hI⟩ ⟨p,x,e2⟩ q g;have ht:t=y::x:=by
    have:=e1.trans e2.symm;exact List.append_cancel_left this
   subst ht;rw[Td,Rj,Tt]at g;obtain⟨i,hb,r⟩:=ZPo n;refine ZK9 (z y s args O H w i hI p hb q g) ?_;rintro e C ⟨a,H',rfl,A,j⟩;refine⟨i.isLeft,[a],H',rfl,by simpa using A,?_⟩;rcases r with⟨s',rfl,v⟩|⟨D,rfl,rfl⟩
   . exact⟨s',x,a,by rw[<-e1];simp,rfl,v,j⟩
   . exact⟨a,rfl,j⟩
 . rintro u K' H' ⟨_,h|h⟩
   . obtain⟨B,rfl,s,t,O,e1,rfl,n,hI⟩:=h;have:t= []:=(by simpa using e1);subst this;have:c=.inl s:=(TJ n).symm;subst this;exact⟨O,rfl,hI⟩
   . obtain⟨B,_,O,rfl,hI⟩:=h;exact⟨O,rfl,hI⟩
theorem P3{P:Program}{f:FuncId}{args:Array Value}{K K2:List Own}{H:Heaplet}{R:Value->List Own->Heaplet->Prop}(e:K2.flatten=K.flatten)(h:Does P f args K2 H R):Does P f args K H R:=by
 unfold Does at h|-;rw[<-e];exact h
noncomputable def chunkO {α:Type} (m:List α) (n:Int):Option (List (List α)):=if 1<=n/\n<=1099511627776/\m.length<=LIM then some (Zp n.toNat m.length m)else none
noncomputable def chunkR {α:Type} (m:List α) (n:Int) {a τ:Type} (b:List α->a->Option (a ⊕ τ)) (s:a):Option (a ⊕ τ):=Option.bind (chunkO m n) λl=>forL b l s
noncomputable def backR (m:List UInt8) {a τ:Type} (b:Int×UInt8->a->Option (a ⊕ τ)) (s:a):Option (a ⊕ τ):=forL (fun(p:Nat×UInt8)=>b (((p.1:Nat):Int),p.2)) (bwd m m.length) s
abbrev ZC6 (t:Ty):Sp:=⟨[.ptr 0 0,.ptr 1 0],[.cells 1 [.d (.sl t) []],.cells 1 [.d .i []]]⟩
abbrev ZUZ (t:Ty)(m:List (den t))(N:Int):PS:=⟨0,[],[((1,0),.i N),((0,0),.sl t m)],[(1,1),(0,1)],2,[],0,[]⟩
theorem ZIA{P:Program}{f:Nat}{t:Ty}(p:Enters P f)(r:∀(m:List (den t)) (N:Int),PS.bu s0 [] (ZC6 t) (ofVH (hyS (ZC6 t)) (m,N)) (λus s=>some (us,s))=some ([.ptr 0 0,.ptr 1 0],ZUZ t m N))
 (w:∀y:List (den t),mtS s0 ⟨[.d (.sl t) []],[]⟩ [.sl t y] [] (λhs ρ js=>some (hs,ρ,js))=some ([.d (.sl t) y],[],[]))(A:∀(m:List (den t)) (N:Int),(1<=N/\N<=1099511627776/\m.length<=LIM)->∀(H:Heaplet) (v:Value) (K L:Nat),IsSlice H (RT t) (szY t) v m->H K 0=some v->H L 0=some (.int .i64 N)->
 IterL P f #[.pointer (some ⟨K,0,none⟩),.pointer (some ⟨L,0,none⟩)] H (λH' args (y:List (den t))=>∃ao:Option Addr,args= #[.slice ao y.length y.length]/\IsSlice H' (RT t) (szY t) (.slice ao y.length y.length) y) (Zp N.toNat m.length m)):
 ItOk P f ⟨ZC6 t,1,[.d (.sl t) []],fun(x:List (den t)×Int) _ _ b s=>chunkR x.1 x.2 b s⟩:=by
 refine⟨p,?_⟩;intro H W vs z c X σ τ b g M a Q I' Y O Z hI;obtain⟨m,N⟩:=z;have a:chunkR m N b g=some M:=a;unfold chunkR chunkO at a;split at a
 case isFalse=>cases a
 rename_i hN;rw[TA]at a;obtain⟨J,x,hJ,j,hs,_⟩:=ZFX (i:=ZC6 t) (z:=(m,N)) c X (r m N);obtain⟨v2,us,rfl,R,j⟩:=j.un;obtain⟨v3,us2,rfl,S,j⟩:=j.un;cases j.un0;simp only[VR]at R S;obtain⟨-,rfl⟩:=R;obtain⟨-,rfl⟩:=S;have c0:=hs.ce 0 0 (.sl t m) rfl;have B:=hs.ce 1 0 (.i N) rfl;rcases c0 with c0|⟨-,T,T0,C,g0,q0,w0⟩
 . cases c0
 rcases B with B|⟨-,U,T1,u1,g1,q1,V⟩
 . cases B
 simp only[VR]at V;subst V;have w0:IsSlice J.H (RT t) (szY t) C m:=w0;rw[hJ]at w0;show Does P f #[.func (.yield Q) #[] #[],.pointer (some ⟨(J.ν 0).1,0,none⟩),.pointer (some ⟨(J.ν 1).1,0,none⟩)] [sgW W 0,sgW W 1,O] H _;rw[g0,g1];refine Pl 0 rfl λH1 D E=>Pl 1 rfl λH2 l F=>P3 (K2:=[O]) rfl ?_;have E:=E 0 C (by rw[<-Sf];exact q0);have F:=F 0 _ (by rw[<-Sf];exact q1);have k:=D.trans l;have G:YSpecG P Q (λH' args (y:List (den t))=>∃ao:Option Addr,args= #[.slice ao y.length y.length]/\IsSlice H' (RT t) (szY t) (.slice ao y.length y.length) y) b I' Y:=Pp Z λH args y ⟨ao,e,h⟩=>by
  subst e;exact⟨rfl,ZCg (o:=⟨[.d (.sl t) []],[]⟩) (y:=y) (I:={H:=H,ν:=λ_=>(0,.nilIface),n:=0,κ:=λ_=>0,q:=0}) (seg:=λ_=> []) (cs:=[.sl t y]) (Rw.zero _ _) rfl (VRs.cons (by simp only[VR];exact h) VRs.nil) (w y)⟩
 refine(ZOg (A m N hN H2 C _ _ (w0.mono (RT.mono t) k) (l _ _ _ E) F) b g M a G (hI.mono k)).mono ?_;rintro u K' H' ⟨O',rfl,h⟩;exact⟨[],O',rfl,trivial,h⟩
abbrev ZRR:Sp:=⟨[.ptr 0 0],[.cells 1 [.d (.sl .w8) []]]⟩
theorem ZTS{P:Program}{f:Nat}(g:Enters P f)(j:∀(m:List UInt8) (H:Heaplet) (v:Value) (b:Nat),IsSlice H RU8 1 v m->H b 0=some v->
 IterL P f #[.pointer (some ⟨b,0,none⟩)] H (λ_ args (y:Nat×UInt8)=>args= #[.int .i64 ((y.1:Nat):Int),.int .u8 (y.2.toNat:Int)]) (bwd m m.length)):
 ItOk P f ⟨ZRR,2,[.d .i [],.d .w8 []],fun(x:List UInt8) _ _ e s=>backR x e s⟩:=by
 refine⟨g,?_⟩;intro H W vs z a K U τ e c D k E I' X O L hI;have k:forL (fun(p:Nat×UInt8)=>e (((p.1:Nat):Int),p.2)) (bwd z z.length) c=some D:=k;obtain⟨J,x,M,r,hs,_⟩:=ZFX (i:=ZRR) (z:=z) a K (cs:=[.ptr 0 0]) (s:=⟨0,[],[((0,0),.sl .w8 z)],[(0,1)],1,[],0,[]⟩) rfl;obtain⟨V,us,rfl,F,r⟩:=r.un;cases r.un0;simp only[VR]at F;obtain⟨-,rfl⟩:=F;have c0:=hs.ce 0 0 (.sl .w8 z) rfl;rcases c0 with c0|⟨-,G,Y,t,N,Q,w0⟩
 . cases c0
 have w0:IsSlice J.H RU8 1 t z:=w0;rw[M]at w0;show Does P f #[.func (.yield E) #[] #[],.pointer (some ⟨(J.ν 0).1,0,none⟩)] [sgW W 0,O] H _;rw[N];refine Pl 0 rfl λH1 l A=>P3 (K2:=[O]) rfl ?_;have A:=A 0 t (by rw[<-Sf];exact Q);have B:YSpecG P E (λH' args (y:Nat×UInt8)=>args= #[.int .i64 ((y.1:Nat):Int),.int .u8 (y.2.toNat:Int)]) (fun(p:Nat×UInt8)=>e (((p.1:Nat):Int),p.2)) I' X:=λy s args O H w C h1 h2 h3 R S=>by
  subst h2;exact L (((y.1:Nat):Int),y.2) s _ O H w C h1 ⟨rfl,ZCg (o:=⟨[.d .i [],.d .w8 []],[]⟩) (y:=(((y.1:Nat):Int),y.2)) (I:={H:=H,ν:=λ_=>(0,.nilIface),n:=0,κ:=λ_=>0,q:=0}) (seg:=λ_=> []) (cs:=[.i ((y.1:Nat):Int),.w8 y.2]) (Rw.zero _ _) rfl
   (VRs.cons (by simp only[VR]) (VRs.cons (by simp only[VR]) VRs.nil)) rfl⟩ h3 R S
 refine(ZOg (j z H1 t _ (w0.mono RU8.mono l) A) _ c D k B (hI.mono l)).mono ?_;rintro u K' H' ⟨T,rfl,h⟩;exact⟨[],T,rfl,trivial,h⟩
abbrev iPcs:Sp:=⟨[.ptr 0 0,.ptr 1 0],[.cells 1 [.d (.sl .w8) []],.cells 1 [.d (.sl .w8) []]]⟩
theorem ZPV{P:Program}{f:Nat}(L:Enters P f){F:∀{g τ:Type},(List UInt8->g->Option (g ⊕ τ))->g->List UInt8->List UInt8->Option (g ⊕ τ)}
 (M:∀{g τ:Type} (j:List UInt8->g->Option (g ⊕ τ)) (s:g) (c d:List UInt8) (H:Heaplet) {w:Nat} {I:g->Own->Heaplet->Prop} {X:τ->Own->Heaplet->Prop} {O:Own} {a b T S:Nat} {v u:Value},
  YSpecG P w (fun(H:Heaplet) (args:Array Value) (y:List UInt8)=>∃t:Value,args= #[t]/\IsSlice H RU8 1 t y) j I X->IX I X (.inl s) O H->IsSlice H RU8 1 v c->IsSlice H RU8 1 u d->∀r:g ⊕ τ,F j s c d=some r->
  Does P f #[.func (.yield w) #[] #[],.pointer (some ⟨a,0,none⟩),.pointer (some ⟨b,0,none⟩)] [[(a,.cells #[v] T (0,0))],[(b,.cells #[u] S (0,0))],O] H (λ_ K' H'=>∃G:Own,K'= [[(a,.cells #[v] T (0,0))],[(b,.cells #[u] S (0,0))],G]/\IX I X r G H')):
 ItOk P f ⟨iPcs,1,[.d (.sl .w8) []],fun(x:List UInt8×List UInt8) _ _ j s=>F j s x.1 x.2⟩:=by
 refine⟨L,?_⟩;intro H W vs z A hT g τ j B U N w I' X' O hY hI;obtain⟨c,d⟩:=z;have N:F j B c d=some U:=N;obtain⟨J,x,hJ,C,hs,_⟩:=ZFX (i:=iPcs) (z:=(c,d)) A hT (cs:=[.ptr 0 0,.ptr 1 0]) (s:=⟨0,[],[((1,0),.sl .w8 d),((0,0),.sl .w8 c)],[(1,1),(0,1)],2,[],0,[]⟩) rfl;obtain⟨v2,us,rfl,V,C⟩:=C.un;obtain⟨v3,us2,rfl,Y,C⟩:=C.un;cases C.un0;simp only[VR]at V Y;obtain⟨-,rfl⟩:=V;obtain⟨-,rfl⟩:=Y;obtain⟨-,k,T0,Z,n0⟩:=hs.ze 0 1 rfl;obtain⟨-,l,T,g1,n1⟩:=hs.ze 1 1 rfl;have c0:=hs.ce 0 0 (.sl .w8 c) rfl;have Q:=hs.ce 1 0 (.sl .w8 d) rfl;rcases c0 with c0|⟨-,m,T0',u0,D,q0,w0⟩
 . cases c0
 rcases Q with Q|⟨-,p,T1',u1,E,q1,K⟩
 . cases Q
 obtain⟨-,rfl⟩:_/\k=m:=by rw[Z]at D;injection D with h;injection h with h1 h2;injection h2 with h2;exact⟨h1,h2⟩
 obtain⟨-,rfl⟩:_/\l=p:=by rw[g1]at E;injection E with h;injection h with h1 h2;injection h2 with h2;exact⟨h1,h2⟩
 obtain⟨l0⟩:=k;obtain⟨l1⟩:=l;obtain⟨a0,rfl⟩:∃a,l0= [a]:=List.length_eq_one_iff.1 n0;obtain⟨a1,rfl⟩:∃a,l1= [a]:=List.length_eq_one_iff.1 n1;cases q0;cases q1;have w0:IsSlice J.H RU8 1 u0 c:=w0;have K:IsSlice J.H RU8 1 u1 d:=K;rw[hJ]at w0 K;show Does P f #[.func (.yield w) #[] #[],.pointer (some ⟨(J.ν 0).1,0,none⟩),.pointer (some ⟨(J.ν 1).1,0,none⟩)] [sgW W 0,sgW W 1,O] H _;rw[Z,g1];have R:YSpecG P w (fun(H:Heaplet) (args:Array Value) (y:List UInt8)=>∃t:Value,args= #[t]/\IsSlice H RU8 1 t y) j I' X':=Pp hY λH args y ⟨t,e,h⟩=>by
  subst e;exact⟨rfl,ZCg (o:=⟨[.d (.sl .w8) []],[]⟩) (y:=y) (I:={H:=H,ν:=λ_=>(0,.nilIface),n:=0,κ:=λ_=>0,q:=0}) (seg:=λ_=> []) (cs:=[.sl .w8 y]) (Rw.zero _ _) rfl (VRs.cons (by simp only[VR];exact h) VRs.nil) rfl⟩
 refine(M j B c d H R hI w0 K U N).mono ?_;rintro u K' H' ⟨G,rfl,h⟩;exact⟨[_,_],G,rfl,trivial,h⟩
theorem ZSy (n:Nat):InjR (idR n):=λi j a e1 e2=>by
 rw[ZC4]at e1 e2;split at e1
 . split at e2
   . cases e1;cases e2;rfl
   . cases e2
 . cases e1
theorem Pw{P:Program}{f:Nat}{i o:Sp}{p:VH (hyS i)->Option (VH (hyS o))}(r:VH (hyS i)->List CV)(t:VH (hyS i)->PS)
 (j:∀z,PS.bu s0 [] i (ofVH (hyS i) z) (λus s=>some (us,s))=some (r z,t z))
 (h:∀(I:In) (x:Cx) (seg:Nat->Own) (vs:List Value) (z:VH (hyS i)) (y:VH (hyS o)),VRs I (r z) vs->RS x (t z) I seg [] ((List.range i.bs.length).map seg) I.H->p z=some y->
  Does P f vs.toArray ((List.range i.bs.length).map seg) I.H (λu K' H'=>∃(us:List Value) (I':In) (seg':Nat->Own) (s':PS) (co:List CV) (ρ:Rho),u=Ow.pack us/\I'.H=H'/\(∀k,k<i.bs.length->I'.ν k=I.ν k)/\
   Rw s' [] I' seg'/\VRs I' co us/\mtS s' o co (idR i.bs.length) (λhs ρ js=>some (hs,ρ,js))=some (ofVH (hyS o) y,ρ,[])/\(∀k a,ZG ρ k=some a->k<o.bs.length)/\K'.flatten=((List.range o.bs.length).map (sgW (Wf ρ I' seg'))).flatten)):FnOk P f i o p:=by
 intro H W vs z y b A l w v c;obtain⟨J,x,B,C,hs,m⟩:=ZFX b A (j z);rw[<-B]at hs v c|-;refine CallsIn.mono (h J x (sgW W) vs z y C hs l w v c) ?_;rintro e G ⟨u,K',H',rfl,⟨us,I',seg',s',co,ρ,e1,e2,e3,e4,e5,e6,e7,e8⟩,D⟩;obtain⟨E,F,js,g,d,_,_,n⟩:=ZCn e6 (ZSy _);cases g;refine⟨u,(List.range o.bs.length).map (sgW (Wf ρ I' seg')),H',rfl,⟨us,Wf ρ I' seg',λk w e=> ?_,λk w e=> ?_,e1,?_,rfl⟩,?_⟩
 . unfold Wf at e;cases q:ZG ρ k with
   |none=>rw[q]at e;cases e
   |some a=>exact e7 k a q
 . have g:=b k w e;refine⟨(nuO I' (some k),sgO seg' (some k)),?_,?_⟩
   . unfold Wf;rw[d _ _ (by rw[ZC4,TG g])];rfl
   . show I'.ν k=w.1;rw[e3 k g,m k w e]
 . rw[<-e2];exact n I' seg' us e4 e5.vu
 . rw[<-e8];exact D
theorem P7{P:Program}{f:Nat}{i o:Sp}{c:VH (hyS i)->Option (VH (hyS o))}(h:FnOk P f i o c)(hi:i.bs= [])(g:o.bs= []){I:In}{us:List Value}{cs co:List CV}{z:VH (hyS i)}{y:VH (hyS o)}(j:VRs I cs us)
 (l:mtS s0 i cs [] (λhs ρ js=>some (hs,ρ,js))=some (ofVH (hyS i) z,[],[]))(a:c z=some y)(b:PS.bu s0 [] o (ofVH (hyS o) y) (λus s=>some (us,s))=some (co,s0)):
 Does P f us.toArray [] I.H (λu K' H'=>K'= []/\∃ws J,J.H=H'/\u=Ow.pack ws/\VRs J co ws):=by
 have m:=ZCg (Rw.zero I (λ_=> [])) rfl j l;have:=h I.H _ us z y (λk w e=>by unfold Wf at e;cases e) m a;rw[hi]at this;refine this.mono ?_;rintro u K' H' ⟨ws,W,h1,_,h3,n,d⟩;rw[g]at d;obtain⟨J,x,p,q,_,_⟩:=ZFX h1 n b;exact⟨d,ws,J,p,h3,q⟩
def Kf (P:Program)(f:Nat)(S:Spec):Prop:=Enters P f/\FnOk P f S.i S.o S.f
def Kd (P:Program)(f:Nat)(S:Spec):Prop:=Enters P f/\FnOkG (DoesD P f) S.i S.o S.f
abbrev Tb:Type:=List (Nat×List Spec)
abbrev Kt (K:Nat->Spec->Prop)(l:Tb):Prop:=List.rec True (λp _ a=>List.rec a (λS _ i=>K p.1 S/\i) p.2) l
noncomputable abbrev lkT (l:Tb) (f:Nat):List Spec:=(ZG l f).getD []
theorem Kt.get{K:Nat->Spec->Prop}:∀{l:Tb},Kt K l->∀f,∀S∈lkT l f,K f S
  |[],_,f,S,h=>by cases h
  | (g,m) ::l,d,f,S,h=>by
    have split:∀(m:List Spec),(List.rec (motive:=λ_=>Prop) (Kt K l) (λS _ i=>K g S/\i) m)->(∀S∈m,K g S)/\Kt K l:=λm=>by
      induction m with
      |nil=>exact λh=>⟨λS h=>(by cases h),h⟩
      |cons a r c=>exact λh=>⟨λS b=>by
          rcases Ta.1 b with rfl|b
          . exact h.1
          . exact(c h.2).1 S b,(c h.2).2⟩
    obtain⟨h1,h2⟩:=split m d;unfold lkT at h;rw[ZE]at h;split at h
    . rename_i q;have q:g=f:=q;subst q;exact h1 S h
    . exact Kt.get h2 f S h
def entQ (P : Program) (f : Nat) : Bool := match P.funcs[f]? with | some fn => Bool.and (Bool.not fn.body.isNone) (Bool.not (fn.name == "runtime.NumGoroutine")) | none => false
theorem ZD5{P:Program}{f:Nat}(h:entQ P f=true):Enters P f:=by
 unfold entQ at h;split at h
 . rename_i fn a;rw[TE]at h;exact Z2 a (by simpa using h.1) (by simpa using h.2)
 . cases h
def NtL (P:Program)(l:List (Nat×NK)):Prop:=∀f n,ZG l f=some n->NtOk P f n
theorem NtL.nil{P:Program}:NtL P []:=λf n h=>by cases h
theorem NtL.cons{P:Program}{l:List (Nat×NK)}{f:Nat}{n:NK}(h:NtOk P f n)(a:NtL P l):NtL P ((f,n)::l):=λg m e=>by
 rw[ZE]at e;split at e
 . rename_i q;have q:f=g:=q;subst q;cases e;exact h
 . exact a g m e
noncomputable abbrev mkX (P:Program) (ty:List (Nat×Ty)) (nt:List (Nat×NK)) (hb:List Nat) (t d:Tb):Env:=⟨P,ty,lkT t,lkT d,nt,hb⟩
theorem ZOm{P:Program}{ty:List (Nat×Ty)}{nt:List (Nat×NK)}{hb:List Nat}{t d:Tb}(hn:NtL P nt)(ht:Kt (Kf P) t)(a:Kt (Kd P) d):EnvOk (mkX P ty nt hb t d):=⟨λf S h=>ht.get f S h,λf S h=>a.get f S h,λf n h=>hn f n h⟩
theorem FnOkG.of{DO:Array Value->List Own->Heaplet->(Value->List Own->Heaplet->Prop)->Prop}{i o:Sp}{a b:VH (hyS i)->Option (VH (hyS o))}(h:FnOkG DO i o a)(e:∀x,a x=b x):FnOkG DO i o b:=by
 rw[<-funext e];exact h
theorem kG{P:Program}{f:Nat}{i o:Sp}{a:VH (hyS i)->Option (VH (hyS o))}(b:entQ P f=true)(h:FnOk P f i o a):Kf P f ⟨i,o,a⟩:=⟨ZD5 b,h⟩
section
variable{P:Program}{ty:List (Nat×Ty)}{nt:List (Nat×NK)}{hb:List Nat}{t d:Tb}{Z:Hints}{f:Nat}{S:Spec}
theorem kv (hn:NtL P nt)(t d:Tb)(hb:List Nat)(Z:Hints)(a:entQ P f=true)(ht:Kt (Kf P) t)(h:∀x,fnV (mkX P ty nt hb t d) Z f S.i S.o x=S.f x)(b:Kt (Kd P) d:=by trivial):Kf P f S:=⟨ZD5 a,(ZUy (ZOm hn ht b)).of h⟩
theorem kr (hn:NtL P nt)(t d:Tb)(hb:List Nat)(it:List (Nat×List ItSpec))(hI:∀f,∀S∈lkI it f,ItOk P f S)(Z:Hints)(a:entQ P f=true)(ht:Kt (Kf P) t)(h:∀x,fnR (mkX P ty nt hb t d) (lkI it) Z f S.i S.o x=S.f x)(b:Kt (Kd P) d:=by trivial):Kf P f S:=⟨ZD5 a,(ZUz (ZOm hn ht b) hI).of h⟩
theorem kD (hn:NtL P nt)(t d:Tb)(hb:List Nat)(Z:Hints)(a:entQ P f=true)(ht:Kt (Kf P) t)(h:∀x,fnD (mkX P ty nt hb t d) Z f S.i S.o x=S.f x)(b:Kt (Kd P) d:=by trivial):Kf P f S:=⟨ZD5 a,(ZU0 (ZOm hn ht b)).of h⟩
theorem kw (hn:NtL P nt)(t d:Tb)(hb:List Nat)(Z:Hints)(a:entQ P f=true)(ht:Kt (Kf P) t)(h:∀x,fnV (mkX P ty nt hb t d) Z f S.i S.o x=S.f x)(b:Kt (Kd P) d:=by trivial):Kd P f S:=⟨ZD5 a,(ZS2 (ZOm hn ht b)).of h⟩
theorem P4{P:Program}:∀f,∀S∈lkI [] f,ItOk P f S:=λf S h=>by cases h
theorem PD{P:Program}{g:Nat}{S:ItSpec}{l:List (Nat×List ItSpec)}(h:ItOk P g S)(b:∀f,∀S∈lkI l f,ItOk P f S):∀f,∀T∈lkI ((g,[S])::l) f,ItOk P f T:=λf T a=>by
 have e:lkI ((g,[S])::l) f=if g=f then [S]else lkI l f:=by
  show(Bool.rec (lkI l f) [S] (Nat.beq g f):List ItSpec)=_;by_cases q:g=f
  . subst q;rw[TG rfl,Nat.beq_refl]
  . rw[TM q];cases hb:Nat.beq g f
    . rfl
    . exact absurd (TB hb) q
 rw[e]at a;split at a
 . rename_i q;subst q;rw[Rp]at a;subst a;exact h
 . exact b f T a
end
theorem agg_ok{I:In}{k:Sn}{x:stT k}{cs:Array Value}(h:RT (.st k) I.H cs.toList x):VR I (.ag (stC k x)) (.agg cs):=by
 simp only[VR];exact⟨cs.toList,by simp,(RT.cells (.st k) x _).1 h⟩
abbrev argI (H:Heaplet):In:=⟨H,λ_=>(0,.nilIface),0,λ_=>0,0⟩
theorem true_of{u:Value}{K:List Own}{H':Heaplet}(h:K= []/\∃ws J,In.H J=H'/\u=Ow.pack ws/\VRs J [.b true] ws):u=.bool true:=by
 obtain⟨_,ws,J,_,rfl,a⟩:=h;obtain⟨w,ws,rfl,h1,h2⟩:=a.un;cases h2.un0;simp only[VR]at h1;exact h1
theorem Kf.use{P:Program}{f:Nat}{i o:Sp}{c:VH (hyS i)->Option (VH (hyS o))}(h:Kf P f ⟨i,o,c⟩)(hi:i.bs= [])(d:o.bs= []){I:In}{us:List Value}{cs co:List CV}{z:VH (hyS i)}{y:VH (hyS o)}(e:VRs I cs us)
 (g:mtS s0 i cs [] (λhs ρ js=>some (hs,ρ,js))=some (ofVH (hyS i) z,[],[]))(a:c z=some y)(b:PS.bu s0 [] o (ofVH (hyS o) y) (λus s=>some (us,s))=some (co,s0)):
 Does P f us.toArray [] I.H (λu K' H'=>K'= []/\∃ws J,J.H=H'/\u=Ow.pack ws/\VRs J co ws):=P7 h.2 hi d e g a b
end Go.Pv
namespace Go.Ow
def Kg (p:UInt64)(a:UInt64):Option (UInt64×UInt64):=
 some ((((sr64 p (((32:UInt64).toNat:Int)).toNat)*(sr64 a (((32:UInt64).toNat:Int)).toNat))+(sr64 (((sr64 p (((32:UInt64).toNat:Int)).toNat)*(a&&&(4294967295:UInt64)))+(sr64 ((p&&&(4294967295:UInt64))*(a&&&(4294967295:UInt64))) (((32:UInt64).toNat:Int)).toNat)) (((32:UInt64).toNat:Int)).toNat))+(sr64 (((((sr64 p (((32:UInt64).toNat:Int)).toNat)*(a&&&(4294967295:UInt64)))+(sr64 ((p&&&(4294967295:UInt64))*(a&&&(4294967295:UInt64))) (((32:UInt64).toNat:Int)).toNat))&&&(4294967295:UInt64))+((p&&&(4294967295:UInt64))*(sr64 a (((32:UInt64).toNat:Int)).toNat))) (((32:UInt64).toNat:Int)).toNat),p*a)
def Qz (p:UInt64)(a:UInt64):Option (UInt64×UInt64):=
 Option.bind (Kg p a) λx=>some (x.1,x.2)
def Kr (s:List Int×Int):Option ((List Int×Int) ⊕ (List Int)):=
 cond (decide (s.2<(s.1.length:Int))) (chk (0<=s.2/\s.2<=(s.1.length:Int)/\(s.1.length:Int)<=s.1.length)<|chk (0<=(0:Int)/\(0:Int)<=s.2/\s.2<=s.1.length)<|cpyO s.1 s.2 (s.1.length:Int) (cut s.1 (0:Int) s.2) λm=>some (.inl (m,w64 (s.2+(min ((cut s.1 (0:Int) s.2).length:Int) ((s.1.length:Int)-s.2)))))) (some (.inr s.1))
def Qn (p:List Int)(b:Int):Option (List Int):=
 cond (decide (b<0)) (none) (Option.bind (Qz (u64i (p.length:Int)) (u64i b)) λa=>cond (decide ((0:UInt64)<a.1)) (none) (cond (decide ((9223372036854775807:UInt64)<a.2)) (none) (mks (w64 (a.2.toNat:Int)) 0 λx=>cpyO x 0 (x.length:Int) p λm=>Option.bind (loop Kr (m,min (p.length:Int) ((x.length:Int)-0))) (λt=>some t))))
def Vu (p:List Int):Option (List (List UInt8)):=if(∀n∈p,0<=n)/\(p.map Int.toNat).sum<=LIM/\p.length<=LIM then some (p.map λn=>List.replicate n.toNat 0)else none
def Uk:Option Disk:=
 Option.bind (Qn ([256]) 256) λa=>Option.bind (Vu a) λx=>some (Disk.mk x ([]:List Write))
def og_bytes_Clone (p:List UInt8):Option (List UInt8):=app [] p λq=>some q
def Qp (p:Disk)(s:List Write×Nat):Option ((List Write×Nat) ⊕ (List Write)):=
 cond (decide (((s.2:Nat):Int)<(p.Waits.length:Int))) (idx p.Waits ((s.2:Nat):Int) λy=>Option.bind (og_bytes_Clone y.Data) λx=>app s.1 ([Write.mk y.At x]) λq=>some (.inl (q,s.2+1))) (some (.inr s.1))
def Qq (p:Disk)(s:List (List UInt8)×Nat):Option ((List (List UInt8)×Nat) ⊕ (List (List UInt8))):=
 cond (decide (((s.2:Nat):Int)<(p.Blocks.length:Int))) (idx p.Blocks ((s.2:Nat):Int) λy=>idx s.1 ((s.2:Nat):Int) λa=>chk (y.length=a.length)<|setI s.1 ((s.2:Nat):Int) y λm=>some (.inl (m,s.2+1))) (some (.inr s.1))
def Qr (p:Disk)(s:List Int×Nat):Option ((List Int×Nat) ⊕ (List Int)):=
 cond (decide (((s.2:Nat):Int)<(p.Blocks.length:Int))) (idx p.Blocks ((s.2:Nat):Int) λy=>app s.1 ([(y.length:Int)]) λq=>some (.inl (q,s.2+1))) (some (.inr s.1))
def X4 (p:Disk):Option Disk:=
 Option.bind (loop (Qr p) (([]:List Int),0)) (λb=>Option.bind (Vu b) λx=>Option.bind (loop (Qq p) (x,0)) (λt=>Option.bind (loop (Qp p) (([]:List Write),0)) (λa=>some (Disk.mk t a))))
def og_slices_Clone_byte_L (p:List (List UInt8)):Option (List (List UInt8)):=app [] p λq=>some q
def ZCh (p:Int):Option Bool:=
 some true
def KU (p:Disk)(s:(List (Int×Write))×Nat):Option (((List (Int×Write))×Nat) ⊕ (List (Int×Write))):=
 cond (decide (((s.2:Nat):Int)<(p.Waits.length:Int))) (idx p.Waits ((s.2:Nat):Int) λy=>Option.bind (ZCh ((s.2:Nat):Int)) λx=>cond x (some (.inl ((putM s.1 y.At y),s.2+1))) (some (.inl (s.1,s.2+1)))) (some (.inr s.1))
def VL (p:Disk):Option (List (Int×Write)):=
 Option.bind (loop (KU p) (([]:List (Int×Write)),0)) (λt=>some t)
def Qo (p:Disk):Option Disk:=
 Option.bind (og_slices_Clone_byte_L p.Blocks) λx=>Option.bind (VL (Disk.mk x p.Waits)) λa=>layR (λy:Write=>y.Data) x a λm=>Option.bind (X4 (Disk.mk m ([]:List Write))) λb=>some b
def og_bytes_Repeat_l1 (x:UInt64×UInt64)(t:Int)(s:List UInt8×Int):Option ((List UInt8×Int) ⊕ (List UInt8)):=
 cond (decide (s.2<(w64 (x.2.toNat:Int)))) (chk (0<=s.2/\s.2<=(s.1.length:Int)/\(s.1.length:Int)<=s.1.length)<|chk (0<=(0:Int)/\(0:Int)<=min s.2 t/\min s.2 t<=s.1.length)<|cpyO s.1 s.2 (s.1.length:Int) (cut s.1 (0:Int) (min s.2 t)) λm=>some (.inl (m,w64 (s.2+(min ((cut s.1 (0:Int) (min s.2 t)).length:Int) ((s.1.length:Int)-s.2)))))) (some (.inr s.1))
def QM (p:List UInt8)(a:Int):Option (List UInt8):=
 cond (decide (a=0)) (some ([]:List UInt8)) (cond (decide (a<0)) (none) (Option.bind (Qz (u64i (p.length:Int)) (u64i a)) λx=>cond (decide ((0:UInt64)<x.1)) (none) (cond (decide ((9223372036854775807:UInt64)<x.2)) (none) (cond (decide ((p.length:Int)=0)) (some ([]:List UInt8)) (Option.bind (cond (decide (8192<(w64 (x.2.toNat:Int)))) (chk ((p.length:Int)≠0)<|cond (decide ((w64 ((w64 ((8192:Int).tdiv (p.length:Int)))*(p.length:Int)))=0)) (some (p.length:Int)) (some (w64 ((w64 ((8192:Int).tdiv (p.length:Int)))*(p.length:Int))))) (some (w64 (x.2.toNat:Int)))) (λt=>mks (w64 (x.2.toNat:Int)) (0:UInt8) λn=>slc n 0 (w64 (x.2.toNat:Int)) λm=>cpyO m 0 (m.length:Int) p λb=>Option.bind (loop (og_bytes_Repeat_l1 x t) (b,min (p.length:Int) ((m.length:Int)-0))) (λc=>some c)))))))
def Z5 (p:Int):Option (List UInt8):=
 cond (decide (p<0)) (none) (Option.bind (cond (decide (0<(w64 (p-0)))) (mks (w64 (p-0)) (0:UInt8) λq=>slc q 0 0 λm=>some m) (some ([]:List UInt8))) (λt=>some t))
def YC (p:Int):Option (List Ptr):=
 cond (decide (p<0)) (none) (Option.bind (cond (decide (0<(w64 (p-0)))) (mks (w64 (p-0)) (Ptr.mk 0 (0:UInt32) (0:UInt32) (0:UInt32) (0:UInt32)) λq=>slc q 0 0 λm=>some m) (some ([]:List Ptr))) (λt=>some t))
def sortL{α:Type} [Inhabited α](cf:α->α->Int)(l:List α):List α:=(Sort.pdq (λx y=>decide (cf x y<0)) l.toArray 0 l.length (Lib.bitLen l.length) true true).toList
end Go.Ow
