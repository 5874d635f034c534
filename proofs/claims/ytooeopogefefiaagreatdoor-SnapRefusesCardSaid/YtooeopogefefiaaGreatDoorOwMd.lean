import Derived.Test.YtooeopogefefiaaGreatDoorOwMc
import Derived.RecoverIn
import Derived.WideLaws
/-
  What is proved here: each operation that computes, or looks up, yields in the machine what it yields on such states.
-/
set_option linter.constructorNameAsVariable false
set_option linter.unusedSimpArgs false
set_option linter.unusedVariables false
namespace Go.Pv
open Go Go.Ow Go.RowKit
section
variable{β:Type}{r:β}{x:Cx}{X:Env}{s:PS}{I:In}{seg:Nat->Own}{l:Slots}{own:List Own}{H:Heaplet}
variable{p q:Operand}{t u:TypeId}{ty:TypeId}{k:CV->Option β}{M:List Own->Heaplet->Prop}
abbrev AtM (own:List Own)(H:Heaplet):List Own->Heaplet->Prop:=λo h=>o=own/\h=H
theorem ZB3{op:BinOp}{e:Bool}(h1:∀own H,M own H->Runs x (.binOp .eql t p q u) ty l own H (.bool e))(h2:∀own H,M own H->Runs x (.binOp .neq t p q u) ty l own H (.bool (!e)))(h:fb op e k=some r):Yl x I (.binOp op t p q u) ty l M k r:=by
 cases op with
 |eql=>exact Yl.of h1 (by simp only[VR]) h
 |neq=>exact Yl.of h2 (by simp only[VR]) h
 |_=>cases h
theorem R_eqP{x:Cx}{l:Slots}{own:List Own}{H:Heaplet}{p q:Operand}{t u ty E:TypeId}{a:Option Addr}(b:x.P.underlying t=some (.pointer E))(h1:evo l p=some (.pointer a))(h2:evo l q=some (.pointer none)):Runs x (.binOp .eql t p q u) ty l own H (.bool a.isNone):=
 λρ w _ _ _ _ h c=>by
  have:=ZJC (P:=x.P) (w:=w) (a:=a) b;simp[execOp,h _ _ h1,h _ _ h2,eqGuard,binOp,go_sem,this]
theorem R_neP{x:Cx}{l:Slots}{own:List Own}{H:Heaplet}{p q:Operand}{t u ty E:TypeId}{a:Option Addr}(b:x.P.underlying t=some (.pointer E))(h1:evo l p=some (.pointer a))(h2:evo l q=some (.pointer none)):Runs x (.binOp .neq t p q u) ty l own H (.bool (!a.isNone)):=
 λρ w _ _ _ _ h c=>by
  have:=ZJC (P:=x.P) (w:=w) (a:=a) b;simp[execOp,h _ _ h1,h _ _ h2,eqGuard,binOp,go_sem,this]
theorem ZUg (i:x.P=X.P){op:BinOp}{a:CV}{v:Value}(ht:isPtr X.P t=true)(h1:evo l p=some v)(d:VR I a v)(h2:evo l q=some (.pointer none))(h:pnl op a k=some r):Yl x I (.binOp op t p q u) ty l M k r:=by
 unfold isPtr at ht;split at ht
 . rename_i E f;rw[<-i]at f;have c:∀(a:Option Addr) (e:Bool),a.isNone=e->v=.pointer a->fb op e k=some r->Yl x I (.binOp op t p q u) ty l M k r:=λa e g j h=>by
    subst j;exact ZB3 (λ_ _ _=>g▸R_eqP f h1 h2) (λ_ _ _=>g▸R_neP f h1 h2) h
   unfold pnl at h;split at h
   . simp only[VR]at d;exact c none true rfl d h
   . simp only[VR]at d;exact c _ false rfl d.2 h
   . simp only[VR]at d;obtain⟨b,q,cs,e,_⟩:=d;exact c _ false rfl e h
   . simp only[VR]at d;obtain⟨_,b,q,_,e⟩:=d;exact c _ false rfl e h
   . simp only[VR]at d;rcases d with⟨rfl,e⟩|⟨y,rfl,b,q,cs,e,_⟩
     . exact c none true rfl e h
     . exact c _ false rfl e h
   . simp only[VR]at d;rcases d with⟨rfl,e⟩|⟨y,rfl,_,b,q,_,e⟩
     . exact c none true rfl e h
     . exact c _ false rfl e h
   . cases h
 . cases ht
theorem Wa{c:CV}{v:Value}{k:Int->Option β}(a:VR I c v)(h:oIx c k=some r):∃n b,v=.int b n/\k n=some r:=by
 unfold oIx at h;split at h
 . simp only[VR]at a;exact⟨_,_,a,h⟩
 . simp only[VR]at a;exact⟨_,_,a.2.2,h⟩
 . simp only[VR]at a;exact⟨_,_,a.2,h⟩
 . simp only[VR]at a;exact⟨_,_,a,h⟩
 . simp only[VR]at a;exact⟨_,_,a,h⟩
 . simp only[VR]at a;exact⟨_,_,a,h⟩
 . cases h
theorem ZUX{op:BinOp}{a:CV}{v:Value}{n:Int}{c:IntKind}(h1:evo l p=some v)(b:VR I a v)(h2:evo l q=some (.int c n))(h:shW op a n k=some r):Yl x I (.binOp op t p q u) ty l M k r:=by
 unfold shW at h;split at h
 . simp only[VR]at b;subst b;exact Yl.of (λ_ _ _=>ZOz h1 h2 (ZH h).1) (by simp only[VR]) (ZH h).2
 . simp only[VR]at b;subst b;exact Yl.of (λ_ _ _=>ZOy h1 h2 (ZH h).1) (by simp only[VR]) (ZH h).2
 . simp only[VR]at b;subst b;exact Yl.of (λ_ _ _=>ZVF h1 h2 (ZH h).1) (by simp only[VR]) (ZH h).2
 . simp only[VR]at b;subst b;exact Yl.of (λ_ _ _=>ZVE h1 h2 (ZH h).1) (by simp only[VR]) (ZH h).2
 . simp only[VR]at b;subst b;exact Yl.of (λ_ _ _=>ZTg h1 h2 (ZH h).1) (by simp only[VR]) (ZH h).2
 . simp only[VR]at b;subst b;exact Yl.of (λ_ _ _=>ZTe h1 h2 (ZH h).1) (by simp only[VR]) (ZH h).2
 . simp only[VR]at b;subst b;exact Yl.of (λ_ _ _=>ZTf h1 h2 (ZH h).1) (by simp only[VR]) (ZH h).2
 . simp only[VR]at b;subst b;exact Yl.of (λ_ _ _=>ZBV h1 h2 (ZH h).1) (by simp only[VR]) (ZH h).2
 . cases h
theorem B8{a b:Option β}{r:β}(h:agree a b=some r):a=some r/\b=some r:=by
 unfold agree at h;split at h
 . rename_i e;exact⟨h,e▸h⟩
 . cases h
theorem ZC3{P:Program}{T:Nat}(h:isSlT P T=true):∃e,P.underlying T=some (.slice e):=by
 unfold isSlT at h;split at h
 . exact⟨_,by assumption⟩
 . cases h
theorem ZBF{α:Type}{m:List α}{a b:Option β}{r:β}(h:nilq m a b=some r):(m= []/\a=some r/\b=some r)\/b=some r:=by
 unfold nilq at h;split at h
 . exact .inl ⟨rfl,B8 h⟩
 . exact .inr h
theorem ZIO{P:Program}{T n:Nat}(h:arrOk P T n=true):∃m e,P.underlying T=some (.array m e)/\m=n/\P.underlying e=some (.int .u8)/\ZC P e=some (false,1)/\P.cellsOf e=1/\P.eqGuardType P.depth T=false:=by
 unfold arrOk at h;split at h
 . rename_i m e a;simp only[TE]at h;obtain⟨h1,h2,h3,b,c⟩:=h;refine⟨m,e,a,TB h1,?_,?_,TB b,by simpa using c⟩
   . split at h2
     . assumption
     . cases h2
   . split at h3
     . assumption
     . cases h3
 . cases h
theorem ZHM{I:In}:∀{cs:List CV} {vs:List Value} {k:List UInt8->Option β},VRs I cs vs->o8l cs k=some r->∃as,vs=bvs as/\as.length=cs.length/\k as=some r
  |[],vs,k,b,h=>by cases b.un0;exact⟨[],rfl,rfl,h⟩
  | c ::cs,vs,k,b,h=>by
    obtain⟨v,us,rfl,h1,h2⟩:=b.un;have h:o8 c (λa=>o8l cs λr=>k (a::r))=some r:=h;cases c with
    | w8 a=>
      obtain⟨as,e1,e2,h⟩:=ZHM h2 (show o8l cs (λr=>k (a::r))=some r from h)
      simp only[VR]at h1;exact⟨a::as,by rw[h1,e1];rfl,by simp[e2],h⟩
    |_=>cases h
theorem ZTP (i:x.P=X.P)(hs:RS x s I seg l own H){op:BinOp}{a b:CV}{v w:Value}(h1:evo l p=some v)(f:VR I a v)(h2:evo l q=some w)(hb:VR I b w)(h:bop0 X s op t a b k=some r):Yl x I (.binOp op t p q u) ty l M k r:=by
  unfold bop0 at h;split at h
  . simp only[VR]at hb;subst hb;exact ZKn h1 f h2 h
  . simp only[VR]at hb;obtain⟨_,_,rfl⟩:=hb;exact ZKn h1 f h2 h
  . simp only[VR]at hb;obtain⟨z,rfl⟩:=hb;split at h
    . simp only[VR]at f;obtain⟨T,U,rfl⟩:=f;exact Yl.of (λ_ _ _=>ZKs h1 h2) (by simp only[VR];exact⟨T,U,z,trivial⟩) h
    . exact ZKn h1 f h2 h
  . simp only[VR]at hb;subst hb;split at h
    . simp only[VR]at f;subst f;exact b8_ok h1 h2 h
    . cases h
  . simp only[VR]at hb;subst hb;split at h
    . simp only[VR]at f;subst f;exact ZVA h1 h2 h
    . cases h
  . simp only[VR]at hb;subst hb;split at h
    . simp only[VR]at f;subst f;exact ZU9 h1 h2 h
    . cases h
  . simp only[VR]at hb;subst hb;split at h
    . rename_i g;simp only[VR]at f;subst f;exact ZB3 (λ_ _ _=>ZP2 (by rw[i];exact g) h1 h2) (λ_ _ _=>ZP1 (by rw[i];exact g) h1 h2) h
    . cases h
  . simp only[VR]at hb;subst hb;split at h
    . simp only[VR]at f;subst f;exact ZB3 (λ_ _ _=>ZR5 h1 h2) (λ_ _ _=>ZR0 h1 h2) h
    . cases h
  . simp only[VR]at hb;subst hb;obtain⟨ht,h⟩:=ZA h;exact ZUg i ht h1 f h2 h
  . simp only[VR]at hb;subst hb;split at h
    . rename_i y m;obtain⟨ht,h⟩:=ZA h;obtain⟨e,g⟩:=ZC3 ht;rw[<-i]at g;simp only[VR]at f;obtain⟨ao,cap,rfl⟩:=IsSlice.val f;cases ao with
      | none=>
        have z:=f.none_nil;have o:fb op true k=some r:=by
          rcases ZBF h with⟨_,h,_⟩|h
          . exact h
          . subst z;exact(B8 (show agree _ _=some r from by assumption)).1
        exact ZB3 (λ_ _ _=>JI g h1 h2) (λ_ _ _=>ZAz g h1 h2) o
      | some a=>
        have o:fb op false k=some r:=by
          rcases ZBF h with⟨_,_,h⟩|h<;>exact h
        exact ZB3 (λ_ _ _=>JI g h1 h2) (λ_ _ _=>ZAz g h1 h2) o
    . obtain⟨ht,h⟩:=ZA h;obtain⟨e,g⟩:=ZC3 ht;rw[<-i]at g;simp only[VR]at f;subst f;exact ZB3 (λ_ _ _=>JI g h1 h2) (λ_ _ _=>ZAz g h1 h2) h
    . split at h
      . rename_i j _ _ _ m V;obtain⟨ht,h⟩:=ZA h;obtain⟨e,g⟩:=ZC3 ht;rw[<-i]at g;obtain⟨Z,W⟩:=(hs.rw _ _ V).resolve_left (by simp);have f:j<I.n/\v=(I.ν j).2/\∃a n c,v=.slice a n c:=(by simpa only[VR]using f);obtain⟨_,e1,ao,n,cap,rfl⟩:=f;obtain⟨cells,⟨c0,B⟩,_⟩:=W;rw[<-e1]at B;cases ao with
        | none=>
          have z:m= []:=by
            rcases B with⟨_,R,_⟩|⟨_,_,_,D,_⟩
            . exact TX.1 R
            . simp at D
          have o:fb op true k=some r:=by
            rcases ZBF h with⟨_,h,_⟩|h
            . exact h
            . subst z;exact(B8 (show agree _ _=some r from by assumption)).1
          exact ZB3 (λ_ _ _=>JI g h1 h2) (λ_ _ _=>ZAz g h1 h2) o
        | some a=>
          have o:fb op false k=some r:=by
            rcases ZBF h with⟨_,_,h⟩|h<;>exact h
          exact ZB3 (λ_ _ _=>JI g h1 h2) (λ_ _ _=>ZAz g h1 h2) o
      . cases h
    . cases h
  . simp only[VR]at hb;obtain⟨us,rfl,hb⟩:=hb;split at h
    . simp only[VR]at f;obtain⟨vs,rfl,f⟩:=f;cases A:isArr X.P t with
      | true=>
        rw[A]at h;obtain⟨E,h⟩:=ZA (show bb (Bool.and _ _) _ none=some r from h)
        simp only[TE]at E;obtain⟨n,e,C,a2,F,G,J,K⟩:=ZIO E.1;obtain⟨n',e',S,b2,_⟩:=ZIO E.2;obtain⟨as,B,c2,h⟩:=ZHM f h;obtain⟨bs,D,R,h⟩:=ZHM hb h;rw[C]at S;cases S;rw[<-i]at C F G J K;subst B D;exact ZB3 (λ_ _ _=>ZR6 as bs C F G J K h1 h2 rfl rfl (by omega) (by omega)) (λ_ _ _=>ZR1 as bs C F G J K h1 h2 rfl rfl (by omega) (by omega)) h
      |false=>
      rw[A]at h;obtain⟨Y,e,L,h⟩:=ZRd (d:=9999) (by omega) f hb h;obtain⟨N,O,Q⟩:=ZJV Y;rw[<-i]at N O Q L;exact ZB3 (λ_ _ _=>ZR7 N O Q rfl h1 h2 L) (λ_ _ _=>ZR2 N O Q rfl h1 h2 L) h
    . cases h
  . cases h
theorem ZU8 (e:x.P=X.P)(hs:RS x s I seg l own H){op:BinOp}{a b:CV}{v w:Value}(h1:evo l p=some v)(c:VR I a v)(h2:evo l q=some w)(hb:VR I b w)(h:bop X s op t a b k=some r):Yl x I (.binOp op t p q u) ty l M k r:=by
  cases d:isSh op with
  | true=>
    rw[show bop X s op t a b k=(oIx b λn=>shW op a n k)from by unfold bop;rw[d]]at h;obtain⟨n,f,rfl,h⟩:=Wa hb h;exact ZUX h1 c h2 h
  | false=>
    rw[show bop X s op t a b k=bop0 X s op t a b k from by unfold bop;rw[d]]at h;exact ZTP e hs h1 c h2 hb h
theorem ZN2{S T:TypeId}{ds:TypeDesc}{a:IntKind}{m:Int}(hs:x.P.underlying S=some ds)(ht:x.P.underlying T=some (.int a))(h1:evo l p=some (.int .i64 m))(h:cvI m a k=some r):Yl x I (.convert S T p) ty l M k r:=by
 cases a with
 |i64=>exact Yl.of (λ_ _ _=>ZKz hs ht h1) (by simp only[VR]) h
 |u8=>exact Yl.of (λ_ _ _=>ZMx hs ht h1) (by simp only[VR]) h
 |u32=>exact Yl.of (λ_ _ _=>ZKy hs ht h1) (by simp only[VR]) h
 |u64=>exact Yl.of (λ_ _ _=>Vc hs ht h1) (by simp only[VR]) h
 |_=>cases h
theorem ZU4{S T:TypeId}{ds:TypeDesc}{a:IntKind}{m:UInt8}(hs:x.P.underlying S=some ds)(ht:x.P.underlying T=some (.int a))(h1:evo l p=some (.int .u8 (m.toNat:Int)))(h:cv8 m a k=some r):Yl x I (.convert S T p) ty l M k r:=by
 cases a with
 |i64=>exact Yl.of (λ_ _ _=>ZMu hs ht h1) (by simp only[VR]) h
 |u8=>exact Yl.of (λ_ _ _=>ZN9 hs ht h1) (by simp only[VR]) h
 |u32=>exact Yl.of (λ_ _ _=>ZMt hs ht h1) (by simp only[VR]) h
 |u64=>exact Yl.of (λ_ _ _=>ZMs hs ht h1) (by simp only[VR]) h
 |_=>cases h
theorem ZS8{S T:TypeId}{ds:TypeDesc}{a:IntKind}{m:UInt32}(hs:x.P.underlying S=some ds)(ht:x.P.underlying T=some (.int a))(h1:evo l p=some (.int .u32 (m.toNat:Int)))(h:cv32 m a k=some r):Yl x I (.convert S T p) ty l M k r:=by
 cases a with
 |i64=>exact Yl.of (λ_ _ _=>ZKx hs ht h1) (by simp only[VR]) h
 |u8=>exact Yl.of (λ_ _ _=>ZMw hs ht h1) (by simp only[VR]) h
 |u32=>exact Yl.of (λ_ _ _=>ZKw hs ht h1) (by simp only[VR]) h
 |u64=>exact Yl.of (λ_ _ _=>ZKv hs ht h1) (by simp only[VR]) h
 |_=>cases h
theorem ZS7{S T:TypeId}{ds:TypeDesc}{a:IntKind}{m:UInt64}(hs:x.P.underlying S=some ds)(ht:x.P.underlying T=some (.int a))(h1:evo l p=some (.int .u64 (m.toNat:Int)))(h:cv64 m a k=some r):Yl x I (.convert S T p) ty l M k r:=by
 cases a with
 |i64=>exact Yl.of (λ_ _ _=>DB hs ht h1) (by simp only[VR]) h
 |u8=>exact Yl.of (λ_ _ _=>ZMv hs ht h1) (by simp only[VR]) h
 |u32=>exact Yl.of (λ_ _ _=>ZKu hs ht h1) (by simp only[VR]) h
 |u64=>exact Yl.of (λ_ _ _=>ZKt hs ht h1) (by simp only[VR]) h
 |_=>cases h
theorem ZPk{P:Program}{T:Nat}(h:isU8 P T=true):∃e,P.underlying T=some (.slice e)/\P.underlying e=some (.int .u8):=by
 unfold isU8 at h;split at h
 . rename_i e h1;split at h
   . rename_i h2;exact⟨e,h1,h2⟩
   . cases h
 . cases h
theorem ZU3 (j:x.P=X.P)(g:I.H=H){S T:TypeId}(i:x.P.underlying T=some .string->∀o' c,M o' c->o'=own/\c=H){a:CV}{v:Value}(h1:evo l p=some v)(b:VR I a v)(h:cvO X S T a k=some r):Yl x I (.convert S T p) ty l M k r:=by
 unfold cvO at h;rw[<-j]at h;split at h
 . rename_i n ht;split at h
   . rename_i hs;simp only[VR]at b;subst b;exact ZN2 hs ht h1 h
   . rename_i hs;simp only[VR]at b;obtain⟨_,_,rfl⟩:=b;exact ZN2 hs ht h1 h
   . rename_i hs;simp only[VR]at b;obtain⟨_,rfl⟩:=b;exact ZN2 hs ht h1 h
   . rename_i hs;simp only[VR]at b;subst b;exact ZU4 hs ht h1 h
   . rename_i hs;simp only[VR]at b;subst b;exact ZS8 hs ht h1 h
   . rename_i hs;simp only[VR]at b;subst b;exact ZS7 hs ht h1 h
   . cases h
 . rename_i ht;obtain⟨m,h⟩:=ZA h;obtain⟨e,hs,d⟩:=ZPk m;unfold cvT at h;split at h
   . obtain⟨e,h⟩:=Zl h;cases e;simp only[VR]at b;rw[g]at b;exact Yl.of (λo' c f=>by rw[(i ht o' c f).2];exact ZKr hs d ht h1 b) (by simp only[VR]) h
   . obtain⟨e,h⟩:=Zl h;cases e;simp only[VR]at b;rw[g]at b;exact Yl.of (λo' c f=>by rw[(i ht o' c f).2];exact ZKr hs d ht h1 b.1) (by simp only[VR]) h
   . simp only[VR]at b;subst b;exact Yl.of (λ_ _ _=>ZKr hs d ht h1 (IsSlice.nil _ _ _)) (by simp only[VR]) h
   . cases h
 . cases h
theorem Yi (hs:RS x s I seg l own H){a:Nat}(h:a<s.n):own[a]? =some (seg a):=by
 rw[hs.own];simp[h]
theorem ZDi (hs:RS x s I seg l own H){a:Nat}:∀{n o:Nat} {k:List CV->Option β},ldN s a n o k=some r->∃m,k m=some r/\m.length=n/\(n=0\/(a<s.n/\∃cur T,seg a= [((I.ν a).1,.cells cur T (0,0))]/\VRs I m ((cur.toList.drop o).take n)/\((cur.toList.drop o).take n).length=n))
  |0,o,k,h=>⟨[],h,rfl,.inl rfl⟩
  | n +1,o,k,h=>by
    obtain⟨c,e,h⟩:=ZU (show oB (lkO s.o a o) (λc=>kn c λc=>ldN s a n (o+1) λr=>k (c::r))=some r from h)
    obtain⟨h0,h⟩:=ZBK h;obtain⟨i,cur,T,v,e1,e2,e3⟩:=(hs.ce _ _ _ e).resolve_left h0;obtain⟨m,h,d,j⟩:=ZDi hs h;have p:cur.toList.drop o=v::cur.toList.drop (o+1):=by
      have b:=(TD.1 e2).1;rw[Sw b,(TD.1 e2).2]
    refine⟨c::m,h,by simp[d],.inr ⟨i,cur,T,e1,?_⟩⟩;rw[p,List.take_succ_cons];rcases j with rfl|⟨_,f,u,g,q,t⟩
    . cases m with
      |nil=>exact⟨VRs.cons e3 (by simpa using VRs.nil),by simp⟩
      |cons=>cases d
    . rw[e1]at g;cases g;exact⟨VRs.cons e3 q,by simp[t]⟩
theorem ZUt (q:x.P=X.P)(g:∀o' d,M o' d->o'=own/\d=H)(hs:RS x s I seg l own H){T a o:Nat}(h1:evo l p=some (.pointer (some ⟨(I.ν a).1,o,none⟩)))(h:ldO X.P s T a o k=some r):Yl x I (.load T p) ty l M k r:=by
 unfold ldO at h;split at h
 . rename_i n b;rw[<-q]at b;obtain⟨c,e,h⟩:=ZU h;obtain⟨h0,h⟩:=ZBK h;obtain⟨i,cur,t,v,e1,e2,e3⟩:=(hs.ce _ _ _ e).resolve_left h0;exact Yl.of (λo' d f=>by rw[(g o' d f).1,(g o' d f).2];exact ZJl a b h1 (by rw[Yi hs i,e1]) e2) e3 h
 . rename_i n b;rw[<-q]at b;obtain⟨m,h,w,f⟩:=ZDi hs h;rcases f with rfl|⟨i,cur,t,e1,e2,e3⟩
   . cases m with
     |nil=>exact Yl.of (λ_ _ _=>ZO6 (vs:=[]) b h1 (λj u e=>by simp at e) rfl) (by simp only[VR];exact⟨[],rfl,VRs.nil⟩) h
     |cons=>cases w
   . exact Yl.of (λo' d f=>by rw[(g o' d f).1,(g o' d f).2];exact ZN7 a b h1 (by rw[Yi hs i,e1]) rfl e3) (by simp only[VR];exact⟨_,rfl,e2⟩) h
 . cases h
theorem ZUu (s:x.P=X.P)(i:∀o' d,M o' d->o'=own/\d=H)(t:I.H=H){T o b q:Nat}{y:Ty}{z:den y}{cs:List Value}(h1:evo l p=some (.pointer (some ⟨b,q+o,none⟩)))(B:RT y I.H cs z)(w:∀j u,cs[j]? =some u->I.H b (q+j)=some u)(h:ldE X.P T (spC y z) o k=some r):Yl x I (.load T p) ty l M k r:=by
 have A:=(RT.cells y z cs).1 B;unfold ldE at h;split at h
 . rename_i n a;rw[<-s]at a;obtain⟨c,e,h⟩:=ZU h;have C:(spC y z)[o]? =some c:=(by rw[List.head?_drop]at e;exact e);obtain⟨v,D,E⟩:=A.get C;exact Yl.of (λo' d f=>by rw[(i o' d f).1,(i o' d f).2];exact K8 a h1 (by rw[<-t];exact w _ _ D)) E h
 . rename_i n a;rw[<-s]at a;obtain⟨hn,h⟩:=ZA h;have hn:=TB hn;have g:=VRs.take n (VRs.drop o A);have m:∀j u,((cs.drop o).take n)[j]? =some u->H b (q+o+j)=some u:=λj u e=>by
    rw[<-t,Sy];refine w _ _ ?_;rw[Te]at e;split at e
    . rw[SR]at e;exact e
    . cases e
   exact Yl.of (λo' d f=>by rw[(i o' d f).1,(i o' d f).2];exact ZVS (vs:=(cs.drop o).take n) a h1 m (g.length.symm.trans hn)) (by simp only[VR];exact⟨_,rfl,g⟩) h
 . cases h
theorem ZD6{c:CV}{v:Value}{k:CV->Option β}(a:VR I c v)(h:drf c k=some r):∃b,VR I b v/\k b=some r:=by
 unfold drf at h;split at h
 . obtain⟨y,e,h⟩:=Zb h;simp only[VR]at a;rcases a with⟨e2,_⟩|⟨z,e2,a⟩
   . rw[e]at e2;cases e2
   . rw[e]at e2;cases e2;exact⟨_,by simp only[VR];exact a,h⟩
 . obtain⟨y,e,h⟩:=Zb h;simp only[VR]at a;rcases a with⟨e2,_⟩|⟨z,e2,a⟩
   . rw[e]at e2;cases e2
   . rw[e]at e2;cases e2;exact⟨_,by simp only[VR];exact a,h⟩
 . exact⟨_,a,h⟩
theorem ZUs (K:x.P=X.P)(A:∀o' d,M o' d->o'=own/\d=H)(hs:RS x s I seg l own H){T j o:Nat}{y:Ty}{g:Int}{v:Value}(h1:evo l p=some v)(B:RelR I y j g o v)(h:ldR X.P s T y j g o k=some r):Yl x I (.load T p) ty l M k r:=by
 unfold ldR at h;split at h
 . rename_i u E m e;obtain⟨O,h⟩:=ZA h;cases Vz O;obtain⟨z,Q,h⟩:=Ym h;obtain⟨R,C⟩:=(hs.rw _ _ e).resolve_left (by simp);have C:RowOf I.H (RT y) 0 E (szY y) (I.ν j).2 m (seg j):=C;obtain⟨_,b,q,S,rfl⟩:=B;obtain⟨b',q',cs,cur,U,D,V,hl,L⟩:=RowOf.elem C Q;obtain⟨rfl,rfl⟩:=S.one D;have B:=(RT.cells y z cs).1 V;have f:own[j]? =some [(b,.cells cur E (0,0))]:=(by rw[Yi hs R,U]);unfold ldE at h;split at h
   . rename_i n a;rw[<-K]at a;obtain⟨c,e,h⟩:=ZU h;have W:(spC y z)[o]? =some c:=(by rw[List.head?_drop]at e;exact e);obtain⟨w,Y,Z⟩:=B.get W;exact Yl.of (λo' d i=>by rw[(A o' d i).1,(A o' d i).2];exact ZJl j a h1 f (L _ _ Y)) Z h
   . rename_i n a;rw[<-K]at a;obtain⟨hn,h⟩:=ZA h;have hn:=TB hn;have t:=VRs.take n (VRs.drop o B);have F:((cs.drop o).take n).length=n:=t.length.symm.trans hn;have G:(cs.drop o).take n=(cur.toList.drop (q+o)).take n:=by
      apply Tp;intro j;by_cases N:j<n
      . have:j<((cs.drop o).take n).length:=(by omega);obtain⟨u,J⟩:∃u,((cs.drop o).take n)[j]? =some u:=⟨_,TO this⟩;rw[J];rw[Te,TG N,SR]at J|-;rw[Sy];exact(L _ _ J).symm
      . rw[T7 (by omega),Te,TM N]
     exact Yl.of (λo' d i=>by rw[(A o' d i).1,(A o' d i).2];exact ZN7 j a h1 f G F) (by simp only[VR];exact⟨_,rfl,t⟩) h
   . cases h
 . cases h
theorem QW{P:Program}{T:Nat}{y:Ty}(h:elOk P T y=true):∃e g,P.underlying T=some (.slice e)/\ZC P e=some (g,szY y):=by
 unfold elOk at h;split at h
 . rename_i e h1;split at h
   . rename_i g n h2;rw[TB h]at h2;exact⟨e,g,h1,h2⟩
   . cases h
 . cases h
theorem BA{c:CV}{v:Value}(d:VR I c v)(h:allB oneC (XH c)=true\/∃m,c=.ag m):VRs I (XH c) v.cells.toList:=by
  cases c with
  | ag m=>
    simp only[VR]at d;obtain⟨vs,rfl,d⟩:=d;simpa[XH,Value.cells]using d
  |tu m=>rcases h with h|⟨m,h⟩<;>cases h
  |und=>rcases h with h|⟨m,h⟩<;>cases h
  |any=>rcases h with h|⟨m,h⟩<;>cases h
  |unk=>rcases h with h|⟨m,h⟩<;>cases h
  | sl t m=>
    simp only[VR]at d;obtain⟨ao,cap,rfl⟩:=d.val;exact VRs.cons (by simp only[VR];exact d) VRs.nil
  |cl t m=>have h0:=d;simp only[VR]at d;obtain⟨_,ao,rfl⟩:=d;exact VRs.cons h0 VRs.nil
  |rv t j g=>have h0:=d;simp only[VR]at d;obtain⟨_,n,⟨⟨ao,cap,rfl⟩,_⟩,_⟩:=d;exact VRs.cons h0 VRs.nil
  |sv j n=>have h0:=d;simp only[VR]at d;obtain⟨_,rfl⟩:=d;exact VRs.cons h0 VRs.nil
  |n c j=>simp only[VR]at d;obtain⟨h1,h2,rfl⟩:=d;exact VRs.cons (by simp only[VR];exact⟨h1,h2,trivial⟩) VRs.nil
  |row j=>have h0:=d;simp only[VR]at d;obtain⟨h1,h2,a,n,c,rfl⟩:=d;exact VRs.cons h0 VRs.nil
  |rel t j i o=>have h0:=d;simp only[VR]at d;obtain⟨h1,b,q,h2,rfl⟩:=d;exact VRs.cons h0 VRs.nil
  |oel t y=>have h0:=d;simp only[VR]at d;rcases d with⟨_,rfl⟩|⟨z,_,b,q,cs,rfl,_⟩<;>exact VRs.cons h0 VRs.nil
  |orel t j y=>have h0:=d;simp only[VR]at d;rcases d with⟨_,rfl⟩|⟨z,_,_,b,q,_,rfl⟩<;>exact VRs.cons h0 VRs.nil
  |clo f l m=>have h0:=d;simp only[VR]at d;obtain⟨us,ws,rfl,_,_⟩:=d;exact VRs.cons h0 VRs.nil
  |ln j=>simp only[VR]at d;obtain⟨h1,rfl⟩:=d;exact VRs.cons (by simp only[VR];exact⟨h1,trivial⟩) VRs.nil
  |bc c m j=>simp only[VR]at d;obtain⟨h1,h2,h3,rfl⟩:=d;exact VRs.cons (by simp only[VR];exact⟨h1,h2,h3,trivial⟩) VRs.nil
  |ptr a o=>simp only[VR]at d;obtain⟨h1,rfl⟩:=d;exact VRs.cons (by simp only[VR];exact⟨h1,trivial⟩) VRs.nil
  |el t y o=>simp only[VR]at d;obtain⟨b,q,cs,rfl,h2⟩:=d;exact VRs.cons (by simp only[VR];exact⟨b,q,cs,rfl,h2⟩) VRs.nil
  |_=>simp only[VR]at d;subst d;exact VRs.cons (by simp only[VR]) VRs.nil
theorem ZJi{d:List (Nat×Nat)}:∀{m:List (Nat×CV)} {us:List (Nat×Value)} {z:List CV} {f:List Value} {k:List CV->Option β},m.map (·.1)=us.map (·.1)->VRs I (m.map (·.2)) (us.map (·.2))->VRs I z f->allB (λp=>Bool.or (allB oneC (XH p.2)) (match p.2 with| .ag _=>true|_=>false)) m=true->bldL d z m k=some r->
    us.all (fitsP d f.length)=true/\∃cs,VRs I cs (setP d f us)/\k cs=some r
  | [],us,z,f,k,e,t,l,x,h=>by
    cases us with
    |cons=>cases e
    |nil=>exact⟨rfl,z,by simpa[setP]using l,by rw[show bldL d z [] k=QD z k from rfl,XS]at h;exact h⟩
  | (i,c) ::m,us,z,f,k,e,t,l,x,h=>by
    cases us with
    |nil=>cases e
    | cons w us=>
      obtain⟨J,v⟩:=w;simp only[Tq,SA]at e;obtain⟨rfl,e⟩:=e;obtain⟨v',C,D,E,t⟩:=t.un;obtain⟨rfl,rfl⟩:=T3 D;have q:=ZW.1 x;have y:VRs I (XH c) v.cells.toList:=by
        refine BA E ?_;have:=q (i,c) (by simp);simp only[Bool.or_eq_true]at this;rcases this with h|h
        . exact .inl h
        . right;cases c<;>first|(cases h;done)|exact⟨_,rfl⟩
      have h:bb (fits d z.length i (XH c)) (match d[i]? with|some (o,_)=>bldL d (layL z o (XH c)) m k|none=>none) none=some r:=h;obtain⟨g,h⟩:=ZA h;have A:=l.length;have s:=y.length;unfold fits at g;split at g
      . rename_i o n j;rw[j]at h;simp only[TE]at g;have u:VRs I (layL z o (XH c)) (putP f o v.cells.toList):=by
          unfold layL putP;rw[s];exact VRs.append (VRs.append (VRs.take _ l) y) (VRs.drop _ l)
        have b:o+v.cells.toList.length<=f.length:=by
          have:=TN g.2;have h2:=TB g.1;omega
        obtain⟨B,cs,F,G⟩:=ZJi e t u (ZW.2 λa H=>q a (Sl _ H)) h;rw[ZFF b]at B;refine⟨?_,cs,by simpa[setP,j]using F,G⟩;simp only[RN,TE];refine⟨?_,B⟩;simp only[fitsP,j,TE];have h2:=TB g.1;exact⟨by rw[<-h2,s];simp,by simpa using b⟩
      . cases g
theorem R_bldA{x:Cx}{l:Slots}{own:List Own}{H:Heaplet}{ty T n:Nat}{c:Array (Nat×Operand)}{vs:List (Nat×Value)}{z:Value}{a:List (Nat×Nat)}{cs:List Value}(A:Yx x.P T=some z)(h:ZJ9 x.P T n=some a)
    (B:c.toList.mapM (λp=>(evo l p.2).map (λu=>(p.1,u)))=some vs)(y:vs.all (fitsP a z.cells.toList.length)=true)(C:setP a z.cells.toList vs=cs):Runs x (.build T c) ty l own H (.agg cs.toArray):=by
  subst C;refine λρ w _ _ _ _ k I=> ?_;simp only[execOp];have m:∀(ps:List (Nat×Operand)) (us:List (Nat×Value)),ps.mapM (λp=>(evo l p.2).map (λu=>(p.1,u)))=some us->ps.map (λp=>(p.1,ρ p.2))=us:=by
    intro ps;induction ps with
    |nil=>intro us e;simp at e;simp[e]
    | cons p ps D=>
      intro us e;simp only[SZ,RW,Sr,Option.map_eq_some_iff]at e;obtain⟨b,⟨u,o,rfl⟩,cs,r,e⟩:=e;simp at e;subst e;simp[D cs r,k _ _ o]
  have E:=m _ _ B;refine YO ?_;have e:c.map (λp=>(p.1,ρ p.2))=vs.toArray:=by rw[<-RG];simpa using E
  have d:=ZE1 a vs z.cells (by simpa using y);unfold ZJ9 at h;split at h
  . rename_i J F o;cases f:ZC x.P F with
    |none=>simp[f]at h
    | some s=>
      simp[f]at h;have t:Instr.fill (λi=>some (i*s.2,s.2)) z.cells vs=some (setP a z.cells.toList vs).toArray:=by
        rw[<-d];refine ZHx (λp v=> ?_);have:=Tm.1 y p v;unfold fitsP at this;split at this
        . rename_i q G;have j:p.1<n:=by
            have:=(TD.1 G).1;rw[<-h]at this;simpa using this
          rw[<-h];simp[j]
        . cases this
      have:(Instr.build T vs.toArray).run x.P w=.ok (.agg (setP a z.cells.toList vs).toArray) w:=by
        unfold Instr.build;simp only[Sem.run_bind,QT A,Result.andThen,run_underlying o,Go.Ow.run_sizeOf (g:=s.1) (n:=s.2) f,t,Sem.run_pure]
      first
        |exact(by simpa[e]using this)
        |(rw[show(Array.map _ c)=vs.toArray from e];exact this)
  . cases h
theorem Ub{P:Program}{ts:Array TypeId}(h:isSl P ts=true):∃t e,ts= #[t]/\P.underlying t=some (.slice e):=by
 unfold isSl at h;split at h
 . split at h
   . rename_i e;exact⟨_,_,rfl,e⟩
   . cases h
 . cases h
theorem ZNf{P:Program}{ts:Array TypeId}(h:isStr P ts=true):∃t,ts= #[t]/\P.underlying t=some .string:=by
 unfold isStr at h;split at h
 . split at h
   . rename_i e;exact⟨_,rfl,e⟩
   . cases h
 . cases h
theorem ZSt (g:x.P=X.P)(i:I.H=H){ts:Array TypeId}{a:CV}{v:Value}(h1:evo l p=some v)(b:VR I a v)(h:lenC X.P ts a k=some r):Yl x I (.call ⟨.builtin .len,#[p],ts⟩) ty l M k r:=by
 unfold lenC at h;rw[<-g]at h;split at h
 . obtain⟨c,d⟩:=ZA h;obtain⟨t,e,rfl,f⟩:=Ub c;simp only[VR]at b;exact Yl.of (λ_ _ _=>XK f h1 b.long) (by simp only[VR];exact⟨b.len_le,trivial⟩) d
 . obtain⟨c,d⟩:=ZA h;obtain⟨t,e,rfl,f⟩:=Ub c;simp only[VR]at b;exact Yl.of (λ_ _ _=>XK f h1 b.1.long) (by simp only[VR];exact⟨b.1.len_le,trivial⟩) d
 . obtain⟨c,d⟩:=ZA h;obtain⟨t,e,rfl,f⟩:=Ub c;simp only[VR]at b;obtain⟨_,rfl⟩:=b;exact Yl.of (λ_ _ _=>R.len f h1) (by simp only[VR]) d
 . obtain⟨c,d⟩:=ZA h;obtain⟨t,e,rfl,f⟩:=Ub c;simp only[VR]at b;subst b;exact Yl.of (λ_ _ _=>R.len f h1) (by simp only[VR];rfl) d
 . obtain⟨c,d⟩:=ZA h;obtain⟨t,rfl,f⟩:=ZNf c;simp only[VR]at b;subst b;exact Yl.of (λ_ _ _=>ZR3 f h1) (by simp only[VR]) d
 . cases h
theorem G8{b:Bool}{y z:Option β}(h:cond b y z=some r):(b=true/\y=some r)\/(b=false/\z=some r):=by
 cases b with
 |true=>exact .inl ⟨rfl,h⟩
 |false=>exact .inr ⟨rfl,h⟩
theorem ZOG{P:Program}{T:Nat}{k:List CV->Option β}(h:zC P T k=some r):∃z m,Yx P T=some z/\VRs I m z.cells.toList/\k m=some r:=by
 unfold zC at h;split at h
 . rename_i z e;obtain⟨m,h1,h2⟩:=ZDQ h;exact⟨z,m,e,h1,h2⟩
 . cases h
theorem ZDf (hs:RS x s I seg l own H){o:Option Operand}{n:Int}{k:Int->Option β}(h:oLo s o n k=some r):∃a,(match o with|none=>a=n|some o=>∃b,evo l o=some (.int b a))/\k a=some r:=by
 unfold oLo at h;split at h
 . exact⟨_,rfl,h⟩
 . obtain⟨c,v,e1,e2,h⟩:=ZT hs h;obtain⟨n,b,rfl,h⟩:=Wa e2 h;exact⟨n,⟨b,e1⟩,h⟩
theorem ZG6{a b:Operand}(h:sameP a b=true):a=b:=by
  unfold sameP at h;split at h
  . rw[TB h]
  . rename_i m n;cases m with
    | ofNat m=>cases n with
      |ofNat n=>rw[TB (show Nat.beq m n=true from h)]
      |negSucc n=>cases h
    |negSucc m=>cases h
  . cases h
theorem ZCe{a b:Option Operand}(h:sameO a b=true):∃t,a=some t/\b=some t:=by
 unfold sameO at h;split at h
 . exact⟨_,rfl,by rw[ZG6 h]⟩
 . cases h
def Z0 (l:Slots)(o:Option Operand):Prop:=match o with|none=>True|some o=>∃k,evo l o=some (.int k 0)
theorem ZHp{o:Option Operand}(h:isZ o=true):Z0 l o:=by
 unfold isZ at h;split at h
 . trivial
 . rename_i k n;refine⟨k,?_⟩;cases n with
   |ofNat y=>rw[TB (show Nat.beq y 0=true from h)];rfl
   |negSucc y=>cases h
 . cases h
theorem ZOK (L:x.P=X.P)(hs:RS x s I seg l own H){T:Nat}{t:Ty}{m:List (den t)}{v:Value}{lo hi mx:Option Operand}(h1:evo l p=some v)(G:IsSlice I.H (RT t) (szY t) v m)(h:slcL X s T t m lo hi mx k=some r):Yl x I (.slice T p lo hi mx) ty l M k r:=by
  . obtain⟨j,h⟩:=ZA h;simp only[TE]at j;obtain⟨e,g,q,i⟩:=QW j.1;rw[<-L]at q i;obtain⟨a,J,h⟩:=ZDf hs h;obtain⟨b,hb,h⟩:=ZDf hs h;cases mx with
    | none=>
      obtain⟨m',u,d,w⟩:=Gi (show Ow.slc m a b (λy=>k (.sl t y))=some r from h)
      clear h;obtain⟨v',cap,⟨ao,n,N,_⟩,O,z,A⟩:=PX G u d;exact Yl.of (λ_ _ _=>QA (cap:=cap) (a:=a) (b:=b) (c:=(cap:Int)) (m:=m) (R:=RT t) q i h1 J hb ⟨ao,n,N,rfl⟩ ⟨d.1,d.2.1,O⟩ z (.inl rfl)) (by simp only[VR];exact A) w
    | some o=>
      have B:hi≠none:=(by rintro rfl;exact absurd j.2 (by simp));have K:(∃C,evo l o=some (.int C b))/\Ow.slc m a b (λy=>k (.cl t y))=some r:=by
        have f:=show(Bool.rec (ev s o λc=>oIx c λc=>chk (b=c) (Ow.slc m a b λy=>k (.cl t y))) (Ow.slc m a b λy=>k (.cl t y)) (sameO hi (some o)):Option β)=some r from h;clear h;cases D:sameO hi (some o)with
        | true=>
          rw[D]at f;obtain⟨S,rfl,e2⟩:=ZCe D;cases e2;exact⟨hb,f⟩
        | false=>
          rw[D]at f;obtain⟨c,U,e1,e2,f⟩:=ZT hs (show ev s o _=some r from f)
          obtain⟨n,C,rfl,f⟩:=Wa e2 f;obtain⟨e3,E⟩:=ZH f;subst e3;exact⟨⟨C,e1⟩,E⟩
      obtain⟨m',u,d,w⟩:=Gi K.2;obtain⟨v',cap,F,z,Q,A⟩:=PY G u d;exact Yl.of (λ_ _ _=>QA (cap:=cap) (a:=a) (b:=b) (c:=b) (m:=m) (R:=RT t) q i h1 J hb K.1 ⟨d.1,d.2.1,SK _⟩ z (.inr B)) (by simp only[VR];exact⟨A,F,Q⟩) w
def LoQ (l:Slots)(lo:Option Operand)(q:Nat):Prop:=match lo with|none=>q=0|some op=>∃k,evo l op=some (.int k (q:Int))
theorem ZRA{lo:Option Operand}{k:Nat->Option β}(h:loN lo k=some r):∃q:Nat,LoQ l lo q/\k q=some r:=by
 unfold loN at h;split at h
 . exact⟨0,rfl,h⟩
 . rename_i a n;cases n with
   |ofNat j=>exact⟨j,⟨a,rfl⟩,h⟩
   |negSucc j=>cases h
 . cases h
theorem ZJQ{o:Option Operand}(h:isZ0 o=true):∃q,o=some q/\∃k,evo l q=some (.int k 0):=by
 unfold isZ0 at h;split at h
 . rename_i k n;cases n with
   |ofNat y=>rw[TB (show Nat.beq y 0=true from h)];exact⟨_,rfl,k,rfl⟩
   |negSucc y=>cases h
 . cases h
theorem ZQl{ty:TypeId}{M:List Own->Heaplet->Prop}(A:x.P=X.P)(hs:RS x s I seg l own H){p:Operand}{T:Nat}{a:CV}{v:Value}{lo:Option Operand}{k:CV->Option β}(h1:evo l p=some v)(i:VR I a v)(h:rvS X s T a lo k=some r):Yl x I (.slice T p lo none none) ty l M k r:=by
 unfold rvS at h;split at h
 . rename_i j;split at h
   . rename_i t E m e;obtain⟨B,h⟩:=ZA h;obtain⟨K,g,w,d⟩:=QW B;rw[<-A]at w d;obtain⟨y,o,h⟩:=ZDf hs h;obtain⟨hn,h⟩:=ZH h;obtain⟨L,f⟩:=(hs.rw _ _ e).resolve_left (by simp);have f:RowOf I.H (RT t) 0 E (szY t) (I.ν j).2 m (seg j):=f;have i:j<I.n/\v=(I.ν j).2/\∃a n c,v=.slice a n c:=(by simpa only[VR]using i);obtain⟨q,rfl,_⟩:=i;obtain⟨v',cap,C,D,F,z,N⟩:=QJ f (a:=y) (b:=(m.length:Int)) ⟨hn.1,hn.2,SK _⟩;obtain⟨G,J,u,_⟩:=f.len;exact Yl.of (λ_ _ _=>QA (cap:=cap) (a:=y) (b:=(m.length:Int)) (c:=(cap:Int)) (m:=m) (R:=RT t) w d h1 o rfl C ⟨hn.1,hn.2,D⟩ F (.inl rfl)) (by simp only[VR];exact⟨q,m.length,by rw[T9]at z;exact z,⟨G,J,u⟩,hn.1,by omega⟩) h
   . cases h
 . cases h
theorem ZSZ (w:x.P=X.P)(hs:RS x s I seg l own H){T:Nat}{c:CV}{v:Value}{lo hi mx:Option Operand}(h1:evo l p=some v)(f:VR I c v)(h:slcC X s T c lo hi mx k=some r):Yl x I (.slice T p lo hi mx) ty l M k r:=by
 unfold slcC at h;split at h
 . simp only[VR]at f;exact ZOK w hs h1 f h
 . simp only[VR]at f;exact ZOK w hs h1 f.1 h
 . rename_i a o;simp only[VR]at f;obtain⟨e4,rfl⟩:=f;unfold svP at h;split at h
   . rename_i N e u;split at h
     . rename_i g d;rw[<-w]at u d;obtain⟨q,A,h⟩:=ZRA (l:=l) h;obtain⟨K,h⟩:=ZA h;exact Yl.of (λ_ _ _=>R.slA u d h1 A (by simpa using K)) (by simp only[VR];exact⟨e4,trivial⟩) h
     . cases h
   . cases h
 . rename_i j;split at h
   . exact ZQl w hs h1 f h
   . obtain⟨B,h3⟩:=ZA h;clear h;unfold zz at B;simp only[TE]at B;split at h3
     . rename_i t E m e;obtain⟨z,C⟩:=ZA h3;clear h3;obtain⟨e',g,u,d⟩:=QW z;rw[<-w]at u d;obtain⟨O,Q,S⟩:=B;obtain⟨K,D⟩:=(hs.rw _ _ e).resolve_left (by simp);have D:RowOf I.H (RT t) 0 E (szY t) (I.ν j).2 m (seg j):=D;have U:j<I.n/\v=(I.ν j).2/\∃a n c,v=.slice a n c:=(by simpa only[VR]using f);obtain⟨_,e1,_⟩:=U;have hb:=ZJQ (l:=l) Q;have F:=ZJQ (l:=l) S;have V:=ZHp (l:=l) O;obtain⟨ao,cap,ev,W⟩:∃ao cap,v=.slice ao m.length cap/\∀a,ao=some a->a.spot=none:=by
        obtain⟨cells,⟨_,Y⟩,_⟩:=D;rcases Y with⟨G,L,_⟩|⟨gg,cap,cur,G,L,_⟩
        . exact⟨none,0,by rw[e1,G,L],λa e=>by cases e⟩
        . exact⟨_,cap,by rw[e1,G],λa e=>by cases e;rfl⟩
       obtain⟨oh,rfl,hb⟩:=hb;obtain⟨om,rfl,F⟩:=F;refine Yl.of (λ_ _ _=>QA (cap:=cap) (a:=0) (b:=0) (c:=0) (m:=m) (R:=RT t) (v':=.slice ao 0 0) u d h1 ?_ hb F ⟨by omega,by omega,by omega⟩ ⟨ao,ev,by omega,by simp[sliced]⟩ (.inr (by simp))) ?_ C
       . cases lo with
         |none=>rfl
         |some o=>exact V
       . simp only[VR];exact⟨⟨ao,0,rfl,TL _,by simp[maxLen],λa e=>.inl rfl,λ_=>rfl,λi y e=>by simp at e⟩,ao,rfl⟩
     . cases h3
 . obtain⟨z,h⟩:=ZA h;simp only[TE]at z;obtain⟨h2,h3,C,J⟩:=z;unfold slOk at h2;split at h2
   . rename_i e u;split at h2
     . rename_i Z d;obtain⟨g,sz⟩:=Z;rw[<-w]at u d;have e3:=f;simp only[VR]at e3;subst e3;have J:mx=none:=by cases mx with|none=>rfl|some _=>cases J
       exact Yl.of (λ_ _ _=>ZN5 u d h1 (ZHp h3) (ZHp C) J) f h
     . cases h2
   . cases h2
 . cases h
theorem ZUl{c d:CV}{v w:Value}{p q:Operand}{ts:Array TypeId}(h1:evo l p=some v)(a:VR I c v)(h2:evo l q=some w)(b:VR I d w)(h:mnC c d k=some r):Yl x I (.call ⟨.builtin .min,#[p,q],ts⟩) ty l M k r:=by
 obtain⟨m,e,h⟩:=Zx (show oI c _=some r from h)
 obtain⟨n,hn,h⟩:=Zx h;have e1:=e.le _ _ a;have e2:=hn.le _ _ b;simp only[VR]at e1 e2;subst e1 e2;exact Yl.of (λ_ _ _=>ZIR h1 h2) (by simp only[VR]) h
theorem ZUk{c d:CV}{v w:Value}{p q:Operand}{ts:Array TypeId}(h1:evo l p=some v)(a:VR I c v)(h2:evo l q=some w)(b:VR I d w)(h:mxC c d k=some r):Yl x I (.call ⟨.builtin .max,#[p,q],ts⟩) ty l M k r:=by
 unfold mxC at h;split at h
 . split at h
   . simp only[VR]at a b;subst a b;exact Yl.of (λ_ _ _=>ZTq h1 h2) (by simp only[VR]) h
   . cases h
 . obtain⟨m,e,h⟩:=Zx h;obtain⟨n,hn,h⟩:=Zx h;have e1:=e.le _ _ a;have e2:=hn.le _ _ b;simp only[VR]at e1 e2;subst e1 e2;exact Yl.of (λ_ _ _=>ZVP h1 h2) (by simp only[VR]) h
theorem ZSs (f:x.P=X.P)(hs:RS x s I seg l own H){ts:Array TypeId}{a:CV}{v:Value}{p:Operand}(h1:evo l p=some v)(c:VR I a v)(h:lenR X s ts a k=some r):Yl x I (.call ⟨.builtin .len,#[p],ts⟩) ty l M k r:=by
 unfold lenR at h;split at h
 . split at h
   . rename_i t E m e;obtain⟨d,i⟩:=ZA h;rw[<-f]at d;obtain⟨w,y,rfl,o⟩:=Ub d;obtain⟨_,b⟩:=(hs.rw _ _ e).resolve_left (by simp);have b:RowOf I.H (RT t) 0 E (szY t) _ m _:=b;simp only[VR]at c;obtain⟨_,rfl,_⟩:=c;have:=b.lenI;exact Yl.of (λ_ _ _=>XK o h1 b.long) (by simp only[VR,MAX];exact⟨by omega,trivial⟩) i
   . cases h
 . rename_i t j g;split at h
   . rename_i u E m e;obtain⟨d,i⟩:=ZA h;simp only[TE]at d;have q:=d.2;rw[<-f]at q;obtain⟨w,y,rfl,o⟩:=Ub q;obtain⟨_,b⟩:=(hs.rw _ _ e).resolve_left (by simp);have b:RowOf I.H (RT u) 0 E (szY u) _ m _:=b;simp only[VR]at c;obtain⟨_,n,⟨⟨ao,cap,rfl⟩,_⟩,⟨z,A,e1⟩,B,C⟩:=c;obtain⟨D,F,e2,_⟩:=b.len;have hn:n=m.length:=(by rw[e2]at e1;simp only[Value.slice.injEq]at e1;exact e1.2.1.symm);subst hn;exact Yl.of (λ_ _ _=>R.len o h1) (by simp only[VR];congr 1;omega) i
   . cases h
 . exact ZSt f hs.H h1 c h
theorem ZTQ (e:x.P=X.P)(hs:RS x s I seg l own H){b:Builtin}{as:Array Operand}{ts:Array TypeId}(h:bltC X s b as.toList ts k=some r):Yl x I (.call ⟨.builtin b,as,ts⟩) ty l M k r:=by
 obtain⟨as⟩:=as;have h:bltC X s b as ts k=some r:=h;unfold bltC at h;split at h
 . split at h
   . obtain⟨c,v,e1,e2,h⟩:=ZT hs h;exact ZSs e hs e1 e2 h
   . cases h
 . split at h
   . obtain⟨c,v,e1,e2,h⟩:=ZT hs h;obtain⟨d,w,f,a,h⟩:=ZT hs h;exact ZUl e1 e2 f a h
   . obtain⟨c,v,e1,e2,h⟩:=ZT hs h;obtain⟨d,w,f,a,h⟩:=ZT hs h;exact ZUk e1 e2 f a h
   . cases h
 . cases h
theorem ZMl{β:Type}{r:β}{t:Ty}{m:List (den t)}:∀{n:Nat} {i:Int} {k:den (arT t n)->Option β},arV t m n i k=some r->∃z,k z=some r/\0<=i/\i.toNat+n+1<=m.length/\∀{H:Heaplet} {ao:Option Addr} {cap:Nat},IsSlice H (RT t) (szY t) (.slice ao m.length cap) m->
    ∃b o cs,ao=some ⟨b,o,none⟩/\cs.length=szY (arT t n)/\RT (arT t n) H cs z/\∀j u,cs[j]? =some u->H b (o+i.toNat*szY t+j)=some u
  | 0,i,k,h=>by
    obtain⟨y,a,h⟩:=Ym (show idx m i k=some r from h)
    have v:=(TD.1 a.2).1;refine⟨y,h,a.1,by omega,λ{H ao cap} hs=> ?_⟩;obtain⟨l,d,e,_,_,_,_,p⟩:=hs;simp only[Value.slice.injEq]at e;obtain⟨rfl,_,rfl⟩:=e;obtain⟨b,o,cs,rfl,f,q,s⟩:=p _ _ a.2;exact⟨b,o,cs,rfl,f,q,s⟩
  | n +1,i,k,h=>by
    obtain⟨y,a,h⟩:=Ym (show idx m i (λy=>arV t m n (i+1) λz=>k (y,z))=some r from h)
    obtain⟨z,h,h1,h2,h3⟩:=ZMl h;have e1:(i+1).toNat=i.toNat+1:=(by have:=a.1;omega);rw[e1]at h2 h3;refine⟨(y,z),h,a.1,by omega,λ{H ao cap} hs=> ?_⟩;obtain⟨b,o,cs,rfl,w,x,A⟩:=h3 hs;obtain⟨l,d,e,_,_,_,_,p⟩:=hs;simp only[Value.slice.injEq]at e;obtain⟨e0,_,rfl⟩:=e;obtain⟨B,o',c,e2,f,q,s⟩:=p _ _ a.2;rw[e2]at e0;cases e0;refine⟨b,o,c++cs,rfl,by rw[TF,f,w];rfl,⟨c,cs,rfl,f,q,x⟩,λj u g=> ?_⟩;rw[List.getElem?_append]at g;split at g
    . exact s j u g
    . have:=A _ u g;rw[show o+(i.toNat+1)*szY t+(j-c.length)=o+i.toNat*szY t+j by rw[Tc];omega]at this;exact this
theorem ZON (d:x.P=X.P){T:Nat}{t:Ty}{m:List (den t)}{v:Value}(h1:evo l p=some v)(a:IsSlice I.H (RT t) (szY t) v m)(h:s2aC X.P T t m k=some r):Yl x I (.sliceToArrayPointer T p) ty l M k r:=by
 unfold s2aC at h;split at h
 . rename_i N e c;split at h
   . rename_i n g y f;obtain⟨hb,h⟩:=ZA h;obtain⟨z,h,_,h2,h3⟩:=ZMl h;obtain⟨ao,cap,rfl⟩:=a.val;obtain⟨b,o,cs,rfl,i,q,s⟩:=h3 a;rw[<-d]at c;exact Yl.of (λ_ _ _=>ZVH c h1 (by have:(0:Int).toNat=0:=rfl;omega) rfl) (by simp only[VR];exact⟨b,o,cs,rfl,i,q,λj u w=>by have:=s j u w;simpa using this⟩) h
   . cases h
 . cases h
theorem ZEd (B:x.P=X.P)(hs:RS x s I seg l own H){o:Op}(S:isMem X.P o=true->∀o' h',M o' h'->o'=own/\h'=H)(h:pvl X s o k=some r):Yl x I o ty l M k r:=by
  unfold pvl at h;split at h
  . obtain⟨c,v,e1,e2,h⟩:=ZT hs h;exact Yl.of (λ_ _ _=>XJ e1) e2 h
  . obtain⟨c,v,e1,e2,h⟩:=ZT hs h;exact Yl.of (λ_ _ _=>ZA0 e1) e2 h
  . obtain⟨c,v,e1,e2,h⟩:=ZT hs h;obtain⟨c,e2,h⟩:=ZD6 e2 h;split at h
    . have e3:=e2;simp only[VR]at e3;obtain⟨_,rfl⟩:=e3;exact Yl.of (λ_ _ _=>DA e1) e2 h
    . have e3:=e2;simp only[VR]at e3;obtain⟨b,q,cs,rfl,_⟩:=e3;exact Yl.of (λ_ _ _=>DA e1) e2 h
    . have e3:=e2;simp only[VR]at e3;obtain⟨_,b,q,_,rfl⟩:=e3;exact Yl.of (λ_ _ _=>DA e1) e2 h
    . cases h
  . obtain⟨c,v,e1,e2,h⟩:=ZT hs h;obtain⟨b,hb,h⟩:=Gu h;have e3:=hb.le _ _ e2;simp only[VR]at e3;subst e3;rcases G8 h with⟨rfl,h⟩|⟨rfl,h⟩
    . obtain⟨c,v,C,A,h⟩:=ZT hs h;exact Yl.of (λ_ _ _=>ZO1 e1 C) A h
    . obtain⟨c,v,C,A,h⟩:=ZT hs h;exact Yl.of (λ_ _ _=>ZO2 e1 C) A h
  . obtain⟨c,v,e1,e2,h⟩:=ZT hs h;obtain⟨d,w,C,A,h⟩:=ZT hs h;exact ZU8 B hs e1 e2 C A h
  . obtain⟨c,v,e1,e2,h⟩:=ZT hs h;split at h
    . simp only[VR]at e2;subst e2;exact Yl.of (λ_ _ _=>ZRz e1) (by simp only[VR]) h
    . simp only[VR]at e2;obtain⟨_,_,_,rfl⟩:=e2;exact Yl.of (λ_ _ _=>ZRz e1) (by simp only[VR]) h
    . simp only[VR]at e2;subst e2;exact Yl.of (λ_ _ _=>ZTo e1) (by simp only[VR]) h
    . cases h
  . obtain⟨c,v,e1,e2,h⟩:=ZT hs h;exact ZU3 B hs.H (λq=>S (by rw[B]at q;simp only[isMem,q])) e1 e2 h
  . obtain⟨c,v,e1,e2,h⟩:=ZT hs h;split at h
    . obtain⟨c,e3,h⟩:=ZU h;simp only[VR]at e2;obtain⟨vs,rfl,e2⟩:=e2;obtain⟨w,C,A⟩:=e2.get e3;exact Yl.of (λ_ _ _=>R.extract e1 (by simpa using C)) A h
    . cases h
  . obtain ⟨c,v,e1,e2,h⟩:=ZT hs h;obtain⟨d,w,e3,e4,U⟩:=ZT hs h;clear h;split at U
    . rename_i ll n;have h:=U;clear U;split at h
      . rename_i m e p;split at h
        . rename_i f;simp only[VR]at e2 e4;obtain⟨vs,rfl,e2⟩:=e2;subst e4;cases n with
          |negSucc j=>cases h
          | ofNat j=>
            obtain⟨D,h⟩:=ZA (show bb (Nat.blt j m) _ none=some r from h)
            obtain⟨c,F,h⟩:=ZU h;rw[ZJU]at h;obtain⟨w,C,A⟩:=e2.get F;rw[<-B]at p f;exact Yl.of (λ_ _ _=>ZTv j p f rfl e1 e3 D (by simpa using C)) A h
        . cases h
      . cases h
    . cases U
  . obtain⟨c,v,e1,e2,h⟩:=ZT hs h;obtain⟨c,e2,h⟩:=ZD6 e2 h;obtain⟨n,V,h⟩:=ZU h;rw[<-B]at V;split at h
    . simp only[VR]at e2;obtain⟨ha,rfl⟩:=e2;exact Yl.of (λ_ _ _=>ZMr V e1) (by simp only[VR];exact⟨ha,trivial⟩) h
    . simp only[VR]at e2;obtain⟨b,q,cs,rfl,e3⟩:=e2;exact Yl.of (λ_ _ _=>ZMr V e1) (by simp only[VR];exact⟨b,q,cs,by rw[Sy],e3⟩) h
    . simp only[VR]at e2;obtain⟨e3,b,q,e4,rfl⟩:=e2;exact Yl.of (λ_ _ _=>ZMr V e1) (by simp only[VR];exact⟨e3,b,q,e4,by rw[Sy]⟩) h
    . cases h
  . obtain⟨c,v,e1,e2,h⟩:=ZT hs h;obtain⟨c,e2,h⟩:=ZD6 e2 h;split at h
    . simp only[VR]at e2;obtain⟨ha,rfl⟩:=e2;exact ZUt B (S rfl) hs e1 h
    . simp only[VR]at e2;obtain⟨b,q,cs,rfl,_,e3,e4⟩:=e2;exact ZUu B (S rfl) hs.H e1 e3 e4 h
    . simp only[VR]at e2;exact ZUs B (S rfl) hs e1 e2 h
    . cases h
  . obtain⟨c1,v1,e1,e2,h⟩:=ZD3 hs h;obtain⟨c2,v2,C,A,h⟩:=ZD3 hs h;obtain⟨_,h⟩:=ZA h;exact Yl.of (λ_ _ _=>ZR4 e1 C) (by simp only[VR];exact⟨_,_,rfl,e2,A⟩) h
  . obtain ⟨c,v,e1,e2,h⟩:=ZT hs h;obtain⟨d,w,C,A,h⟩:=ZT hs h;split at h
    . obtain⟨G,h⟩:=ZA h;obtain⟨e,g,p,f⟩:=QW G;rw[<-B]at p f;obtain⟨n,Y,rfl,h⟩:=Wa A h;obtain⟨y,Z,h⟩:=Ym h;simp only[VR]at e2;obtain⟨b,q,cs,J,hR,hl,hc⟩:=IsSlice.elem e2 Z;exact Yl.of (λ_ _ _=>ZDK p f e1 C J) (by simp only[VR];exact⟨b,q,cs,rfl,hl,hR,hc⟩) h
    . obtain⟨G,h⟩:=ZA h;obtain⟨e,g,p,f⟩:=QW G;rw[<-B]at p f;obtain⟨n,Y,rfl,h⟩:=Wa A h;obtain⟨y,Z,h⟩:=Ym h;simp only[VR]at e2;obtain⟨b,q,cs,J,hR,hl,hc⟩:=IsSlice.elem e2.1 Z;exact Yl.of (λ_ _ _=>ZDK p f e1 C J) (by simp only[VR];exact⟨b,q,cs,rfl,hl,hR,hc⟩) h
    . rename_i t j g0 _;split at h
      . rename_i u E m e;obtain⟨G,h⟩:=ZA h;simp only[TE]at G;have:=Vz G.1;subst this;obtain⟨e',g,p,f⟩:=QW G.2;rw[<-B]at p f;obtain⟨n,Y,rfl,h⟩:=Wa A h;obtain⟨hn,h⟩:=ZH h;obtain⟨D,F⟩:=(hs.rw _ _ e).resolve_left (by simp);have F:RowOf I.H (RT t) 0 E (szY t) _ m _:=F;simp only[VR]at e2;obtain⟨e4,nn,L,⟨a1,c1,K⟩,hg0,hg1⟩:=e2;obtain⟨a2,c2,ev2,_⟩:=F.len;have hnn:nn=m.length:=(by rw[ev2]at K;simp only[Value.slice.injEq]at K;exact K.2.1.symm);subst hnn;have O:(g0+n).toNat<m.length:=(by omega);obtain⟨b,q,_,_,_,J,_⟩:=RowOf.elem F (i:=g0+n) (y:=m[(g0+n).toNat]'O) ⟨by omega,TO O⟩;exact Yl.of (λ_ _ _=>ZDK p f e1 C (ElemAt.sub L J (by omega) ⟨hn.1,by omega⟩)) (by simp only[VR];exact⟨e4,b,q,J,rfl⟩) h
      . cases h
    . rename_i j Q n h0;clear h0;simp only[VR]at e2;obtain⟨e4,rfl⟩:=e2;split at h
      . rename_i i;simp only[VR]at A;subst A;split at h
        . rename_i e p;split at h
          . rename_i g f;cases i with
            |negSucc q=>cases h
            | ofNat q=>
              obtain⟨D,h⟩:=ZA (show bb (Nat.blt q n) (k (.ptr j (Q+q))) none=some r from h)
              rw[<-B]at p f;exact Yl.of (λ_ _ _=>ZDK (b:=(I.ν j).1) (o:=Q+q) p f e1 C ⟨Se _,Q,n,n,rfl,by simp,by simpa using D⟩) (by simp only[VR];exact⟨e4,trivial⟩) h
          . cases h
        . cases h
      . rename_i cc i;simp only[VR]at A;obtain⟨_,_,rfl⟩:=A;split at h
        . rename_i e p;split at h
          . rename_i g f;obtain⟨D,h⟩:=ZA h;rw[<-B]at p f;exact Yl.of (λ_ _ _=>ZDK (b:=(I.ν j).1) (o:=Q+i) p f e1 C ⟨Se _,Q,n,n,rfl,by simp,by simpa using D⟩) (by simp only[VR];exact⟨e4,trivial⟩) h
          . cases h
        . cases h
      . cases h
    . split at h
      . rename_i t E m e;obtain⟨G,h⟩:=ZA h;obtain⟨e',g,p,f⟩:=QW G;rw[<-B]at p f;obtain⟨n,Y,rfl,h⟩:=Wa A h;obtain⟨hn,h⟩:=ZH h;obtain⟨D,F⟩:=(hs.rw _ _ e).resolve_left (by simp);have F:RowOf I.H (RT t) 0 E (szY t) _ m _:=F;simp only[VR]at e2;obtain⟨e4,rfl,_⟩:=e2;obtain⟨ao,cap,ev,h0,_⟩:=F.len;obtain⟨b,q,_,_,_,J,_⟩:=RowOf.elem F (i:=n) (y:=m[n.toNat]'hn.2) ⟨hn.1,TO hn.2⟩;exact Yl.of (λ_ _ _=>ZDK p f e1 C J) (by simp only[VR];exact⟨e4,b,q,J,rfl⟩) h
      . cases h
    . split at h
      . rename_i a o n;simp only[VR]at e2 A;obtain⟨e4,rfl⟩:=e2;subst A;unfold ixA at h;split at h
        . rename_i m e p;split at h
          . rename_i g sz f;rw[<-B]at p f;cases n with
            |negSucc j=>cases h
            | ofNat j=>
              obtain⟨D,h⟩:=ZA (show bb (Nat.blt j m) _ none=some r from h)
              exact Yl.of (λ_ _ _=>R.ixA j p f e1 C D) (by simp only[VR];exact⟨e4,trivial⟩) h
          . cases h
        . cases h
      . cases h
    . cases h
  . rename_i T ps;obtain⟨cs,vs,e1,e2,e3,h⟩:=ZHz hs h;obtain⟨z,m,hz,hm,h⟩:=ZOG (I:=I) h;obtain⟨pl,W,h⟩:=ZU h;obtain⟨G,h⟩:=ZA h;obtain⟨D,ws,F,h⟩:=ZJi e2 e3 hm G h;rw[<-B]at hz W;split at W
    . exact Yl.of (λ_ _ _=>R_bldA hz W e1 D rfl) (by simp only[VR];exact⟨_,rfl,F⟩) h
    . exact Yl.of (λ_ _ _=>ZK1 hz W e1 D rfl) (by simp only[VR];exact⟨_,rfl,F⟩) h
  . exact ZTQ B hs h
  . obtain⟨c,v,e1,e2,h⟩:=ZT hs h;exact ZSZ B hs e1 e2 h
  . obtain⟨c,v,e1,e2,h⟩:=ZT hs h;split at h
    . simp only[VR]at e2;exact ZON B e1 e2 h
    . simp only[VR]at e2;exact ZON B e1 e2.1 h
    . rename_i a o n;simp only[VR]at e2;obtain⟨e4,rfl⟩:=e2;split at h
      . rename_i N e p;obtain⟨D,h⟩:=ZA h;rw[<-B]at p;exact Yl.of (λ_ _ _=>ZVG p e1 D) (by simp only[VR];exact⟨e4,trivial⟩) h
      . cases h
    . cases h
  . cases h
end
def entA (a:Nat):List CV->Nat->List ((Nat×Nat)×CV)->List ((Nat×Nat)×CV)
 |[],_,m=>m
 |c::l,o,m=>entA a l (o+1) (((a,o),c)::m)
theorem B9{β:Type}(a:Nat):∀(l:List CV) (o:Nat) (m:List ((Nat×Nat)×CV)) (k:List ((Nat×Nat)×CV)->Option β),ZIQ a l o m k=k (entA a l o m)
 |[],o,m,k=>rfl
 |c::l,o,m,k=>B9 a l (o+1) (((a,o),c)::m) k
theorem Wl (a:Nat):∀(l:List CV) (o:Nat) (m:List ((Nat×Nat)×CV)),∃n,entA a l o m=n++m
  |[],o,m=>⟨[],rfl⟩
  | c::l,o,m=>by
    obtain⟨n,e⟩:=Wl a l (o+1) (((a,o),c)::m);exact⟨n++ [((a,o),c)],by rw[entA,e];simp⟩
theorem Jm (a:Nat):∀(l:List CV) (o:Nat) (m:List ((Nat×Nat)×CV)) (b j:Nat),lkO (entA a l o m) b j=if b=a/\o<=j/\j<o+l.length then l[j-o]? else lkO m b j
  |[],o,m,b,j=>by rw[entA,TM (by rintro⟨_,h1,h2⟩;simp at h2;omega)]
  | c ::l,o,m,b,j=>by
    rw[entA,Jm a l (o+1) _ b j];by_cases h:b=a/\o+1<=j/\j<o+1+l.length
    . rw[TG h,TG ⟨h.1,by omega,by simp;omega⟩,show j-o=(j-(o+1))+1 by omega];simp
    . rw[TM h,ZAD];by_cases h2:b=a/\j=o
      . obtain⟨rfl,rfl⟩:=h2;rw[TG rfl,TG ⟨rfl,by omega,by simp⟩];simp
      . rw[TM (by simp only[SD];intro e;exact h2 ⟨e.1.symm,e.2.symm⟩),TM];rintro⟨rfl,e1,e2⟩;simp only[TZ]at e2;by_cases q:j=o
        . exact h2 ⟨rfl,q⟩
        . exact h ⟨rfl,by omega,by omega⟩
section
variable{x:Cx}{ops:Array Oper}{Q:Exit->Act->World->Prop}{rest:List Oper}{l:Slots}{own own':List Own}{H:Heaplet}
theorem hperm{a:Act}{w:World}(h:Holds x l own H a w)(b:own.flatten.Perm own'.flatten):Holds x l own' H a w:=⟨h.size,h.ds,h.slots,h.mem.perm b⟩
theorem hsubl{a:Act}{w:World}(h:Holds x l own H a w)(b:own'.flatten.Sublist own.flatten):Holds x l own' H a w:=⟨h.size,h.ds,h.slots,h.mem.sub b⟩
theorem Vd{K:Own}(h:JL x ops Q rest l (own++ [K]) H):JL x ops Q rest l (K::own) H:=λa w b=>
 h a w (hperm b (by simpa using Ts))
end
section
variable{β:Type}{r:β}{x:Cx}{X:Env}{s:PS}{I:In}{seg:Nat->Own}{l:Slots}{own:List Own}{H:Heaplet}
variable{ops:Array Oper}{Q:Exit->Act->World->Prop}{rest:List Oper}
def Sg (s s':PS)(seg seg':Nat->Own):Prop:=∀a,a<s.n->(∀p∈newL s'.o s.o,p.1.1≠a)->(∀p∈newL s'.r s.r,p.1≠a)->seg' a=seg a
theorem YK{α:Type}(m l:List α):newL (m++l) l=m:=by unfold newL;rw[TF,Nat.add_sub_cancel,SH]
theorem OB (s:PS)(seg:Nat->Own):Sg s s seg seg:=λ_ _ _ _=>rfl
theorem Sg.trans{s t u:PS}{g e f:Nat->Own}(e1:Ext s t)(e2:Ext t u)(h:Sg s t g e)(k:Sg t u e f):Sg s u g f:=λa i c d=>by
 obtain⟨q,j⟩:=e1.o;obtain⟨v,l⟩:=e2.o;obtain⟨x,w⟩:=e1.r;obtain⟨y,m⟩:=e2.r;have z:newL u.o s.o=v++q:=by rw[l,j,<-TI];exact YK _ _
 have A:newL u.r s.r=y++x:=by rw[m,w,<-TI];exact YK _ _
 rw[z]at c;rw[A]at d;rw[k a (Tn i e1.n) (λp b=>c p (by rw[l,YK]at b;simp[b])) (λp b=>d p (by rw[m,YK]at b;simp[b]))];exact h a i (λp b=>c p (by rw[j,YK]at b;simp[b])) (λp b=>d p (by rw[w,YK]at b;simp[b]))
theorem Sg.of{s s':PS}{seg seg':Nat->Own}(h:∀a,a<s.n->seg' a=seg a):Sg s s' seg seg':=λa b _ _=>h a b
theorem In.Le.trans{I J K:In}(h:I.Le J)(k:J.Le K):I.Le K:=⟨h.H.trans k.H,TQ h.n k.n,λa b=>by rw[k.ν a (Tn b h.n),h.ν a b],TQ h.q k.q,λa b=>by rw[k.κ a (Tn b h.q),h.κ a b]⟩
def lput (d:Option Nat)(v:Value)(l:Slots):Slots:=match d with|some d=>(d,v)::l|none=>l
structure Go (s:PS) (I:In) (seg:Nat->Own) (H:Heaplet) (s':PS) (I':In) (seg':Nat->Own) (H':Heaplet):Prop where
  e:Ext s s'
  g:Sg s s' seg seg'
  H:Hle H H'
  I:I.Le I'
theorem Go.refl (s:PS)(I:In)(seg:Nat->Own)(H:Heaplet):Go s I seg H s I seg H:=⟨Pg _,OB _ _,R1 _,In.Le.refl _⟩
theorem Go.trans{s1 s2 s:PS}{a b I3:In}{c d f:Nat->Own}{H1 H2 i:Heaplet}(h:Go s1 a c H1 s2 b d H2)(k:Go s2 b d H2 s I3 f i):Go s1 a c H1 s I3 f i:=
 ⟨h.e.trans k.e,Sg.trans h.e k.e h.g k.g,h.H.trans k.H,h.I.trans k.I⟩
theorem Go.st (s:PS)(I:In)(seg:Nat->Own)(H:Heaplet)(d:Nat)(c:CV):Go s I seg H (s.st d c) I seg H:=⟨Ext.st _ _ _,OB _ _,R1 _,In.Le.refl _⟩
def Knt (x:Cx)(ops:Array Oper)(Q:Exit->Act->World->Prop)(rest:List Oper)(s:PS)(I:In)(seg:Nat->Own)(l:Slots)(H:Heaplet)(d:Option Nat)(k:PS->Option β)(r:β):Prop:=
 ∀s' b seg' v own' a,Go s I seg H s' b seg' a->k s'=some r->RS x s' b seg' (lput d v l) own' a->JL x ops Q rest (lput d v l) own' a
theorem Knt.go{s':PS}{a:In}{seg':Nat->Own}{b:Heaplet}{d:Option Nat}{k:PS->Option β}(h:Knt x ops Q rest s I seg l H d k r)(g:Go s I seg H s' a seg' b):Knt x ops Q rest s' a seg' l b d k r:=
 λt J sg v o h2 c e hs=>h t J sg v o h2 (g.trans c) e hs
theorem ZJr{d:Nat}{op:Op}{ty:TypeId}{pos:String}{aft:Array Edge}{k:PS->Option β}(hs:RS x s I seg l own H)(hn:noDefer op=true)(h:Yl x I op ty l (AtM own H) (λc=>s.put d c k) r)(a:Knt x ops Q rest s I seg l H (some d) k r):
 JL x ops Q (⟨some d,op,ty,pos,aft,none⟩::rest) l own H:=by
 obtain⟨c,v,h1,h2,h3⟩:=h;obtain⟨b,e⟩:=Yj h3;exact ZB (by rw[<-hs.N];exact b) hn (h1 _ _ ⟨rfl,rfl⟩) (a _ _ _ _ _ _ (Go.st _ _ _ _ _ _) e (hs.put h2))
theorem RS.le (hs:RS x s I seg l own H){d:Heaplet}(h:Hle H d):RS x s {I with H:=d} seg l own d:=by
 have b:I.Le {I with H:=d}:=⟨by rw[hs.H];exact h,TL _,λ_ _=>rfl,TL _,λ_ _=>rfl⟩;refine⟨hs.N,rfl,hs.n,hs.q,hs.own,λt c e=> ?_,hs.ze,λa o c e=> ?_,hs.fx,λk c e=> ?_,hs.rz,hs.ro⟩
 . exact(hs.sl t c e).imp id fun⟨v,h1,h2⟩=>⟨v,h1,h2.mono b⟩
 . exact(hs.ce a o c e).imp id fun⟨h1,cur,T,v,h2,h3,f⟩=>⟨h1,cur,T,v,h2,h3,f.mono b⟩
 . exact(hs.rw k c e).imp id fun⟨h1,h2⟩=>⟨h1,h2.mono (by rw[hs.H];exact h)⟩
def upN{α:Type}(f:Nat->α)(i:Nat)(y:α):Nat->α:=λj=>if j=i then y else f j
theorem Ze{α:Type}(f:Nat->α)(i:Nat)(y:α):upN f i y i=y:=TG rfl
theorem ZY{α:Type}{f:Nat->α}{i j:Nat}{y:α}(h:j≠i):upN f i y j=f j:=TM h
theorem RS.new (hs:RS x s I seg l own H){m:List CV}{cs:Array Value}{T b:Nat}(u:VRs I m cs.toList):
 RS x ⟨s.N,s.l,entA s.n m 0 s.o,(s.n,m.length)::s.z,s.n+1,s.f,s.c,s.r⟩ {I with ν:=upN I.ν s.n (b,.nilIface),n:=s.n+1} (upN seg s.n [(b,.cells cs T (0,0))]) l (own++ [[(b,.cells cs T (0,0))]]) H:=by
 have i:I.Le {I with ν:=upN I.ν s.n (b,.nilIface),n:=s.n+1}:=⟨R1 _,by show I.n<=s.n+1;rw[hs.n];omega,λk w=>ZY (by rw[hs.n]at w;omega),TL _,λ_ _=>rfl⟩;refine⟨hs.N,hs.H,rfl,hs.q,?_,λt c e=> ?_,λa k e=> ?_,λa o c e=> ?_,hs.fx,λk c e=> ?_,λk c e=> ?_,λk c j d e e2=> ?_⟩
 . rw[hs.own,List.range_succ,Su];congr 1
   . refine Sx λj y=>(ZY ?_).symm;have:=SE.1 y;omega
   . simp[Ze]
 . exact(hs.sl t c e).imp id fun⟨v,h1,h2⟩=>⟨v,h1,h2.mono i⟩
 . change ZG ((s.n,m.length)::s.z) a=some k at e;rw[ZE]at e;by_cases q:s.n=a
   . subst q;rw[TG rfl]at e;cases e;exact⟨SN _,cs,T,by rw[Ze];show _= [((upN I.ν s.n (b,.nilIface) s.n).1,_)];rw[Ze],by rw[<-TR,<-u.length]⟩
   . rw[TM q]at e;obtain⟨h1,cur,p,h2,h3⟩:=hs.ze a k e;exact⟨Sc h1,cur,p,by rw[ZY (Ne.symm q)];show _= [((upN I.ν s.n (b,.nilIface) a).1,_)];rw[ZY (Ne.symm q)];exact h2,h3⟩
 . change lkO (entA s.n m 0 s.o) a o=some c at e;rw[Jm]at e;split at e
   . rename_i A;obtain⟨rfl,-,h2⟩:=A;obtain⟨v,B,C⟩:=u.get (by simpa using e);exact .inr ⟨SN _,cs,T,v,by rw[Ze];show _= [((upN I.ν s.n (b,.nilIface) s.n).1,_)];rw[Ze],B,C.mono i⟩
   . rcases hs.ce a o c e with h|⟨h1,cur,p,v,h2,h3,D⟩
     . exact .inl h
     . have g:a≠s.n:=(by omega);exact .inr ⟨Sc h1,cur,p,v,by rw[ZY g];show _= [((upN I.ν s.n (b,.nilIface) a).1,_)];rw[ZY g];exact h2,h3,D.mono i⟩
 . rcases hs.rw k c e with h|⟨h1,h2⟩
   . exact .inl h
   have g:k≠s.n:=(by omega);exact .inr ⟨Sc h1,by show RwOk I.H (upN I.ν s.n (b,.nilIface) k).2 (upN seg s.n _ k) c;rw[ZY g,ZY g];exact h2⟩
 . rcases hs.rw k c e with h|⟨h1,_⟩
   . exact .inl h
   have g:s.n≠k:=(by omega);show c=.dead\/ZG ((s.n,m.length)::s.z) k=none;rw[ZE,TM g];exact hs.rz k c e
 . rcases hs.rw k c e with h|⟨h1,_⟩
   . exact .inl h
   change lkO (entA s.n m 0 s.o) k j=some d at e2;rw[Jm,TM (by omega)]at e2;exact hs.ro k c j d e e2
theorem Ext.new (s:PS)(m:List CV)(d:Nat):Ext s (PS.st ⟨s.N,s.l,entA s.n m 0 s.o,(s.n,m.length)::s.z,s.n+1,s.f,s.c,s.r⟩ d (.ptr s.n 0)):=
 ⟨rfl,⟨[(d,.ptr s.n 0)],rfl⟩,Wl _ _ _ _,⟨[(s.n,m.length)],rfl,by simp⟩,RJ _,⟨[],rfl⟩,TL _,⟨[],rfl⟩⟩
theorem ZLl{d:Nat}{m:List CV}{k:PS->Option β}(h:s.new d m k=some r):Nat.blt d s.N=true/\k (PS.st ⟨s.N,s.l,entA s.n m 0 s.o,(s.n,m.length)::s.z,s.n+1,s.f,s.c,s.r⟩ d (.ptr s.n 0))=some r:=by
 have h:ZIQ s.n m 0 s.o (λo=>PS.put ⟨s.N,s.l,o,(s.n,m.length)::s.z,Nat.succ s.n,s.f,s.c,s.r⟩ d (.ptr s.n 0) k)=some r:=h;rw[B9]at h;exact Yj h
theorem RS.sto (hs:RS x s I seg l own H){a o m:Nat}{c:List CV}{cs:List Value}{cur:Array Value}{T:TypeId}(B:ZG s.z a=some m)(F:VRs I c cs)(O:o+c.length<=m)(p:seg a= [((I.ν a).1,.cells cur T (0,0))])(u:cur.size=m):
    RS x ⟨s.N,s.l,entA a c o s.o,s.z,s.n,s.f,s.c,s.r⟩ I (upN seg a [((I.ν a).1,.cells (cur.toList.take o++cs++cur.toList.drop (o+cs.length)).toArray T (0,0))]) l (own.set a [((I.ν a).1,.cells (cur.toList.take o++cs++cur.toList.drop (o+cs.length)).toArray T (0,0))]) H:=by
  have P:=F.length;have y:(cur.toList.take o++cs++cur.toList.drop (o+cs.length)).length=m:=by simp;omega
  have C:=(hs.ze a m B).1;refine⟨hs.N,hs.H,hs.n,hs.q,?_,hs.sl,λb k e=> ?_,λb j v e=> ?_,hs.fx,λk c e=> ?_,hs.rz,λk Q j d e e2=> ?_⟩
  . rw [hs.own];apply Tp;intro j;rw[T5];by_cases q:a=j
    . subst q;simp[C,Ze]
    . rw [TM q];simp only[Sb];cases A:(List.range s.n)[j]? with
      |none=>rfl
      | some i=>
        have:i=j:=by
          have:=TD.1 A;obtain⟨h1,h2⟩:=this;simpa using h2.symm
        subst this;simp[ZY (Ne.symm q)]
  . obtain⟨h1,g,D,h2,h3⟩:=hs.ze b k e;by_cases q:b=a
    . subst q;rw[p]at h2;cases h2;exact⟨h1,_,T,Ze _ _ _,by rw[Tx,y,<-u,h3]⟩
    . exact⟨h1,g,D,by rw[ZY q];exact h2,h3⟩
  . change lkO (entA a c o s.o) b j=some v at e;rw[Jm]at e;split at e
    . rename_i E;obtain⟨rfl,h1,h2⟩:=E;obtain⟨w,J,K⟩:=F.get e;refine .inr ⟨C,_,T,w,Ze _ _ _,?_,K⟩;rw[Tj,TI,Sh (by simp;omega),ST (by simp;omega)];rw[show j-(cur.toList.take o).length=j-o by simp;omega];exact J
    . rename_i E;rcases hs.ce b j v e with h|⟨h1,g,D,w,h2,h3,G⟩
      . exact .inl h
      . right;by_cases q:b=a
        . subst q;rw[p]at h2;cases h2;refine⟨C,_,T,w,Ze _ _ _,?_,G⟩;rw[Tj];have A:=(TD.1 h3).1;by_cases L:j<o
          . rw[TI,ST (by simp at A|-;omega),Te,TG L];exact h3
          . have R:o+cs.length<=j:=by
              by_cases M:j<o+c.length
              . exact absurd ⟨rfl,by omega,M⟩ E
              . omega
            rw[Sh (by simp;omega),SR];simp only[TF,TH];rw[show o+cs.length+(j-(min o cur.toList.length+cs.length))=j by simp at A;simp;omega];exact h3
        . exact⟨h1,g,D,w,by rw[ZY q];exact h2,h3,G⟩
  . rcases hs.rw k c e with h|⟨h1,h2⟩
    . exact .inl h
    rcases hs.rz k c e with h|h3
    . exact .inl h
    have t:k≠a:=λq=>(by subst q;rw[B]at h3;cases h3);exact .inr ⟨h1,by rw[ZY t];exact h2⟩
  . rcases hs.rz k _ e with h|h3
    . exact .inl h
    have t:k≠a:=λq=>(by subst q;rw[B]at h3;cases h3);rw[show lkO (entA a c o s.o) k j=lkO s.o k j by rw[Jm,TM (λq=>t q.1)]]at e2;exact hs.ro k _ j d e e2
theorem ZNQ (hs:RS x s I seg l own H)(v:Value):I.Le {I with ν:=upN I.ν s.n (0,v),n:=s.n+1}:=⟨R1 _,by show I.n<=s.n+1;rw[hs.n];omega,λk h=>ZY (by rw[hs.n]at h;omega),TL _,λ_ _=>rfl⟩
theorem RS.newRC (hs:RS x s I seg l own H){rc:RC}{v:Value}{K:Own}(i:RwOk H v K rc):
 RS x ⟨s.N,s.l,s.o,s.z,s.n+1,s.f,s.c,(s.n,rc)::s.r⟩ {I with ν:=upN I.ν s.n (0,v),n:=s.n+1} (upN seg s.n K) l (own++ [K]) H:=by
 have g:=ZNQ hs v;refine⟨hs.N,hs.H,rfl,hs.q,?_,λt c e=> ?_,λa k e=> ?_,λa o c e=> ?_,hs.fx,λk c e=> ?_,λk c e=> ?_,λk c j d e e2=> ?_⟩
 . rw[hs.own,List.range_succ,Su];congr 1
   . refine Sx λj m=>(ZY ?_).symm;have:=SE.1 m;omega
   . simp[Ze]
 . exact(hs.sl t c e).imp id fun⟨v,h1,h2⟩=>⟨v,h1,h2.mono g⟩
 . obtain⟨h1,cur,T,h2,h3⟩:=hs.ze a k e;have b:a≠s.n:=(by omega);exact⟨Sc h1,cur,T,by rw[ZY b];show _= [((upN I.ν s.n (0,v) a).1,_)];rw[ZY b];exact h2,h3⟩
 . rcases hs.ce a o c e with h|⟨h1,cur,T,u,h2,h3,p⟩
   . exact .inl h
   . have b:a≠s.n:=(by omega);exact .inr ⟨Sc h1,cur,T,u,by rw[ZY b];show _= [((upN I.ν s.n (0,v) a).1,_)];rw[ZY b];exact h2,h3,p.mono g⟩
 . change ZG ((s.n,rc)::s.r) k=some c at e;rw[ZE]at e;by_cases q:s.n=k
   . subst q;rw[TG rfl]at e;cases e;refine .inr ⟨SN _,?_⟩;show RwOk I.H (upN I.ν s.n (0,v) s.n).2 (upN seg s.n K s.n) _;rw[Ze,Ze,hs.H];exact i
   . rw[TM q]at e;rcases hs.rw k c e with h|⟨h1,h2⟩
     . exact .inl h
     . refine .inr ⟨Sc h1,?_⟩;show RwOk I.H (upN I.ν s.n (0,v) k).2 (upN seg s.n K k) c;rw[ZY (Ne.symm q),ZY (Ne.symm q)];exact h2
 . change ZG ((s.n,rc)::s.r) k=some c at e;rw[ZE]at e;by_cases q:s.n=k
   . subst q
     right;show ZG s.z s.n=none;cases w:ZG s.z s.n with
     |none=>rfl
     |some a=>have:=(hs.ze _ _ w).1;omega
   . rw[TM q]at e;exact hs.rz k c e
 . change ZG ((s.n,rc)::s.r) k=some c at e;rw[ZE]at e;by_cases q:s.n=k
   . subst q;rcases hs.ce _ _ _ e2 with h|⟨h1,_⟩
     . exact .inr h
     . exact absurd h1 (Nat.lt_irrefl _)
   . rw[TM q]at e;exact hs.ro k c j d e e2
theorem RS.newRow (hs:RS x s I seg l own H){t:Ty}{E:Nat}{m:List (den t)}{v:Value}{K:Own}(h:RowOf H (RT t) 0 E (szY t) v m K):
 RS x ⟨s.N,s.l,s.o,s.z,s.n+1,s.f,s.c,(s.n,.own t E m)::s.r⟩ {I with ν:=upN I.ν s.n (0,v),n:=s.n+1} (upN seg s.n K) l (own++ [K]) H:=hs.newRC (rc:=.own t E m) h
theorem RS.setRow (hs:RS x s I seg l own H){k:Nat}{c0 c:RC}(g:ZG s.r k=some c0)(h0:c0≠.dead){K:Own}(w:RwOk I.H (I.ν k).2 K c):
    RS x ⟨s.N,s.l,s.o,s.z,s.n,s.f,s.c,(k,c)::s.r⟩ I (upN seg k K) l (own.set k K) H:=by
  have t:ZG s.z k=none:=(hs.rz k c0 g).resolve_left h0;have b:k<s.n:=((hs.rw k c0 g).resolve_left h0).1;refine⟨hs.N,hs.H,hs.n,hs.q,?_,hs.sl,λa m e=> ?_,λa o v e=> ?_,hs.fx,λj d e=> ?_,λj d e=> ?_,λj d o f e e2=> ?_⟩
  . rw [hs.own];apply Tp;intro j;rw[T5];by_cases q:k=j
    . subst q;simp[b,Ze]
    . rw [TM q];simp only[Sb];cases y:(List.range s.n)[j]? with
      |none=>rfl
      | some i=>
        have:i=j:=by
          obtain⟨h1,h2⟩:=TD.1 y;simpa using h2.symm
        subst this;simp[ZY (Ne.symm q)]
  . have p:a≠k:=λq=>(by subst q;rw[t]at e;cases e);obtain⟨h1,cur,T,h2,h3⟩:=hs.ze a m e;exact⟨h1,cur,T,by rw[ZY p];exact h2,h3⟩
  . rcases hs.ce a o v e with h|⟨h1,cur,T,u,h2,h3,A⟩
    . exact .inl h
    . by_cases q:a=k
      . subst q;exact .inl ((hs.ro _ _ _ _ g e).resolve_left h0)
      . exact .inr ⟨h1,cur,T,u,by rw[ZY q];exact h2,h3,A⟩
  . change ZG ((k,c)::s.r) j=some d at e;rw[ZE]at e;by_cases q:k=j
    . subst q;rw[TG rfl]at e;cases e;exact .inr ⟨b,by rw[Ze];exact w⟩
    . rw[TM q]at e;exact(hs.rw j d e).imp id fun⟨h1,h2⟩=>⟨h1,by rw[ZY (Ne.symm q)];exact h2⟩
  . change ZG ((k,c)::s.r) j=some d at e;rw[ZE]at e;by_cases q:k=j
    . subst q;exact .inr t
    . rw[TM q]at e;exact hs.rz j d e
  . change ZG ((k,c)::s.r) j=some d at e;rw[ZE]at e;by_cases q:k=j
    . subst q;exact .inr ((hs.ro _ _ _ _ g e2).resolve_left h0)
    . rw[TM q]at e;exact hs.ro j d o f e e2
end
noncomputable def pubS:List Nat->PS->PS
 |[],s=>s
 |j::js,s=>match ZG s.r j with|some (.own t _ m)=>pubS js ⟨s.N,s.l,s.o,s.z,s.n,s.f,s.c,(j,.pub t m)::s.r⟩|some (.mrk _ m)=>pubS js ⟨s.N,s.l,s.o,s.z,s.n,s.f,s.c,(j,.pub .w8 m)::s.r⟩|_=>pubS js s
theorem WG{β:Type}:∀(js:List Nat) (s:PS) (k:PS->Option β),JO js s k=k (pubS js s)
  |[],s,k=>rfl
  | j::js,s,k=>by
    show(match ZG s.r j with|some (.own t _ m)=>JO js ⟨s.N,s.l,s.o,s.z,s.n,s.f,s.c,(j,.pub t m)::s.r⟩ k|some (.mrk _ m)=>JO js ⟨s.N,s.l,s.o,s.z,s.n,s.f,s.c,(j,.pub .w8 m)::s.r⟩ k|_=>JO js s k)=_;rw[pubS];split
    . exact WG js _ k
    . exact WG js _ k
    . exact WG js s k
structure SameB (s t:PS):Prop where
  N:t.N=s.N
  l:t.l=s.l
  o:t.o=s.o
  z:t.z=s.z
  n:t.n=s.n
  f:t.f=s.f
  c:t.c=s.c
theorem Y6:∀(js:List Nat) (s:PS),SameB s (pubS js s)
  |[],s=>⟨rfl,rfl,rfl,rfl,rfl,rfl,rfl⟩
  | j ::js,s=>by
    rw[pubS];split
    . rename_i t E m e;have h:=Y6 js ⟨s.N,s.l,s.o,s.z,s.n,s.f,s.c,(j,.pub t m)::s.r⟩;exact⟨h.N,h.l,h.o,h.z,h.n,h.f,h.c⟩
    . rename_i E m e;have h:=Y6 js ⟨s.N,s.l,s.o,s.z,s.n,s.f,s.c,(j,.pub .w8 m)::s.r⟩;exact⟨h.N,h.l,h.o,h.z,h.n,h.f,h.c⟩
    . exact Y6 js s
theorem Gm:∀{js:List Nat} {s:PS} {k:Nat},k∉js->ZG (pubS js s).r k=ZG s.r k
  |[],s,k,h=>rfl
  | j::js,s,k,h=>by
    have h1:j≠k:=λe=>h (by simp[e]);have h2:k∉js:=λe=>h (by simp[e]);rw[pubS];split
    . rw[Gm h2];exact(ZE _ _ _).trans (TM h1)
    . rw[Gm h2];exact(ZE _ _ _).trans (TM h1)
    . exact Gm h2
theorem Gl:∀{js:List Nat} {s:PS} {k:Nat} {t:Ty} {m:List (den t)},ZG s.r k=some (.pub t m)->ZG (pubS js s).r k=some (.pub t m)
  |[],s,k,t,m,h=>h
  | j ::js,s,k,t,m,h=>by
    rw[pubS];split
    . rename_i u E m' e;refine Gl ?_;show ZG ((j,.pub _ _)::s.r) k=_;rw[ZE];by_cases q:j=k
      . subst q;rw[h]at e;cases e
      . rw[TM q];exact h
    . rename_i E m' e;refine Gl ?_;show ZG ((j,.pub _ _)::s.r) k=_;rw[ZE];by_cases q:j=k
      . subst q;rw[h]at e;cases e
      . rw[TM q];exact h
    . exact Gl h
theorem ZDa:∀{js:List Nat} {s:PS} {k:Nat} {t:Ty} {E:Nat} {m:List (den t)},k∈js->ZG s.r k=some (.own t E m)->ZG (pubS js s).r k=some (.pub t m)
  | j ::js,s,k,t,E,m,a,h=>by
    rw[pubS];by_cases q:j=k
    . subst q;rw[h];exact Gl ((ZE _ _ _).trans (TG rfl))
    . have a:k∈js:=(Ta.1 a).resolve_left (λe=>q e.symm);split
      . exact ZDa a ((ZE _ _ _).trans (by rw[TM q];exact h))
      . exact ZDa a ((ZE _ _ _).trans (by rw[TM q];exact h))
      . exact ZDa a h
theorem ZDb:∀{js:List Nat} {s:PS} {k E:Nat} {m:List UInt8},k∈js->ZG s.r k=some (.mrk E m)->ZG (pubS js s).r k=some (.pub .w8 m)
  | j ::js,s,k,E,m,a,h=>by
    rw[pubS];by_cases q:j=k
    . subst q;rw[h];exact Gl (t:=.w8) ((ZE _ _ _).trans (TG rfl))
    . have a:k∈js:=(Ta.1 a).resolve_left (λe=>q e.symm);split
      . exact ZDb a ((ZE _ _ _).trans (by rw[TM q];exact h))
      . exact ZDb a ((ZE _ _ _).trans (by rw[TM q];exact h))
      . exact ZDb a h
section
variable{x:Cx}{l:Slots}
theorem ZUI{s:PS}{I:In}{seg:Nat->Own}{own:List Own}{H:Heaplet}(hs:RS x s I seg l own H){a:Heaplet}(h:Hle H a):I.Le {I with H:=a}:=⟨by rw[hs.H];exact h,TL _,λ_ _=>rfl,TL _,λ_ _=>rfl⟩
theorem Ext.row (s:PS)(k:Nat)(c:RC):Ext s ⟨s.N,s.l,s.o,s.z,s.n,s.f,s.c,(k,c)::s.r⟩:=⟨rfl,⟨[],rfl⟩,⟨[],rfl⟩,⟨[],rfl,by simp⟩,TL _,⟨[],rfl⟩,TL _,⟨[(k,c)],rfl⟩⟩
theorem Sg.setRow{s:PS}{k:Nat}{c:RC}{seg:Nat->Own}{K:Own}:Sg s ⟨s.N,s.l,s.o,s.z,s.n,s.f,s.c,(k,c)::s.r⟩ seg (upN seg k K):=λa _ _ h=>by
 refine ZY (λe=>h (k,c) ?_ e.symm);show(k,c)∈newL ((k,c)::s.r) s.r;rw[show(k,c)::s.r= [(k,c)]++s.r from rfl,YK];simp
theorem Uj{K:Act->World->Prop}{F:List Own}:∀{js:List Nat} {s:PS} {I:In} {seg:Nat->Own} {own:List Own} {H:Heaplet},RS x s I seg l own H->
    (∀seg' own' a,Go s I seg H (pubS js s) {I with H:=a} seg' a->RS x (pubS js s) {I with H:=a} seg' l own' a->JN x K l (own'++F) a)->JN x K l (own++F) H
  | [],s,I,seg,own,H,hs,b=>by
    have e:{I with H:=H}=I:=(by have:=hs.H;subst this;rfl);refine b seg own H ?_ ?_
    . rw[e];exact Go.refl _ _ _ _
    . rw[e];exact hs
  | j ::js,s,I,seg,own,H,hs,b=>by
    rw[pubS]at b;split at b
    . rename_i t E m e;obtain⟨h1,h2⟩:=(hs.rw _ _ e).resolve_left (by simp);have h2:RowOf I.H (RT t) 0 E (szY t) (I.ν j).2 m (seg j):=h2;rw[hs.H]at h2;have g:j<own.length:=(by rw[hs.own];simpa using h1);refine JN.pub0 j (RT.mono t) (by rw[ST g];exact Yi hs h1) h2 (λa h hsl=> ?_);rw[List.set_append_left _ _ g];refine Uj ((hs.le h).setRow (c:=.pub t m) e (by simp) (K:=[]) hsl) (λseg' own' d i f=>b seg' own' d ?_ f);exact Go.trans ⟨Ext.row _ _ _,Sg.setRow,h,ZUI hs h⟩ i
    . rename_i E m e;obtain⟨h1,h2⟩:=(hs.rw _ _ e).resolve_left (by simp);have h2:RowOfM I.H RU8 0 E 1 (I.ν j).2 m (seg j):=h2;rw[hs.H]at h2;have g:j<own.length:=(by rw[hs.own];simpa using h1);refine JN.pubM j RU8.mono (by rw[ST g];exact Yi hs h1) h2 (λa h hsl=> ?_);rw[List.set_append_left _ _ g];refine Uj ((hs.le h).setRow (c:=.pub .w8 m) e (by simp) (K:=[]) hsl) (λseg' own' d i f=>b seg' own' d ?_ f);exact Go.trans ⟨Ext.row _ _ _,Sg.setRow,h,ZUI hs h⟩ i
    . exact Uj hs b
theorem BS{K:Act->World->Prop}{js:List Nat}{s:PS}{I:In}{seg:Nat->Own}{own:List Own}{H:Heaplet}(hs:RS x s I seg l own H)
 (h:∀seg' own' a,Go s I seg H (pubS js s) {I with H:=a} seg' a->RS x (pubS js s) {I with H:=a} seg' l own' a->JN x K l own' a):JN x K l own H:=by
 have:=Uj (F:=[]) hs (λseg' own' a g b=>by rw[Tt];exact h seg' own' a g b);rwa[Tt]at this
end
def VUs (I:In):List CV->List Value->Prop
 |[],vs=>vs= []
 |c::r,vs=>∃v us,vs=v::us/\(c=.unk\/VR I c v)/\VUs I r us
theorem VRs.vu{I:In}:∀{l:List CV} {vs:List Value},VRs I l vs->VUs I l vs
 |[],vs,h=>h.un0
 |c::r,vs,h=>by obtain⟨v,us,e,h1,h2⟩:=h.un;exact⟨v,us,e,.inr h1,h2.vu⟩
theorem VUs.length{I:In}:∀{l:List CV} {vs:List Value},VUs I l vs->l.length=vs.length
 |[],vs,h=>by cases h;rfl
 |c::r,vs,h=>by obtain⟨v,us,rfl,_,h2⟩:=h;simp[VUs.length h2]
theorem VUs.get{I:In}:∀{i:Nat} {l:List CV} {vs:List Value} {v:Value},VUs I l vs->vs[i]? =some v->∃c,l[i]? =some c/\(c=.unk\/VR I c v)
 |i,[],vs,v,h,e=>by cases h;simp at e
 |0,a::r,vs,v,h,e=>by obtain⟨w,us,rfl,h1,h2⟩:=h;simp at e;subst e;exact⟨a,rfl,h1⟩
 |i+1,a::r,vs,v,h,e=>by obtain⟨w,us,rfl,h1,h2⟩:=h;simpa using VUs.get h2 (by simpa using e)
theorem VUs.append{I:In}:∀{l m:List CV} {vs us:List Value},VUs I l vs->VUs I m us->VUs I (l++m) (vs++us)
 |[],m,vs,us,h,k=>by cases h;exact k
 |c::r,m,vs,us,h,k=>by obtain⟨v,ws,rfl,h1,h2⟩:=h;exact⟨v,ws++us,rfl,h1,VUs.append h2 k⟩
theorem VUs.split{I:In}:∀{l m:List CV} {vs:List Value},VUs I (l++m) vs->∃us ws,vs=us++ws/\us.length=l.length/\VUs I l us/\VUs I m ws
  |[],m,vs,h=>⟨[],vs,rfl,rfl,rfl,h⟩
  | c::r,m,vs,h=>by
    obtain⟨v,ws,rfl,h1,h2⟩:=(show∃v us,vs=v::us/\(c=.unk\/VR I c v)/\VUs I (r++m) us from h)
    obtain⟨us,ws,rfl,e,h3,a⟩:=VUs.split h2;exact⟨v::us,ws,rfl,by simp[e],⟨v,us,rfl,h1,h3⟩,a⟩
theorem P0{I:In}:∀{l:List CV} {vs:List Value},l.length=vs.length->(∀(i:Nat) (c:CV) (v:Value),l[i]? =some c->vs[i]? =some v->VR I c v)->VRs I l vs
 |[],[],h,k=>VRs.nil
 |c::l,v::vs,h,k=>VRs.cons (k 0 c v rfl rfl) (P0 (by simpa using h) λi a v' e1 e2=>k (i+1) a v' (by simpa using e1) (by simpa using e2))
 |[],v::vs,h,k=>by cases h
 |c::l,[],h,k=>by cases h
def dcB (c:CV):Bool:=match c with| .i _=>true| .w8 _=>true| .w32 _=>true| .w64 _=>true| .b _=>true| .s _=>true| .sl _ _=>true|_=>false
theorem VR.dc{I J:In}(h:I.H=J.H){c:CV}{v:Value}(b:dcB c=true)(a:VR I c v):VR J c v:=by
 cases c<;>first|exact a|(cases b;done)|(simp only[VR]at a|-;rw[<-h];exact a)
theorem ZSX:∀(t:Ty) (y:den t),allB dcB (spC t y)=true:=λt=>by
  induction t with
  |st k=>intro y;cases k<;>rfl
  | pr a b i d=>
    intro y;refine ZW.2 λc e=> ?_;rcases TU.1 (show c∈spC a y.1++spC b y.2 from e)with h|h
    . exact ZW.1 (i _) c h
    . exact ZW.1 (d _) c h
  |_=>intro y;rfl
theorem ZUV (t:Ty)(y:den t):∀c∈spC t y,dcB c=true:=ZW.1 (ZSX t y)
def InstW (g:Nat->Nat):List (Nat×Nat×Nat)->List CV->List CV->List (Nat×RC)->Prop
 |[],l,z,a=>z=l/\a= []
 |p::w,l,z,a=>∃t m r,l[p.1]? =some (.sl t m)/\InstW g w (setC l p.1 (.row (g p.2.1))) z r/\a=(g p.2.1,.own t p.2.2 m)::r
inductive InstL (g:Nat->Nat):List Pt->List HV->Nat->List CV->List HV->Nat->List (Nat×RC)->Prop
  |nil {hs c}:InstL g [] hs c [] hs c []
  |d {y w x l rs ps hs c cs hs' c' rs'}:InstW g w (spC y x) l rs->InstL g ps hs c cs hs' c' rs'->InstL g (.d y w::ps) (.d y x::hs) c (l++cs) hs' c' (rs++rs')
  |n {j ps hs c cs hs' c' rs}:InstL g ps hs (c+1) cs hs' c' rs->InstL g (.n::ps) (.n j::hs) c (.n c j::cs) hs' c' rs
  |rr {i ps hs c cs hs' c' rs}:InstL g ps hs c cs hs' c' rs->InstL g (.rr i::ps) hs c (.row (g i)::cs) hs' c' rs
  |ptr {i o ps hs c cs hs' c' rs}:InstL g ps hs c cs hs' c' rs->InstL g (.ptr i o::ps) hs c (.ptr (g i) o::cs) hs' c' rs
  |el {y o x ps hs c cs hs' c' rs}:InstL g ps hs c cs hs' c' rs->InstL g (.el y o::ps) (.d y x::hs) c (.el y x o::cs) hs' c' rs
  |oel {y x ps hs c cs hs' c' rs}:InstL g ps hs c cs hs' c' rs->InstL g (.oel y::ps) (.o y x::hs) c (.oel y x::cs) hs' c' rs
  |rel {y i o} {x:Int} {ps hs c cs hs' c' rs}:InstL g ps hs c cs hs' c' rs->InstL g (.rel y i o::ps) (.d .i x::hs) c (.rel y (g i) x o::cs) hs' c' rs
  |orel {y i} {x:Option Int} {ps hs c cs hs' c' rs}:InstL g ps hs c cs hs' c' rs->InstL g (.orel y i::ps) (.o .i x::hs) c (.orel y (g i) x::cs) hs' c' rs
  |cl {y} {x:List (den y)} {ps hs c cs hs' c' rs}:InstL g ps hs c cs hs' c' rs->InstL g (.cl y::ps) (.d (.sl y) x::hs) c (.cl y x::cs) hs' c' rs
  |rv {y i} {x:Int} {ps hs c cs hs' c' rs}:InstL g ps hs c cs hs' c' rs->InstL g (.rv y i::ps) (.d .i x::hs) c (.rv y (g i) x::cs) hs' c' rs
  |ag {n ps hs c cs hs' c' rs}:InstL g ps hs c cs hs' c' rs->n<=cs.length->InstL g (.ag n::ps) hs c (.ag (cs.take n)::cs.drop n) hs' c' rs
  |tu {n ps hs c cs hs' c' rs}:InstL g ps hs c cs hs' c' rs->n<=cs.length->InstL g (.tu n::ps) hs c (.tu (cs.take n)::cs.drop n) hs' c' rs
  |clo {f n m ps hs c cs hs' c' rs}:InstL g ps hs c cs hs' c' rs->n+m<=cs.length->InstL g (.clo f n m::ps) hs c (.clo f (cs.take n) ((cs.drop n).take m)::cs.drop (n+m)) hs' c' rs
  |c {v ps hs c cs hs' c' rs}:InstL g ps hs c cs hs' c' rs->InstL g (.c v::ps) hs c (v::cs) hs' c' rs
  |x {ps hs c cs hs' c' rs}:InstL g ps hs c cs hs' c' rs->InstL g (.x::ps) hs c (.any::cs) hs' c' rs
  |bor {y i E} {x:List (den y)} {ps hs c cs hs' c' rs}:InstL g ps hs c cs hs' c' rs->InstL g (.bor y i E::ps) (.d (.sl y) x::hs) c cs hs' c' ((g i,.own y E x)::rs)
inductive InstB (g:Nat->Nat):List Bp->Nat->List HV->Nat->List (Nat×List CV)->Nat->List (Nat×RC)->Prop
  |nil {i hs c}:InstB g [] i hs c [] c []
  |row {bs i hs c bl c' rs}:InstB g bs (i+1) hs c bl c' rs->InstB g (.row::bs) i hs c bl c' rs
  |cells {n ps bs i hs c cs hs1 c1 rs bl c' rs'}:InstL g ps hs c cs hs1 c1 rs->cs.length=n->InstB g bs (i+1) hs1 c1 bl c' rs'->InstB g (.cells n ps::bs) i hs c ((g i,cs)::bl) c' (rs++rs')
section
variable{β:Type}{r:β}
theorem ZMj{ρ:Rho}{b:Nat}:∀{w:List (Nat×Nat×Nat)} {l:List CV} {k:List CV->List (Nat×RC)->Option β},buW ρ b w l k=some r->∃z a,InstW (sg ρ b) w l z a/\k z a=some r
  |[],l,k,h=>⟨l,[],⟨rfl,rfl⟩,h⟩
  | p ::w,l,k,h=>by
    have h:(match l[p.1]? with|some (.sl t m)=>buW ρ b w (setC l p.1 (.row (sg ρ b p.2.1))) λl a=>k l ((sg ρ b p.2.1,.own t p.2.2 m)::a)|_=>none)=some r:=h;split at h
    . rename_i t m e;obtain⟨z,a,h1,h2⟩:=ZMj h;exact⟨z,_,⟨t,m,a,e,h1,rfl⟩,h2⟩
    . cases h
theorem YV{ρ:Rho}{b:Nat}:∀{ps:List Pt} {hs:List HV} {c:Nat} {k:Bk β},buL ρ b ps hs c k=some r->∃cs a g i,InstL (sg ρ b) ps hs c cs a g i/\k cs a g i=some r
  |[],hs,c,k,h=>⟨[],hs,c,[],.nil,h⟩
  | p ::ps,hs,c,k,h=>by
    have h:buP ρ b p hs c (buL ρ b ps) k=some r:=h;unfold buP at h;split at h
    . split at h
      . obtain⟨e,h⟩:=Zl h;cases e;rw[XS]at h;obtain⟨z,i,h1,h⟩:=ZMj h;obtain⟨cs,a,g,f,h2,h⟩:=YV h;exact⟨_,_,_,_,.d h1 h2,h⟩
      . cases h
    . split at h
      . obtain⟨cs,a,g,f,h2,h⟩:=YV h;exact⟨_,_,_,_,.n h2,h⟩
      . cases h
    . obtain⟨cs,a,g,f,h2,h⟩:=YV h;exact⟨_,_,_,_,.rr h2,h⟩
    . obtain⟨cs,a,g,f,h2,h⟩:=YV h;exact⟨_,_,_,_,.ptr h2,h⟩
    . split at h
      . obtain⟨e,h⟩:=Zl h;cases e;obtain⟨cs,a,g,f,h2,h⟩:=YV h;exact⟨_,_,_,_,.el h2,h⟩
      . cases h
    . split at h
      . obtain⟨e,h⟩:=Br h;cases e;obtain⟨cs,a,g,f,h2,h⟩:=YV h;exact⟨_,_,_,_,.oel h2,h⟩
      . cases h
    . split at h
      . obtain⟨e,h⟩:=Zl h;cases e;obtain⟨cs,a,g,f,h2,h⟩:=YV h;exact⟨_,_,_,_,.rel h2,h⟩
      . cases h
    . split at h
      . obtain⟨e,h⟩:=Br h;cases e;obtain⟨cs,a,g,f,h2,h⟩:=YV h;exact⟨_,_,_,_,.orel h2,h⟩
      . cases h
    . split at h
      . obtain⟨e,h⟩:=Zl h;cases e;obtain⟨cs,a,g,f,h2,h⟩:=YV h;exact⟨_,_,_,_,.cl h2,h⟩
      . cases h
    . split at h
      . obtain⟨e,h⟩:=Zl h;cases e;obtain⟨cs,a,g,f,h2,h⟩:=YV h;exact⟨_,_,_,_,.rv h2,h⟩
      . cases h
    . obtain⟨cs,a,g,f,h2,h⟩:=YV h;obtain⟨hn,h⟩:=ZA h;exact⟨_,_,_,_,.ag h2 (TN hn),h⟩
    . obtain⟨cs,a,g,f,h2,h⟩:=YV h;obtain⟨hn,h⟩:=ZA h;exact⟨_,_,_,_,.tu h2 (TN hn),h⟩
    . obtain⟨cs,a,g,f,h2,h⟩:=YV h;obtain⟨hn,h⟩:=ZA h;exact⟨_,_,_,_,.clo h2 (TN hn),h⟩
    . obtain⟨cs,a,g,f,h2,h⟩:=YV h;exact⟨_,_,_,_,.c h2,h⟩
    . obtain⟨cs,a,g,f,h2,h⟩:=YV h;exact⟨_,_,_,_,.x h2,h⟩
    . split at h
      . obtain⟨e,h⟩:=Zl h;cases e;obtain⟨cs,a,g,f,h2,h⟩:=YV h;exact⟨_,_,_,_,.bor h2,h⟩
      . cases h
theorem ZIM{ρ:Rho}{b:Nat}:∀{bs:List Bp} {i:Nat} {hs:List HV} {c:Nat} {k:List (Nat×List CV)->Nat->List (Nat×RC)->Option β},buB ρ b bs i hs c k=some r->∃d e a,InstB (sg ρ b) bs i hs c d e a/\k d e a=some r
  |[],i,hs,c,k,h=>⟨[],c,[],.nil,h⟩
  | .row::bs,i,hs,c,k,h=>by
    obtain⟨d,e,a,h1,h2⟩:=ZIM (show buB ρ b bs (i+1) hs c k=some r from h)
    exact⟨d,e,a,.row h1,h2⟩
  | .cells n ps::bs,i,hs,c,k,h=>by
    have h:buL ρ b ps hs c (λcs hs c a=>bb (Nat.beq cs.length n) (QD cs λcs=>buB ρ b bs (i+1) hs c λl c f=>k ((sg ρ b i,cs)::l) c (a++f)) none)=some r:=h;obtain⟨cs,g,e,a,h1,h⟩:=YV h;obtain⟨hn,h⟩:=ZA h;rw[XS]at h;obtain⟨d,m,j,h2,h3⟩:=ZIM h;exact⟨_,_,_,.cells h1 (TB hn) h2,h3⟩
end
def SubR (ρ b:Rho):Prop:=∀i a,ZG ρ i=some a->ZG b i=some a
theorem Pe (ρ:Rho):SubR ρ ρ:=λ_ _ h=>h
theorem SubR.trans{a b c:Rho}(h:SubR a b)(k:SubR b c):SubR a c:=λi x e=>k i x (h i x e)
def InjR (ρ:Rho):Prop:=∀i j a,ZG ρ i=some (some a)->ZG ρ j=some (some a)->i=j
theorem UN{α:Type}:∀{l:List (Nat×α)} {i:Nat} {v:α},ZG l i=some v->(i,v)∈l
  |[],i,v,h=>by cases h
  | p::l,i,v,h=>by
    rw[ZE]at h;by_cases q:p.1=i
    . rw[TG q]at h;cases h;subst q;simp
    . rw[TM q]at h;exact Sl _ (UN h)
theorem ZPt{a b:Option Nat}(h:eqON a b=true):a=b:=by
 unfold eqON at h;split at h
 . rw[TB h]
 . rfl
 . cases h
theorem ZC7{ρ:Rho}{j:Nat}(h:freeR ρ (some j)=true):∀i,ZG ρ i≠some (some j):=λi e=>by
 have h1:=ZW.1 (show allB (λp:Nat×Option Nat=>match p.2 with|some k=> !(Nat.beq j k)|none=>true) ρ=true from h) _ (UN e);simp at h1
section
variable{β:Type}{r:β}
theorem Km{ρ:Rho}{i:Nat}{a:Option Nat}{k:Rho->Option β}(h:JH ρ i a k=some r)(hi:InjR ρ):∃d,k d=some r/\SubR ρ d/\InjR d/\ZG d i=some a:=by
 unfold JH at h;split at h
 . rename_i b e;obtain⟨h1,h⟩:=ZA h;exact⟨ρ,h,Pe _,hi,by rw[ZPt h1];exact e⟩
 . rename_i e;obtain⟨h1,h⟩:=ZA h;refine⟨_,h,λj b q=> ?_,?_,(ZE _ _ _).trans (TG rfl)⟩
   . rw[ZE];by_cases g:i=j
     . subst g;rw[e]at q;cases q
     . rw[TM g];exact q
   . intro j l b q f;rw[ZE]at q f;by_cases g:i=j
     . rw[TG g]at q;by_cases c:i=l
       . rw[<-g,<-c]
       . rw[TM c]at f;cases q;exact absurd f (ZC7 h1 _)
     . rw[TM g]at q;by_cases c:i=l
       . rw[TG c]at f;cases f;exact absurd q (ZC7 h1 _)
       . rw[TM c]at f;exact hi _ _ _ q f
def cnt:List HV->List Nat
 |[]=> []
 | .n j::hs=>j::cnt hs
 | .d _ _::hs=>cnt hs
 | .o _ _::hs=>cnt hs
theorem Kl:∀(a b:List HV),cnt (a++b)=cnt a++cnt b
 |[],b=>rfl
 | .n j::hs,b=>by simp[cnt,Kl hs b]
 | .d _ _::hs,b=>by simp[cnt,Kl hs b]
 | .o _ _::hs,b=>by simp[cnt,Kl hs b]
abbrev Wt:=Nat->Option ((Nat×Value)×Own)
def nuO (I:In)(a:Option Nat):Nat×Value:=match a with|some a=>I.ν a|none=>(0,.slice none 0 0)
def sgO (seg:Nat->Own)(a:Option Nat):Own:=match a with|some a=>seg a|none=> []
noncomputable def Wf (ρ:Rho) (I:In) (seg:Nat->Own):Wt:=λi=>(ZG ρ i).map λa=>(nuO I a,sgO seg a)
structure Cp (J:In) (H:Heaplet) (g:Nat->Nat) (W:Wt):Prop where
  H:J.H=H
  b:∀i w,W i=some w->g i<J.n/\J.ν (g i)=w.1
def Cnt (J:In)(c:Nat)(l:List Nat):Prop:=∀(m j:Nat),l[m]? =some j->c+m<J.q/\J.κ (c+m)=j
def RowsOk (H:Heaplet)(g:Nat->Nat)(W:Wt)(r:List (Nat×RC)):Prop:=∀p∈r,∃i w,W i=some w/\p.1=g i/\RwOk H w.1.2 w.2 p.2/\∃t E m,p.2=.own t E m
theorem RowsOk.app{H:Heaplet}{g:Nat->Nat}{W:Wt}{a b:List (Nat×RC)}(h:RowsOk H g W a)(k:RowsOk H g W b):RowsOk H g W (a++b):=λp c=>(TU.1 c).elim (h p) (k p)
def Tells (H:Heaplet)(W:Wt)(ps:List Pt)(hs:List HV)(vs:List Value):Prop:=
  ∀ (g:Nat->Nat) (J:In) (c:Nat) (t:List HV) (cs:List CV) (h:List HV) (a:Nat) (r:List (Nat×RC)),Cp J H g W->Cnt J c (cnt hs)->InstL g ps (hs++t) c cs h a r->
    h=t/\a=c+(cnt hs).length/\VRs J cs vs/\RowsOk H g W r
structure Rw (s:PS) (JS:List Nat) (I:In) (seg:Nat->Own):Prop where
  own:∀j t E m,ZG s.r j=some (.own t E m)->j∉JS->RwOk I.H (I.ν j).2 (seg j) (.own t E m)
  pub:∀j t m,(ZG s.r j=some (.pub t m)\/(j∈JS/\∃E,ZG s.r j=some (.own t E m)))->IsSlice I.H (RT t) (szY t) (I.ν j).2 m
  mr:∀j E m,ZG s.r j=some (.mrk E m)->j∈JS->IsSlice I.H RU8 1 (I.ν j).2 m
  ce:∀a m,ZG s.z a=some m->a<I.n/\∃cur T,seg a= [((I.ν a).1,.cells cur T (0,0))]/\cur.size=m/\∀o c,lkO s.o a o=some c->c=.unk\/∃v,cur.toList[o]? =some v/\VR I c v
theorem Rw.of{x:Cx}{s:PS}{JS:List Nat}{I:In}{seg:Nat->Own}{l:Slots}{own:List Own}{H:Heaplet}(h:RS x (pubS JS s) I seg l own H):Rw s JS I seg:=by
 constructor
 . intro j t E m e b;exact((h.rw j (.own t E m) (by rw[Gm b];exact e)).resolve_left (by simp)).2
 . intro j t m e;have e2:ZG (pubS JS s).r j=some (.pub t m):=by
    rcases e with e|⟨b,E,e⟩
    . exact Gl e
    . exact ZDa b e
   exact((h.rw j (.pub t m) e2).resolve_left (by simp)).2
 . intro j E m e b;exact((h.rw j (.pub .w8 m) (ZDb b e)).resolve_left (by simp)).2
 . intro a m e;have hb:=Y6 JS s;obtain⟨h1,cur,T,h2,h3⟩:=h.ze a m (by rw[hb.z];exact e);refine⟨by rw[h.n];exact h1,cur,T,h2,h3,λo c e2=> ?_⟩;refine(h.ce a o c (by rw[hb.o];exact e2)).imp id fun⟨_,d,k,v,f,g,i⟩=> ?_;rw[h2]at f;simp only[SA,SD,Obj.cells.injEq,and_true,Rd]at f;obtain⟨rfl,_⟩:=f;exact⟨v,g,i⟩
def Mt (s:PS)(ps:List Pt)(cs:List CV)(c:Rho)(hs:List HV)(js:List Nat):Prop:=
 ∀(JS:List Nat) (I:In) (seg:Nat->Own) (b:Rho) (vs:List Value),Rw s JS I seg->(∀j∈js,j∈JS)->SubR c b->(∀i a,ZG b i=some (some a)->a∉JS)->VUs I cs vs->Tells I.H (Wf b I seg) ps hs vs
def OwR (s:PS)(ρ:Rho)(w:List (Nat×Nat×Nat))(o:Nat)(c d:CV):Prop:=
 (d=c/\∀p∈w,p.1≠o)\/∃p∈w,p.1=o/\((∃j t m,c=.row j/\ZG s.r j=some (.own t p.2.2 m)/\d=.sl t m/\ZG ρ p.2.1=some (some j))\/(c=.nils/\d=.nils/\ZG ρ p.2.1=some none))
theorem Ui{l:List CV}{o:Nat}{c:CV}(h:o<l.length)(k:Nat):(setC l o c)[k]? =if k=o then some c else l[k]?:=by
 unfold setC;by_cases q:k<o
 . rw[ST (by simp;omega),Te,TG q,TM (by omega)]
 . rw[Sh (by simp;omega)];simp only[TH];by_cases a:k=o
   . rw[TG a,show k-min o l.length=0 by omega];rfl
   . rw[TM a,show k-min o l.length=(k-o-1)+1 by omega,Ro,SR];congr 1;omega
theorem ZLI{l:List CV}{o:Nat}{c:CV}(h:o<l.length):(setC l o c).length=l.length:=by
 unfold setC;simp;omega
theorem ZEe{s:PS}:∀{w:List (Nat×Nat×Nat)} {l:List CV} {ρ:Rho} {k:List CV->Rho->Option β},ZQy s w l ρ k=some r->InjR ρ->
    ∃q b,k q b=some r/\SubR ρ b/\InjR b/\q.length=l.length/\∀(o:Nat) (c:CV),l[o]? =some c->∃d,q[o]? =some d/\OwR s b w o c d
  |[],l,ρ,k,h,hi=>⟨l,ρ,h,Pe _,hi,rfl,λo c e=>⟨c,e,.inl ⟨rfl,by simp⟩⟩⟩
  | p ::w,l,ρ,k,h,hi=>by
    have h:(match l[p.1]? with
      |some (.row j)=>(match ZG s.r j with|some (.own t E m)=>bb (Nat.beq E p.2.2) (JH ρ p.2.1 (some j) λρ=>ZQy s w (setC l p.1 (.sl t m)) ρ k) none|_=>none)
      |some .nils=>JH ρ p.2.1 none λρ=>ZQy s w l ρ k
      |_=>none)=some r:=h
    split at h
    . rename_i j e;split at h
      . rename_i t E m e2;obtain⟨z,G⟩:=ZA h;clear h;have z:=TB z;subst z;obtain⟨A,H,s1,B,C⟩:=Km G hi;obtain⟨q,f,h,s2,D,F,y⟩:=ZEe H B;have g:=(TD.1 e).1;refine⟨q,f,h,s1.trans s2,D,by rw[F,ZLI g],λo c i=> ?_⟩;by_cases u:o=p.1
        . subst u;rw[e]at i;cases i;obtain⟨d,x,v⟩:=y p.1 (.sl t m) (by rw[Ui g,TG rfl]);refine⟨d,x,.inr ⟨p,by simp,rfl,.inl ⟨j,t,m,rfl,e2,?_,s2 _ _ C⟩⟩⟩;rcases v with⟨rfl,_⟩|⟨a,_,_,⟨I,J,m',e3,_⟩|⟨e3,_⟩⟩
          . rfl
          . cases e3
          . cases e3
        . obtain⟨d,x,v⟩:=y o c (by rw[Ui g,TM u];exact i);refine⟨d,x,?_⟩;rcases v with⟨e3,e4⟩|⟨a,e3,e4⟩
          . exact .inl ⟨e3,λa n=>(Ta.1 n).elim (λe5=>by subst e5;exact λq=>u q.symm) (e4 a)⟩
          . exact .inr ⟨a,by simp[e3],e4⟩
      . cases h
    . rename_i e;obtain⟨A,h,s1,B,C⟩:=Km h hi;obtain⟨q,f,h,s2,D,F,y⟩:=ZEe h B;refine⟨q,f,h,s1.trans s2,D,F,λo c i=> ?_⟩;obtain⟨d,x,v⟩:=y o c i;refine⟨d,x,?_⟩;by_cases u:o=p.1
      . subst u;rw[e]at i;cases i;rcases v with⟨e3,e4⟩|⟨a,e3,e4⟩
        . exact .inr ⟨p,by simp,rfl,.inr ⟨rfl,e3,s2 _ _ C⟩⟩
        . exact .inr ⟨a,by simp[e3],e4⟩
      . rcases v with⟨e3,e4⟩|⟨a,e3,e4⟩
        . exact .inl ⟨e3,λa n=>(Ta.1 n).elim (λe5=>by subst e5;exact λq=>u q.symm) (e4 a)⟩
        . exact .inr ⟨a,by simp[e3],e4⟩
    . cases h
def DaR (s:PS)(js:List Nat)(c d:CV):Prop:=(∃j t m,c=.row j/\(ZG s.r j=some (.pub t m)\/(j∈js/\∃E,ZG s.r j=some (.own t E m)))/\d=.sl t m)\/(∃j E m,c=.row j/\j∈js/\ZG s.r j=some (.mrk E m)/\d=.sl .w8 m)\/(∃t m,c=.cl t m/\d=.sl t m)\/(d=c/\c≠.unk/\∀j,c≠.row j)
theorem ZJZ{s:PS}:∀{l:List CV} {k:List CV->List Nat->Option β},ZKf s l k=some r->
    ∃q js,k q js=some r/\q.length=l.length/\∀(o:Nat) (c:CV),l[o]? =some c->∃d,q[o]? =some d/\DaR s js c d
  |[],k,h=>⟨[],[],h,rfl,λo c e=>by simp at e⟩
  | c ::l,k,h=>by
    have step:∀{d:CV} {js0:List Nat} {n:List CV->List Nat->Option β},ZKf s l n=some r->(∀q js,n q js=k (d::q) (js0++js))->(∀js,DaR s (js0++js) c d)->
        ∃q js,k q js=some r/\q.length=(c::l).length/\∀(o:Nat) (g:CV),(c::l)[o]? =some g->∃d,q[o]? =some d/\DaR s js g d:=by
      intro d js0 n h w x;obtain⟨q,js,h,y,z⟩:=ZJZ h;refine⟨d::q,js0++js,by rw[<-w];exact h,by simp[y],λo g e=> ?_⟩;cases o with
      |zero=>simp at e;subst e;exact⟨d,rfl,x js⟩
      | succ o=>
        obtain⟨A,h1,h2⟩:=z o g (by simpa using e);refine⟨A,by simpa using h1,?_⟩;rcases h2 with⟨j,t,m,p,u,v⟩|⟨j,E,m,p,u,v⟩|f
        . exact .inl ⟨j,t,m,p,u.imp id fun⟨a,b⟩=>⟨by simp[a],b⟩,v⟩
        . exact .inr (.inl ⟨j,E,m,p,by simp[u],v⟩)
        . exact .inr (.inr f)
    have i:(∀j,c≠.row j)->c≠.unk->ZKf s l (λr js=>k (c::r) js)=some r->∃q js,k q js=some r/\q.length=(c::l).length/\∀(o:Nat) (g:CV),(c::l)[o]? =some g->∃d,q[o]? =some d/\DaR s js g d:=
      λh1 h2 h=>step (d:=c) (js0:=[]) h (λ_ _=>rfl) (λjs=>.inr (.inr (.inr ⟨rfl,h2,h1⟩)))
    cases c with
    | row j=>
      have h:(match ZG s.r j with|some (.pub t m)=>ZKf s l λr js=>k (.sl t m::r) js|some (.own t _ m)=>ZKf s l λr js=>k (.sl t m::r) (j::js)|some (.mrk _ m)=>ZKf s l λr js=>k (.sl .w8 m::r) (j::js)|_=>none)=some r:=h;split at h
      . rename_i t m e;exact step (d:=.sl t m) (js0:=[]) h (λ_ _=>rfl) (λjs=>.inl ⟨j,t,m,rfl,.inl e,rfl⟩)
      . rename_i t E m e;exact step (d:=.sl t m) (js0:=[j]) h (λ_ _=>rfl) (λjs=>.inl ⟨j,t,m,rfl,.inr ⟨by simp,E,e⟩,rfl⟩)
      . rename_i E m e;exact step (d:=.sl .w8 m) (js0:=[j]) h (λ_ _=>rfl) (λjs=>.inr (.inl ⟨j,E,m,rfl,by simp,e,rfl⟩))
      . cases h
    |cl t m=>exact step (d:=.sl t m) (js0:=[]) (show ZKf s l (λr js=>k (.sl t m::r) js)=some r from h) (λ_ _=>rfl) (λjs=>.inr (.inr (.inl ⟨t,m,rfl,rfl⟩)))
    |unk=>cases h
    |_=>exact i (by simp) (by simp) h
theorem InstW_some{g:Nat->Nat}:∀{w:List (Nat×Nat×Nat)} {l z:List CV} {s:List (Nat×RC)},InstW g w l z s->
    z.length=l.length/\(∀(o:Nat) (c:CV),l[o]? =some c->∃e,z[o]? =some e/\((e=c/\∀p∈w,p.1≠o)\/∃p∈w,p.1=o/\(∀a∈w,a.1=o->a=p)/\∃t m,c=.sl t m/\e=.row (g p.2.1)))/\
      (∀e∈s,∃p∈w,(∀a∈w,a.1=p.1->a=p)/\∃t m,l[p.1]? =some (.sl t m)/\e=(g p.2.1,.own t p.2.2 m))/\(∀p∈w,∃t m,l[p.1]? =some (.sl t m))
  | [],l,z,s,h=>by
    obtain⟨rfl,rfl⟩:=h;exact⟨rfl,λo c e=>⟨c,e,.inl ⟨rfl,by simp⟩⟩,λe F=>by simp at F,by simp⟩
  | p ::w,l,z,s,h=>by
    obtain⟨t,m,G,e,h,rfl⟩:=h;have f:=(TD.1 e).1;obtain⟨h1,h2,h3,E⟩:=InstW_some h;have v:∀a∈w,a.1≠p.1:=λa b q=>by
      obtain⟨x,m',j⟩:=E a b;rw[q,Ui f,TG rfl]at j;cases j
    have u:∀a∈p::w,a.1=p.1->a=p:=λa b q=>(Ta.1 b).elim id λk=>absurd q (v a k);refine⟨by rw[h1,ZLI f],λo c A=> ?_,λq n=> ?_,λa b=> ?_⟩
    . by_cases y:o=p.1
      . subst y;rw[e]at A;cases A;obtain⟨d,B,C⟩:=h2 p.1 (.row (g p.2.1)) (by rw[Ui f,TG rfl]);refine⟨d,B,.inr ⟨p,by simp,rfl,u,t,m,rfl,?_⟩⟩;rcases C with⟨rfl,_⟩|⟨a,b,e3,_⟩
        . rfl
        . exact absurd e3 (v a b)
      . obtain⟨d,B,C⟩:=h2 o c (by rw[Ui f,TM y];exact A);refine⟨d,B,?_⟩;rcases C with⟨e3,e4⟩|⟨a,e3,e4,e5,e6⟩
        . exact .inl ⟨e3,λa b=>(Ta.1 b).elim (λe5=>by subst e5;exact λq=>y q.symm) (e4 a)⟩
        . exact .inr ⟨a,by simp[e3],e4,λq n i=>(Ta.1 n).elim (λe7=>by subst e7;exact absurd i.symm y) (λk=>e5 q k i),e6⟩
    . rcases Ta.1 n with rfl|n
      . exact⟨p,by simp,u,t,m,e,rfl⟩
      . obtain⟨a,e3,e5,x,m',e4,rfl⟩:=h3 q n;have r:a.1≠p.1:=v a e3;rw[Ui f,TM r]at e4;exact⟨a,by simp[e3],λH D i=>(Ta.1 D).elim (λe7=>by subst e7;exact absurd i.symm r) (λk=>e5 H k i),x,m',e4,rfl⟩
    . rcases Ta.1 b with rfl|b
      . exact⟨t,m,e⟩
      . obtain⟨x,m',j⟩:=E a b;rw[Ui f,TM (v a b)]at j;exact⟨x,m',j⟩
theorem ZS5{c d:CV}{I J:In}{v:Value}(h:eqCV c d=true)(a:VR I c v):VR J d v:=by
 unfold eqCV at h;split at h
 . rw[<-TC h];simp only[VR]at a|-;exact a
 . rw[<-eq_of_beq h];simp only[VR]at a|-;exact a
 . rw[<-TC h];simp only[VR]at a|-;exact a
 . rw[<-TC h];simp only[VR]at a|-;exact a
 . rw[<-TC h];simp only[VR]at a|-;exact a
 . simp only[VR]at a|-;exact a
 . simp only[VR]at a|-;exact a
 . simp only[VR]at a|-;exact a
 . rw[<-TB h];simp only[VR]at a|-;exact a
 . cases h
end
section
variable{β:Type}{r:β}{s:PS}
theorem Wf_of{ρ:Rho}{I:In}{seg:Nat->Own}{i:Nat}{a:Option Nat}(h:ZG ρ i=some a):Wf ρ I seg i=some (nuO I a,sgO seg a):=by unfold Wf;rw[h];rfl
theorem VR_row{I:In}{j:Nat}{v:Value}(h:VR I (.row j) v):j<I.n/\v=(I.ν j).2/\∃a n c,v=.slice a n c:=by simpa only[VR]using h
theorem dHead{y:Ty}{w:List (Nat×Nat×Nat)}{l q T:List CV}{x:den y}{C:Rho}{js:List Nat}(U:q.length=l.length)(hq:∀(o:Nat) (c:CV),l[o]? =some c->∃d,q[o]? =some d/\OwR s C w o c d)
 (V:T.length=q.length)(W:∀(o:Nat) (c:CV),q[o]? =some c->∃d,T[o]? =some d/\DaR s js c d)(hx:CRs T (spC y x))
 {JS:List Nat}{I:In}{seg:Nat->Own}{n:Rho}{vs:List Value}(X:Rw s JS I seg)(N:∀j∈js,j∈JS)(hs:SubR C n)(hd:∀i a,ZG n i=some (some a)->a∉JS)(hv:VUs I l vs)
 {g:Nat->Nat}{J:In}(Y:Cp J I.H g (Wf n I seg)){z:List CV}{rs:List (Nat×RC)}(hi:InstW g w (spC y x) z rs):VRs J z vs/\RowsOk I.H g (Wf n I seg) rs:=by
 obtain⟨h1,h2,h3,h4⟩:=InstW_some hi;have A:(spC y x).length=l.length:=by rw[<-hx.length,V,U]
 -- what a cell is
 have O:∀(o:Nat) (d:CV),(spC y x)[o]? =some d->∃c D F,l[o]? =some c/\OwR s C w o c D/\DaR s js D F/\CR F d:=λo d e=>by
  have h:=(TD.1 e).1;rw[A]at h;obtain⟨D,e1,r1⟩:=hq o _ (TO h);obtain⟨F,e2,r2⟩:=W o D e1;obtain⟨d',e3,r3⟩:=hx.get e2;rw[e]at e3;cases e3;exact⟨_,D,F,TO h,r1,r2,r3⟩
 refine⟨P0 (by rw[h1,A];exact hv.length) λo c' v ez ev=> ?_,λp P=> ?_⟩
 . have h :o<(spC y x).length:=(by rw[<-h1];exact(TD.1 ez).1);obtain⟨c,D,F,f1,Z,Q,R⟩:=O o _ (TO h);obtain⟨e,e1,e2⟩:=h2 o _ (TO h);rw[ez]at e1;cases e1;obtain⟨c0,g1,L⟩:=hv.get ev;rw[f1]at g1;cases g1;rcases Z with⟨rfl,G⟩|⟨p,P,r,G⟩
   . rcases e2 with⟨rfl,_⟩|⟨S,u,B,_⟩
     . have hvd:VR I F v:=by
        rcases Q with⟨j,t,m,rfl,M,rfl⟩|⟨j,E,m,rfl,M,f,rfl⟩|⟨t,m,rfl,rfl⟩|⟨rfl,f,_⟩
        . rcases L with k|k
          . cases k
          . simp only[VR];rw[(VR_row k).2.1];exact X.pub j t m (M.imp id fun⟨a,b⟩=>⟨N _ a,b⟩)
        . rcases L with k|k
          . cases k
          . simp only[VR];rw[(VR_row k).2.1];exact X.mr j E m f (N _ M)
        . have k:=L.resolve_left (by simp);simp only[VR]at k|-;exact k.1
        . exact L.resolve_left f
       exact VR.dc Y.H.symm (ZUV y x _ (Sv h)) (R.le _ _ hvd)
     . exact absurd B (G S u)
   . rcases e2 with⟨_,e3⟩|⟨S,u,B,K,t',m',e3,rfl⟩
     . exact absurd r (e3 p P)
     . have hpp:=K p P r;subst hpp;rcases G with⟨j,t,m,rfl,M,rfl,f⟩|⟨rfl,rfl,f⟩
       . have k:=VR_row (L.resolve_left (by simp));have hb:=Y.b _ _ (Wf_of (hs _ _ f));simp only[VR];exact⟨hb.1,by rw[hb.2];exact k.2.1,k.2.2⟩
       . have k:=L.resolve_left (by simp);simp only[VR]at k;subst k;have hb:=Y.b _ _ (Wf_of (hs _ _ f));simp only[VR];exact⟨hb.1,by rw[hb.2];rfl,_,_,_,rfl⟩
 . obtain⟨S,u,K,t,m,e1,rfl⟩:=h3 p P;obtain⟨c,D,F,f1,Z,Q,R⟩:=O _ _ e1;rcases Z with⟨_,G⟩|⟨p2,hp2,r,G⟩
   . exact absurd rfl (G S u)
   . cases K p2 hp2 r;rcases G with⟨j,t',m',rfl,M,rfl,f⟩|⟨rfl,rfl,f⟩
     . rcases Q with⟨j',_,_,e,_⟩|⟨j',_,_,e,_⟩|⟨_,_,e,_⟩|⟨rfl,_,_⟩
       . cases e
       . cases e
       . cases e
       . have:=R.sl t' m' rfl;cases this;refine⟨_,_,Wf_of (hs _ _ f),rfl,?_,_,_,_,rfl⟩;exact X.own j _ _ _ M (hd _ _ (hs _ _ f))
     . rcases Q with⟨j',_,_,e,_⟩|⟨j',_,_,e,_⟩|⟨_,_,e,_⟩|⟨rfl,_,_⟩
       . cases e
       . cases e
       . cases e
       . obtain⟨t2,e2⟩:=R.nil rfl;cases e2;exact⟨_,_,Wf_of (hs _ _ f),rfl,RowOf.nil _ _ _ _ _,_,_,_,rfl⟩
theorem VUs.cons_inv{I:In}{c:CV}{cs:List CV}{vs:List Value}(h:VUs I (c::cs) vs):∃v us,vs=v::us/\(c=.unk\/VR I c v)/\VUs I cs us:=h
theorem Cnt.tail{J:In}{c:Nat}{j:Nat}{l:List Nat}(h:Cnt J c (j::l)):Cnt J (c+1) l:=λm i e=>by
 have:=h (m+1) i (by simpa using e);rwa[show c+(m+1)=c+1+m by omega]at this
theorem Cnt.app{J:In}{c:Nat}{a b:List Nat}(h:Cnt J c (a++b)):Cnt J c a/\Cnt J (c+a.length) b:=⟨λm i e=>h m i (by rw[ST (TD.1 e).1];exact e),λm i e=>by
 have:=h (a.length+m) i (by rw[Sh (by omega)];simpa using e);rwa[<-Sy]at this⟩
abbrev MtE (s:PS)(ps:List Pt)(cs:List CV)(ρ:Rho)(k:Mk β)(r:β):Prop:=∃hs a js,k hs a js=some r/\SubR ρ a/\InjR a/\Mt s ps cs a hs js
theorem QE:∀{ps:List Pt} {cs:List CV} {ρ:Rho} {k:Mk β},mtL s ps cs ρ k=some r->InjR ρ->MtE s ps cs ρ k r
  | [],cs,ρ,k,h,hi=>by
    cases cs with
    |cons=>cases h
    | nil=>
      refine⟨[],ρ,[],h,Pe _,hi,λJS I seg A vs M D hs N B g J c t cs C c' rs K hn u=> ?_⟩;cases B;cases u;exact⟨rfl,rfl,VRs.nil,λp hp=>by cases hp⟩
  | p ::ps,cs,ρ,k,h,hi=>by
    by_cases hb:∃y i E,p=.bor y i E
    . obtain ⟨y,i,E,rfl⟩:=hb;have h:mtR s y i E ρ (λm=>mtL s ps cs ρ λhs ρ js=>k (.d (.sl y) m::hs) ρ js)=some r:=h;unfold mtR at h;split at h
      . rename_i a ea;split at h
        . rename_i t E' m er;obtain⟨hE,h3⟩:=ZA h;clear h;have hE:=TB hE;subst hE;obtain⟨e,h4⟩:=Zl h3;clear h3;cases e;obtain⟨hs,P,Q,h,s2,R,T⟩:=QE h4 hi;refine⟨_,_,_,h,s2,R,λJS I seg A vs M D C N B g J c0 t S G c' rs K F u=> ?_⟩;cases u with
          | bor u=>
            obtain⟨U,V,O,W⟩:=T JS I seg A vs M D C N B g J _ t _ _ _ _ K F u;refine⟨U,V,O,λp hp=> ?_⟩;rcases Ta.1 hp with rfl|hp
            . have k2:=C _ _ (s2 _ _ ea);exact⟨_,_,Wf_of k2,rfl,M.own a _ _ _ er (N _ _ k2),_,_,_,rfl⟩
            . exact W p hp
        . cases h
      . cases h
    replace h:(List.rec none (λc cs _=>mtP s p c cs ρ (mtL s ps) k) cs:Option β)=some r:=by
      cases p<;>first|exact h|exact absurd ⟨_,_,_,rfl⟩ hb
    clear hb;cases cs with
    |nil=>cases h
    | cons c cs=>
      change mtP s p c cs ρ (mtL s ps) k=some r at h;unfold mtP at h;split at h
      . -- data
        rename_i y w;replace h:=show bb (Nat.ble (szY y) (c::cs).length) (ZQy s w ((c::cs).take (szY y)) ρ λq ρ=>ZKf s q λq js=>oT y q λx=>mtL s ps ((c::cs).drop (szY y)) ρ λhs ρ js'=>k (.d y x::hs) ρ (js++js')) none=some r from h;obtain⟨hn,h⟩:=ZA h;have hn:=TN hn;obtain⟨q,ρ1,h,s1,i1,hl1,hq⟩:=ZEe h hi;obtain⟨q2,js,h,hl2,hq2⟩:=ZJZ h;obtain⟨x,h,hx⟩:=Je h;obtain⟨hs,P,Q,h,s2,R,T⟩:=QE h i1;refine⟨_,_,_,h,s1.trans s2,R,λJS I seg A vs M D C N B g J c0 t S G c' rs K F u=> ?_⟩;rw[<-RP (szY y) (c::cs)]at B;obtain⟨us,ws,rfl,_,Y,X⟩:=B.split;cases u with
        | d hw u=>
          obtain⟨U,V,O,W⟩:=T JS I seg A ws M (λj hj=>D j (by simp[hj])) C N X g J c0 t _ _ _ _ K F u;obtain⟨b1,b2⟩:=dHead hl1 hq hl2 hq2 hx M (λj hj=>D j (by simp[hj])) (s2.trans C) N Y K hw;exact⟨U,V,VRs.append b1 O,b2.app W⟩
      . -- counter
        have hc0:c≠.unk:=λe=>(by subst e;cases h);have Z:∀j,mtL s ps cs ρ (λhs ρ js=>k (.n j::hs) ρ js)=some r->(∀(I:In) v,VR I c v->v=.int .i64 (j:Int))->MtE s (.n::ps) (c::cs) ρ k r:=λj h hj=>by
          obtain⟨hs,P,Q,h,s2,R,T⟩:=QE h hi;refine⟨_,_,_,h,s2,R,λJS I seg A vs M D C N B g J c0 t S G c' rs K F u=> ?_⟩;obtain⟨v,us,rfl,Y,X⟩:=B.cons_inv;cases u with
          | n u=>
            have hn2:Cnt J c0 (j::cnt hs):=F;obtain⟨U,V,O,W⟩:=T JS I seg A us M D C N X g J _ t _ _ _ _ K hn2.tail u;refine⟨U,by rw[V];show c0+1+_=c0+((cnt hs).length+1);omega,VRs.cons ?_ O,W⟩;have:=hn2 0 j rfl;simp only[VR];exact⟨this.1,this.2,hj I v (Y.resolve_left hc0)⟩
        unfold oNat at h;split at h
        . exact Z _ h (λI v B=>by simp only[VR]at B;exact B.2.2)
        . rename_i n;cases n with
          |ofNat j=>exact Z j h (λI v B=>by simp only[VR]at B;exact B)
          |negSucc j=>cases h
        . cases h
      . -- a row that is told elsewhere
        rename_i i;have Z:∀a,JH ρ i a (λρ=>mtL s ps cs ρ k)=some r->(∀(I:In) v,VR I c v->v=(nuO I a).2/\∃a n c,v=.slice a n c)->c≠.unk->MtE s (.rr i::ps) (c::cs) ρ k r:=λa h hj hc0=>by
          obtain⟨ρ1,h,s1,i1,b1⟩:=Km h hi;obtain⟨hs,P,Q,h,s2,R,T⟩:=QE h i1;refine⟨_,_,_,h,s1.trans s2,R,λJS I seg A vs M D C N B g J c0 t S G c' rs K F u=> ?_⟩;obtain⟨v,us,rfl,Y,X⟩:=B.cons_inv;cases u with
          | rr u=>
            obtain⟨U,V,O,W⟩:=T JS I seg A us M D C N X g J _ t _ _ _ _ K F u;refine⟨U,V,VRs.cons ?_ O,W⟩;have hb:=K.b _ _ (Wf_of (C _ _ (s2 _ _ b1)));have B:=hj I v (Y.resolve_left hc0);simp only[VR];exact⟨hb.1,by rw[hb.2];exact B.1,B.2⟩
        split at h
        . exact Z _ h (λI v B=>(VR_row B).2) (by simp)
        . exact Z _ h (λI v B=>by simp only[VR]at B;subst B;exact⟨rfl,_,_,_,rfl⟩) (by simp)
        . cases h
      . -- a pointer
        rename_i i o;split at h
        . rename_i a o';obtain⟨L,h⟩:=ZA h;have L:=TB L;obtain⟨ρ1,h,s1,i1,b1⟩:=Km h hi;obtain⟨hs,P,Q,h,s2,R,T⟩:=QE h i1;refine⟨_,_,_,h,s1.trans s2,R,λJS I seg A vs M D C N B g J c0 t S G c' rs K F u=> ?_⟩;obtain⟨v,us,rfl,Y,X⟩:=B.cons_inv;cases u with
          | ptr u=>
            obtain⟨U,V,O,W⟩:=T JS I seg A us M D C N X g J _ t _ _ _ _ K F u;refine⟨U,V,VRs.cons ?_ O,W⟩;have hb:=K.b _ _ (Wf_of (C _ _ (s2 _ _ b1)));have B:=Y.resolve_left (by simp);simp only[VR]at B|-;exact⟨hb.1,by rw[hb.2,L];exact B.2⟩
        . cases h
      . -- a pointer to a datum
        rename_i y o;split at h
        . rename_i z x o';obtain⟨L,h6⟩:=ZA h;clear h;have L:=TB L;obtain⟨e,h7⟩:=Zl h6;subst e;obtain⟨hs,P,Q,h,s2,R,T⟩:=QE h7 hi;refine⟨_,_,_,h,s2,R,λJS I seg A vs M D C N B g J c0 t S G c' rs K F u=> ?_⟩;obtain⟨v,us,rfl,Y,X⟩:=B.cons_inv;cases u with
          | el u=>
            obtain⟨U,V,O,W⟩:=T JS I seg A us M D C N X g J _ t _ _ _ _ K F u;refine⟨U,V,VRs.cons ?_ O,W⟩;have B:=Y.resolve_left (by simp);simp only[VR]at B|-;obtain⟨b,q,cs,e1,e2,e3,e4⟩:=B;exact⟨b,q,cs,by rw[L];exact e1,e2,by rw[K.H];exact e3,by rw[K.H];exact e4⟩
        . cases h
      . -- a pointer to a datum,or none
        rename_i y;have Z:∀x,mtL s ps cs ρ (λhs ρ js=>k (.o y x::hs) ρ js)=some r->c≠.unk->(∀(I:In) v,VR I c v->VR I (.oel y x) v)->MtE s (.oel y::ps) (c::cs) ρ k r:=λx h hc0 hj=>by
          obtain⟨hs,P,Q,h,s2,R,T⟩:=QE h hi;refine⟨_,_,_,h,s2,R,λJS I seg A vs M D C N B g J c0 t S G c' rs K F u=> ?_⟩;obtain⟨v,us,rfl,Y,X⟩:=B.cons_inv;cases u with
          | oel u=>
            obtain⟨U,V,O,W⟩:=T JS I seg A us M D C N X g J _ t _ _ _ _ K F u;refine⟨U,V,VRs.cons ?_ O,W⟩;have B:=hj I v (Y.resolve_left hc0);simp only[VR]at B|-;refine B.imp id fun⟨z,e,b,q,cs,e1,e2,e3,e4⟩=>⟨z,e,b,q,cs,e1,e2,by rw[K.H];exact e3,by rw[K.H];exact e4⟩
        split at h
        . rename_i z x o';obtain⟨L,h6⟩:=ZA h;clear h;have L:=TB L;obtain⟨e,h7⟩:=Zl h6;subst e;subst L;exact Z _ h7 (by simp) (λI v B=>by simp only[VR]at B|-;exact .inr ⟨_,rfl,B⟩)
        . exact Z _ h (by simp) (λI v B=>by simp only[VR]at B;simp only[VR,B,Rd];exact .inl trivial)
        . obtain⟨e,h7⟩:=Br h;subst e;exact Z _ h7 (by simp) (λI v B=>B)
        . cases h
      . -- a pointer into a row
        rename_i y i o;split at h
        . rename_i z a gg o';obtain⟨L,h⟩:=ZA h;simp only[TE]at L;have ho1:=Vz L.1;have ho2:=TB L.2;obtain⟨ρ1,h,s1,i1,b1⟩:=Km h hi;obtain⟨hs,P,Q,h,s2,R,T⟩:=QE h i1;refine⟨_,_,_,h,s1.trans s2,R,λJS I seg A vs M D C N B g J c0 t S G c' rs K F u=> ?_⟩;obtain⟨v,us,rfl,Y,X⟩:=B.cons_inv;cases u with
          | rel u=>
            obtain⟨U,V,O,W⟩:=T JS I seg A us M D C N X g J _ t _ _ _ _ K F u;refine⟨U,V,VRs.cons ?_ O,W⟩;have hb:=K.b _ _ (Wf_of (C _ _ (s2 _ _ b1)));have B:=Y.resolve_left (by simp);simp only[VR]at B|-;obtain⟨_,b,q,e1,e2⟩:=B;exact⟨hb.1,b,q,by rw[hb.2,<-ho1];exact e1,by rw[ho2];exact e2⟩
        . cases h
      . -- a pointer into a row,or none
        rename_i y i;have Z:∀a x,JH ρ i (some a) (λρ=>mtL s ps cs ρ λhs ρ js=>k (.o .i x::hs) ρ js)=some r->c≠.unk->(∀(I:In) v,VR I c v->VR I (.orel y a x) v)->MtE s (.orel y i::ps) (c::cs) ρ k r:=λa x h hc0 hj=>by
          obtain⟨ρ1,h,s1,i1,b1⟩:=Km h hi;obtain⟨hs,P,Q,h,s2,R,T⟩:=QE h i1;refine⟨_,_,_,h,s1.trans s2,R,λJS I seg A vs M D C N B g J c0 t S G c' rs K F u=> ?_⟩;obtain⟨v,us,rfl,Y,X⟩:=B.cons_inv;cases u with
          | orel u=>
            obtain⟨U,V,O,W⟩:=T JS I seg A us M D C N X g J _ t _ _ _ _ K F u;refine⟨U,V,VRs.cons ?_ O,W⟩;have hb:=K.b _ _ (Wf_of (C _ _ (s2 _ _ b1)));have B:=hj I v (Y.resolve_left hc0);simp only[VR]at B|-;refine B.imp id fun⟨z,e,_,b,q,e1,e2⟩=>⟨z,e,hb.1,b,q,by rw[hb.2];exact e1,e2⟩
        split at h
        . rename_i z a gg o';obtain⟨L,h7⟩:=ZA h;clear h;simp only[TE]at L;have ho1:=Vz L.1;have ho2:=TB L.2;subst ho1;exact Z a _ h7 (by simp) (λI v B=>by simp only[VR]at B|-;rw[ho2]at B;exact .inr ⟨_,rfl,B⟩)
        . obtain⟨hs,P,Q,h,s2,R,T⟩:=QE h hi;refine⟨_,_,_,h,s2,R,λJS I seg A vs M D C N B g J c0 t S G c' rs K F u=> ?_⟩;obtain⟨v,us,rfl,Y,X⟩:=B.cons_inv;cases u with
          | orel u=>
            obtain⟨U,V,O,W⟩:=T JS I seg A us M D C N X g J _ t _ _ _ _ K F u;refine⟨U,V,VRs.cons ?_ O,W⟩;have B:=Y.resolve_left (by simp);simp only[VR]at B;simp only[VR,B,Rd];exact .inl trivial
        . rename_i z a gg;obtain⟨L,h7⟩:=ZA h;clear h;have ho1:=Vz L;subst ho1;exact Z a _ h7 (by simp) (λI v B=>B)
        . cases h
      . -- a clipped list
        rename_i y;split at h
        . rename_i z x;obtain⟨e,h7⟩:=Zl h;cases e;obtain⟨hs,P,Q,h,s2,R,T⟩:=QE h7 hi;refine⟨_,_,_,h,s2,R,λJS I seg A vs M D C N B g J c0 t S G c' rs K F u=> ?_⟩;obtain⟨v,us,rfl,Y,X⟩:=B.cons_inv;cases u with
          | cl u=>
            obtain⟨U,V,O,W⟩:=T JS I seg A us M D C N X g J _ t _ _ _ _ K F u;refine⟨U,V,VRs.cons ?_ O,W⟩;have B:=Y.resolve_left (by simp);simp only[VR]at B|-;exact⟨by rw[K.H];exact B.1,B.2⟩
        . cases h
      . -- a part of a row
        rename_i y i;split at h
        . rename_i z a gg;obtain⟨L,h⟩:=ZA h;have ho1:=Vz L;obtain⟨ρ1,h,s1,i1,b1⟩:=Km h hi;obtain⟨hs,P,Q,h,s2,R,T⟩:=QE h i1;refine⟨_,_,_,h,s1.trans s2,R,λJS I seg A vs M D C N B g J c0 t S G c' rs K F u=> ?_⟩;obtain⟨v,us,rfl,Y,X⟩:=B.cons_inv;cases u with
          | rv u=>
            obtain⟨U,V,O,W⟩:=T JS I seg A us M D C N X g J _ t _ _ _ _ K F u;refine⟨U,V,VRs.cons ?_ O,W⟩;have hb:=K.b _ _ (Wf_of (C _ _ (s2 _ _ b1)));have B:=Y.resolve_left (by simp);simp only[VR]at B|-;obtain⟨_,n,e1,e2⟩:=B;exact⟨hb.1,n,by rw[hb.2,<-ho1];exact e1,by rw[hb.2];exact e2⟩
        . cases h
      . -- an aggregate
        rename_i n;split at h
        . rename_i l;obtain⟨L,h⟩:=ZA h;have L:=TB L;obtain⟨hs,P,Q,h,s2,R,T⟩:=QE h hi;refine⟨_,_,_,h,s2,R,λJS I seg A vs M D C N B g J c0 t S G c' rs K F u=> ?_⟩;obtain⟨v,us,rfl,Y,X⟩:=B.cons_inv;have hv2:=Y.resolve_left (by simp);simp only[VR]at hv2;clear B;obtain⟨ws,e9,B⟩:=hv2;subst e9;cases u with
          | ag u hle=>
            obtain⟨U,V,O,W⟩:=T JS I seg A (ws++us) M D C N (VUs.append B.vu X) g J _ t _ _ _ _ K F u;have hw:ws.length=n:=(by rw[<-B.length,L]);refine⟨U,V,VRs.cons ?_ (by have:=VRs.drop n O;rwa[<-hw,RX,hw]at this),W⟩;simp only[VR];exact⟨ws,rfl,by have:=VRs.take n O;rwa[<-hw,SH,hw]at this⟩
        . cases h
      . -- a tuple
        rename_i n;split at h
        . rename_i l;obtain⟨L,h⟩:=ZA h;have L:=TB L;obtain⟨hs,P,Q,h,s2,R,T⟩:=QE h hi;refine⟨_,_,_,h,s2,R,λJS I seg A vs M D C N B g J c0 t S G c' rs K F u=> ?_⟩;obtain⟨v,us,rfl,Y,X⟩:=B.cons_inv;have hv2:=Y.resolve_left (by simp);simp only[VR]at hv2;clear B;obtain⟨ws,e9,B⟩:=hv2;subst e9;cases u with
          | tu u hle=>
            obtain⟨U,V,O,W⟩:=T JS I seg A (ws++us) M D C N (VUs.append B.vu X) g J _ t _ _ _ _ K F u;have hw:ws.length=n:=(by rw[<-B.length,L]);refine⟨U,V,VRs.cons ?_ (by have:=VRs.drop n O;rwa[<-hw,RX,hw]at this),W⟩;simp only[VR];exact⟨ws,rfl,by have:=VRs.take n O;rwa[<-hw,SH,hw]at this⟩
        . cases h
      . -- a closure
        rename_i f n m;split at h
        . rename_i f' l l';obtain⟨L,h⟩:=ZA h;simp only[TE]at L;have ho1:=TB L.1;have ho2:=TB L.2.1;have ho3:=TB L.2.2;obtain⟨hs,P,Q,h,s2,R,T⟩:=QE h hi;refine⟨_,_,_,h,s2,R,λJS I seg A vs M D C N B g J c0 t S G c' rs K F u=> ?_⟩;obtain⟨v,us,rfl,Y,X⟩:=B.cons_inv;have hv2:=Y.resolve_left (by simp);simp only[VR]at hv2;clear B;obtain⟨w1,w2,e9,k1,k2⟩:=hv2;subst e9;cases u with
          | clo u hle=>
            obtain⟨U,V,O,W⟩:=T JS I seg A (w1++(w2++us)) M D C N (VUs.append k1.vu (VUs.append k2.vu X)) g J _ t _ _ _ _ K F u;have hw1:w1.length=n:=(by rw[<-k1.length,ho2]);have hw2:w2.length=m:=(by rw[<-k2.length,ho3]);have d0:=VRs.take n O;have d1:=VRs.drop n O;have e1:(w1++(w2++us)).drop n=w2++us:=(by rw[<-hw1];exact RX);have e0:(w1++(w2++us)).take n=w1:=(by rw[<-hw1];exact SH);rw[e1]at d1;rw[e0]at d0;have d2:=VRs.drop m d1;have d3:=VRs.take m d1;have e2:(w2++us).drop m=us:=(by rw[<-hw2];exact RX);have e3:(w2++us).take m=w2:=(by rw[<-hw2];exact SH);rw[e2,Sz]at d2;rw[e3]at d3;refine⟨U,V,VRs.cons ?_ d2,W⟩;simp only[VR];exact⟨w1,w2,by rw[ho1],d0,d3⟩
        . cases h
      . -- a constant
        rename_i w;obtain⟨L,h⟩:=ZA h;obtain⟨hs,P,Q,h,s2,R,T⟩:=QE h hi;refine⟨_,_,_,h,s2,R,λJS I seg A vs M D C N B g J c0 t S G c' rs K F u=> ?_⟩;obtain⟨v,us,rfl,Y,X⟩:=B.cons_inv;cases u with
        | c u=>
          obtain⟨U,V,O,W⟩:=T JS I seg A us M D C N X g J _ t _ _ _ _ K F u;refine⟨U,V,VRs.cons ?_ O,W⟩;have hc0:c≠.unk:=λe=>by subst e;cases w<;>cases L
          exact ZS5 L (Y.resolve_left hc0)
      . -- whatever
        obtain⟨hs,P,Q,h,s2,R,T⟩:=QE h hi;refine⟨_,_,_,h,s2,R,λJS I seg A vs M D C N B g J c0 t S G c' rs K F u=> ?_⟩;obtain⟨v,us,rfl,Y,X⟩:=B.cons_inv;cases u with
        | x u=>
          obtain⟨U,V,O,W⟩:=T JS I seg A us M D C N X g J _ t _ _ _ _ K F u;exact⟨U,V,VRs.cons (by simp only[VR]) O,W⟩
      . cases h
def BlOk (J:In)(g:Nat->Nat)(W:Wt)(b:List (Nat×List CV)):Prop:=∀p∈b,∃i w cur T,W i=some w/\p.1=g i/\w.2= [(w.1.1,.cells cur T (0,0))]/\VRs J p.2 cur.toList
def TellsB (H:Heaplet)(W:Wt)(bs:List Bp)(i:Nat)(hs:List HV):Prop:=
  ∀ (g:Nat->Nat) (J:In) (c:Nat) (t:List HV) (b:List (Nat×List CV)) (a:Nat) (r:List (Nat×RC)),Cp J H g W->Cnt J c (cnt hs)->InstB g bs i (hs++t) c b a r->
    a=c+(cnt hs).length/\BlOk J g W b/\RowsOk H g W r
def MtB (s:PS)(bs:List Bp)(i:Nat)(c:Rho)(hs:List HV)(js:List Nat):Prop:=
 ∀(JS:List Nat) (I:In) (seg:Nat->Own) (b:Rho),Rw s JS I seg->(∀j∈js,j∈JS)->SubR c b->(∀i a,ZG b i=some (some a)->a∉JS)->TellsB I.H (Wf b I seg) bs i hs
theorem ZHV{a:Nat}:∀{n o:Nat} {k:List CV->Option β},ldU s a n o k=some r->∃l,k l=some r/\l.length=n/\∀(j:Nat) (c:CV),l[j]? =some c->lkO s.o a (o+j)=some c
  |0,o,k,h=>⟨[],h,rfl,λj c e=>by simp at e⟩
  | n+1,o,k,h=>by
    obtain⟨c,e,h⟩:=ZU (show oB (lkO s.o a o) (λc=>ldU s a n (o+1) λr=>k (c::r))=some r from h)
    obtain⟨l,h,b,f⟩:=ZHV h;refine⟨c::l,h,by simp[b],λj d q=> ?_⟩;cases j with
    |zero=>simp at q;subst q;exact e
    |succ j=>have:=f j d (by simpa using q);rwa[show o+1+j=o+(j+1) by omega]at this
theorem Po{I:In}:∀{l:List CV} {vs:List Value},l.length=vs.length->(∀(i:Nat) (c:CV),l[i]? =some c->c=.unk\/∃v,vs[i]? =some v/\VR I c v)->VUs I l vs
 |[],[],h,k=>rfl
 |c::l,v::vs,h,k=>⟨v,vs,rfl,(k 0 c rfl).imp id fun⟨w,e,a⟩=>by simp at e;subst e;exact a,Po (by simpa using h) λi b e=>(k (i+1) b (by simpa using e)).imp id fun⟨w,e,a⟩=>⟨w,by simpa using e,a⟩⟩
 |[],v::vs,h,k=>by cases h
 |c::l,[],h,k=>by cases h
theorem ZNP:∀{bs:List Bp} {i:Nat} {ρ:Rho} {k:Mk β},mtB s bs i ρ k=some r->InjR ρ->∃hs q js,k hs q js=some r/\SubR ρ q/\InjR q/\MtB s bs i q hs js
  |[],i,ρ,k,h,hi=>⟨[],ρ,[],h,Pe _,hi,λJS I seg f w u hs x g J c t G H K y hn b=>by
      cases b;exact⟨rfl,(by intro p v;simp at v),(by intro p v;simp at v)⟩⟩
  | .row::bs,i,ρ,k,h,hi=>by
    obtain⟨hs,q,js,h,s1,C,T⟩:=ZNP (show mtB s bs (i+1) ρ k=some r from h) hi
    refine⟨hs,q,js,h,s1,C,λJS I seg f w u o x g J c t G H K y hn b=> ?_⟩;cases b with
    |row b=>exact T JS I seg f w u o x g J c t _ _ _ y hn b
  | .cells n ps::bs,i,ρ,k,h,hi=>by
    replace h:=show(match ZG ρ i with
      |some (some a)=>oB (ZG s.z a) λm=>bb (Bool.and (Nat.ble 1 n) (Nat.beq m n)) (ldU s a n 0 λl=>mtL s ps l ρ λhs ρ js=>mtB s bs (i+1) ρ λo ρ D=>k (hs++o) ρ (js++D)) none
      |_=>none)=some r from h
    split at h
    . rename_i a L;obtain⟨m,M,h⟩:=ZU h;obtain⟨B,h⟩:=ZA h;simp only[TE]at B;have B:=TB B.2;obtain⟨l,h,N,E⟩:=ZHV h;obtain⟨O,P,Q,h,s1,C,R⟩:=QE h hi;obtain⟨S,U,V,h,s2,W,X⟩:=ZNP h C;refine⟨_,_,_,h,s1.trans s2,W,λJS I seg f w u o x g J c t G H K y hn b=> ?_⟩;rw[Kl]at hn;obtain⟨Y,Z⟩:=hn.app;rw[TI]at b;obtain⟨ha,cur,T,g1,g2,g3⟩:=w.ce a m M;cases b with
      | cells b hcl A=>
        have hv:VUs I l cur.toList:=Po (by rw[N,TR,g2,B]) λj d e=>g3 _ _ (by have:=E j d e;rwa[Tf]at this);obtain⟨a1,a2,a3,a4⟩:=R JS I seg f _ w (λj F=>u j (by simp[F])) (s2.trans o) x hv g J c _ _ _ _ _ y Y b;subst a1 a2;obtain⟨b2,b3,b4⟩:=X JS I seg f w (λj F=>u j (by simp[F])) o x g J _ t _ _ _ y Z A;refine⟨by rw[b2,Kl,TF];omega,λp v=> ?_,a4.app b4⟩;rcases Ta.1 v with rfl|v
        . exact⟨i,_,cur,T,Wf_of (o _ _ (s2 _ _ (s1 _ _ L))),rfl,g1,a3⟩
        . exact b3 p v
    . cases h
def TellsS (H:Heaplet)(W:Wt)(S:Sp)(hs:List HV)(vs:List Value):Prop:=
  ∀ (g:Nat->Nat) (J:In) (c:Nat) (cs:List CV) (h:List HV) (a:Nat) (b:List (Nat×RC)) (d:List (Nat×List CV)) (e:Nat) (r:List (Nat×RC)),Cp J H g W->Cnt J c (cnt hs)->InstL g S.vs hs c cs h a b->InstB g S.bs 0 h a d e r->
    e=c+(cnt hs).length/\VRs J cs vs/\BlOk J g W d/\RowsOk H g W (b++r)
theorem ZCn{S:Sp}{cs:List CV}{ρ:Rho}{k:Mk β}(h:mtS s S cs ρ k=some r)(hi:InjR ρ):∃hs b js,k hs b js=some r/\SubR ρ b/\InjR b/\(∀i a,ZG b i=some (some a)->a∉js/\a<s.n)/\
 ∀(I:In) (seg:Nat->Own) (vs:List Value),Rw s js I seg->VUs I cs vs->TellsS I.H (Wf b I seg) S hs vs:=by
 obtain⟨y,z,l,h,s1,A,T⟩:=QE (show mtL s S.vs cs ρ (λhs ρ js=>mtB s S.bs 0 ρ λf ρ m=>(λjs=>bb (Bool.and (allB (λp=>match p.2 with|some a=>Nat.blt a s.n|none=>true) ρ) (allB (λj=>freeR ρ (some j)) js)) (k (hs++f) ρ js) none) (js++m))=some r from h) hi
 obtain⟨B,d,o,h,s2,C,D⟩:=ZNP h A;obtain⟨q,h⟩:=ZA h;simp only[TE]at q;have t:∀i a,ZG d i=some (some a)->a∉l++o:=λi a e E=>ZC7 (ZW.1 q.2 a E) i e;have u:∀i a,ZG d i=some (some a)->a<s.n:=λi a e=>by
  have:=ZW.1 q.1 _ (UN e);simpa using this
 refine⟨_,_,_,h,s1.trans s2,C,λi a e=>⟨t i a e,u i a e⟩,λI seg vs w F g J c G f Y Z bl c2 K x hn L M=> ?_⟩;rw[Kl]at hn;obtain⟨N,O⟩:=hn.app;obtain⟨P,Q,R,U⟩:=T _ I seg d vs w (λj v=>by simp[v]) s2 t F g J c _ _ _ _ _ x N L;subst P Q;obtain⟨V,W,X⟩:=D _ I seg d w (λj v=>by simp[v]) (Pe _) t g J _ [] _ _ _ x O (by rw[Tt];exact M);exact⟨by rw[V,Kl,TF];omega,R,W,U.app X⟩
end
theorem ZLY{α:Type} [DecidableEq α]:∀{L K:List α},L.Nodup->(∀a∈L,a∈K)->∃R,K.Perm (L++R)
  |[],K,_,_=>⟨K,S7 _⟩
  | a::L,K,hn,hs=>by
    have h:=hs a (by simp);have hn:=SY.1 hn;obtain⟨R,c⟩:=ZLY (L:=L) (K:=K.erase a) hn.2 (λb hb=>(List.mem_erase_of_ne (λe=>hn.1 (by rw[<-e];exact hb))).2 (hs b (by simp[hb])));exact⟨R,(List.perm_cons_erase h).trans (c.cons a)⟩
theorem ZA6{g:Nat->Own}{K:List Nat}{N:Nat}{seg:Nat->Own}(τ:Nat->Option Nat)(c:∀a b i,a<N->b<N->τ a=some i->τ b=some i->a=b)(d:∀a i,a<N->τ a=some i->i∈K)
    (f:∀a,a<N->seg a=(match τ a with|some i=>g i|none=> [])):∃R,K.Perm ((List.range N).filterMap τ++R)/\(K.map g).flatten.Perm ((((List.range N).map seg).flatten)++(R.map g).flatten):=by
  have hn :((List.range N).filterMap τ).Nodup:=by
    have m:∀(l:List Nat),l.Nodup->(∀a∈l,a<N)->(l.filterMap τ).Nodup:=λl=>by
      induction l with
      |nil=>intro _ _;simp
      | cons a l j=>
        intro h1 h2;have h1:=SY.1 h1;rw[List.filterMap_cons];split
        . exact j h1.2 λb hb=>h2 b (by simp[hb])
        . rename_i i e;refine SY.2 ⟨λp=> ?_,j h1.2 λb hb=>h2 b (by simp[hb])⟩;obtain⟨b,hb,n⟩:=List.mem_filterMap.1 p;exact h1.1 (c a b i (h2 a (by simp)) (h2 b (by simp[hb])) e n▸hb)
    exact m _ List.nodup_range (λa k=>SE.1 k)
  obtain⟨R,o⟩:=ZLY (K:=K) hn (λi hi=>by
    obtain⟨a,k,e⟩:=List.mem_filterMap.1 hi;exact d a i (SE.1 k) e)
  refine⟨R,o,?_⟩;have h1:=(o.map g).flatten;rw[Su,Ti]at h1;have h2:∀(l:List Nat),(∀a∈l,a<N)->((l.filterMap τ).map g).flatten=(l.map seg).flatten:=λl=>by
    induction l with
    |nil=>intro _;rfl
    | cons a l j=>
      intro h;have h3:=f a (h a (by simp));rw[List.filterMap_cons,Tq,Td,h3];split
      . rename_i e;simp only[e,S2];exact j λb hb=>h b (by simp[hb])
      . rename_i i e;simp only[e,Tq,Td];rw[j λb hb=>h b (by simp[hb])]
  rw[h2 _ (λa k=>SE.1 k)]at h1;exact h1
section
variable{x:Cx}{l:Slots}{H:Heaplet}{own own':List Own}
theorem ZJR{a:Act}{w:World}{R:Own}(h:Holds x l own H a w)(b:own.flatten.Perm (own'.flatten++R)):Holds x l own' H a w:=by
 have h1:Holds x l (own'++ [R]) H a w:=hperm h (by rw[Ti];simpa using b);exact hsubl h1 (by rw[Ti];exact S1 _ _)
end
noncomputable def entB:List (Nat×List CV)->List ((Nat×Nat)×CV)->List ((Nat×Nat)×CV)
 |[],o=>o
 |p::b,o=>entB b (entA p.1 p.2 0 o)
def zB (N:Nat):List (Nat×List CV)->List (Nat×Nat)->List (Nat×Nat)
 |[],z=>z
 |p::b,z=>zB N b (match Nat.ble N p.1 with|true=>(p.1,p.2.length)::z|false=>z)
theorem ZKq{β:Type}(N:Nat):∀(b:List (Nat×List CV)) (o:List ((Nat×Nat)×CV)) (z:List (Nat×Nat)) (k:List ((Nat×Nat)×CV)->List (Nat×Nat)->Option β),ZRy N b o z k=k (entB b o) (zB N b z)
  |[],o,z,k=>rfl
  | p::b,o,z,k=>by
    show ZIQ p.1 p.2 0 o (λo=>Bool.rec (ZRy N b o z k) (ZRy N b o ((p.1,p.2.length)::z) k) (Nat.ble N p.1))=_;rw[B9];cases h:Nat.ble N p.1 with
    |true=>simp only[entB,zB,h];exact ZKq N b _ _ k
    |false=>simp only[entB,zB,h];exact ZKq N b _ _ k
theorem ZH1:∀(b:List (Nat×List CV)) (o:List ((Nat×Nat)×CV)),∃m,entB b o=m++o
  |[],o=>⟨[],rfl⟩
  | p::b,o=>by
    obtain⟨m,e⟩:=ZH1 b (entA p.1 p.2 0 o);obtain⟨n,e2⟩:=Wl p.1 p.2 0 o;exact⟨m++n,by rw[entB,e,e2];simp⟩
theorem ZGl:∀{b:List (Nat×List CV)} {o:List ((Nat×Nat)×CV)} {a j:Nat} {c:CV},lkO (entB b o) a j=some c->(∃p∈b,p.1=a/\p.2[j]? =some c)\/((∀p∈b,p.1=a->p.2.length<=j)/\lkO o a j=some c)
  |[],o,a,j,c,h=>.inr ⟨by simp,h⟩
  | p ::b,o,a,j,c,h=>by
    rcases ZGl (show lkO (entB b (entA p.1 p.2 0 o)) a j=some c from h)with⟨q,d,h1⟩|⟨h1,h2⟩
    . exact .inl ⟨q,by simp[d],h1⟩
    . rw [Jm]at h2;split at h2
      . rename_i f;exact .inl ⟨p,by simp,f.1.symm,by simpa using h2⟩
      . rename_i f;refine .inr ⟨λq d e=> ?_,h2⟩;rcases Ta.1 d with rfl|d
        . by_cases g:q.2.length<=j
          . exact g
          . exact absurd ⟨e.symm,TK _,by omega⟩ f
        . exact h1 q d e
theorem ZMP (a:Nat):∀(l:List CV) (k:Nat) (m:List ((Nat×Nat)×CV)),∃n,entA a l k m=n++m/\(∀q∈n,q.1.1=a)/\n.length=l.length
  |[],k,m=>⟨[],rfl,by simp,rfl⟩
  | c::l,k,m=>by
    obtain⟨n,e,hn,b⟩:=ZMP a l (k+1) (((a,k),c)::m);refine⟨n++ [((a,k),c)],by rw[entA,e];simp,λq h=> ?_,by simp[b]⟩;rcases TU.1 h with h|h
    . exact hn q h
    . cases Rp.1 h;rfl
theorem ZDA{a:Nat}{l:List CV}{k:Nat}{m:List ((Nat×Nat)×CV)}(h:l≠[]):∃q∈newL (entA a l k m) m,q.1.1=a:=by
  obtain⟨n,e,hn,b⟩:=ZMP a l k m;rw[e,YK];cases n with
  | nil=>cases l with
    |nil=>exact absurd rfl h
    |cons=>cases b
  |cons q n=>exact⟨q,by simp,hn q (by simp)⟩
theorem ZH0:∀{b:List (Nat×List CV)} {o:List ((Nat×Nat)×CV)} {p:Nat×List CV},p∈b->p.2≠[]->∃q∈newL (entB b o) o,q.1.1=p.1
  | q ::b,o,p,d,h=>by
    obtain⟨m,e⟩:=ZH1 b (entA q.1 q.2 0 o);obtain⟨n,e2⟩:=Wl q.1 q.2 0 o;have f:newL (entB (q::b) o) o=m++n:=(by rw[entB,e,e2,<-TI];exact YK _ _);rw[f];rcases Ta.1 d with rfl|d
    . obtain⟨w,c,e3⟩:=ZDA (a:=p.1) (k:=0) (m:=o) h;rw[e2,YK]at c;exact⟨w,by simp[c],e3⟩
    . obtain⟨w,c,e3⟩:=ZH0 (o:=entA q.1 q.2 0 o) d h;rw[e,YK]at c;exact⟨w,by simp[c],e3⟩
theorem ZQH{N:Nat}:∀{b:List (Nat×List CV)} {z:List (Nat×Nat)} {a m:Nat},ZG (zB N b z) a=some m->(∃p∈b,N<=p.1/\p.1=a/\p.2.length=m)\/ZG z a=some m
  |[],z,a,m,h=>.inr h
  | p ::b,z,a,m,h=>by
    rcases ZQH (show ZG (zB N b (match Nat.ble N p.1 with|true=>(p.1,p.2.length)::z|false=>z)) a=some m from h)with⟨q,hq,h1⟩|h1
    . exact .inl ⟨q,by simp[hq],h1⟩
    . split at h1
      . rename_i hb;rw[ZE]at h1;by_cases q:p.1=a
        . rw[TG q]at h1;cases h1;exact .inl ⟨p,by simp,TN hb,q,rfl⟩
        . rw[TM q]at h1;exact .inr h1
      . exact .inr h1
theorem ZQI{N:Nat}:∀(b:List (Nat×List CV)) (z:List (Nat×Nat)),∃m,zB N b z=m++z/\∀p∈m,N<=p.1
  |[],z=>⟨[],rfl,by simp⟩
  | p ::b,z=>by
    obtain⟨m,e,a⟩:=ZQI (N:=N) b (match Nat.ble N p.1 with|true=>(p.1,p.2.length)::z|false=>z);cases hb:Nat.ble N p.1 with
    | true=>
      rw[hb]at e;refine⟨m++ [(p.1,p.2.length)],by rw[zB,hb,e];simp,λq h=> ?_⟩;rcases TU.1 h with h|h
      . exact a q h
      . cases Rp.1 h;exact TN hb
    | false=>
      rw[hb]at e;exact⟨m,by rw[zB,hb];exact e,a⟩
noncomputable def buS (s:PS) (S:Sp) (b:List (Nat×List CV)) (c:Nat) (a:List (Nat×RC)):PS:=⟨s.N,s.l,entB b s.o,zB s.n b s.z,s.n+S.bs.length,s.f,c,a++s.r⟩
theorem Ext.bu{s:PS}{S:Sp}{b:List (Nat×List CV)}{c:Nat}{r:List (Nat×RC)}(h:s.c<=c):Ext s (buS s S b c r):=⟨rfl,⟨[],rfl⟩,ZH1 _ _,ZQI _ _,RY _ _,⟨[],rfl⟩,h,⟨r,rfl⟩⟩
section
variable{β:Type}{r:β}
theorem J6{s:PS}{ρ:Rho}{S:Sp}{hs:List HV}{k:List CV->PS->Option β}(h:s.bu ρ S hs k=some r):okSp S=true/\∃cs b g d e i a,InstL (sg ρ s.n) S.vs hs s.c cs b g d/\InstB (sg ρ s.n) S.bs 0 b g e i a/\k cs (buS s S e i (d++a))=some r:=by
 obtain⟨h0,h⟩:=ZA (show bb (okSp S) (buL ρ s.n S.vs hs s.c λcs hs c d=>QD cs λcs=>buB ρ s.n S.bs 0 hs c λe c a=>ZRy s.n e s.o s.z λo z=>k cs ⟨s.N,s.l,o,z,s.n+S.bs.length,s.f,c,d++(a++s.r)⟩) none=some r from h)
 obtain⟨cs,b,g,d,h1,h⟩:=YV h;rw[XS]at h;obtain⟨e,i,a,h2,h⟩:=ZIM h;rw[ZKq]at h;exact⟨h0,cs,b,g,d,e,i,a,h1,h2,by unfold buS;rw[TI];exact h⟩
theorem InstW_ix{g:Nat->Nat}:∀{w:List (Nat×Nat×Nat)} {l z:List CV} {r:List (Nat×RC)},InstW g w l z r->∀p∈r,∃q∈w,p.1=g q.2.1
  |[],l,z,r,h,p,a=>by obtain⟨_,rfl⟩:=h;cases a
  | q::w,l,z,r,h,p,a=>by
    obtain⟨t,m,b,e,h,rfl⟩:=h;rcases Ta.1 a with rfl|a
    . exact⟨q,by simp,rfl⟩
    . obtain⟨c,h1,h2⟩:=InstW_ix h p a;exact⟨c,by simp[h1],h2⟩
theorem ZSd (y:Ty)(w:List (Nat×Nat×Nat))(ps:List Pt):rowIx (.d y w::ps)=w.map (λq=>q.2.1)++rowIx ps:=by
 show(List.rec (rowIx ps) (λq _ i=>q.2.1::i) w:List Nat)=_;induction w with
 |nil=>rfl
 |cons q w i=>show q.2.1::_=_;rw[i];rfl
theorem InstL_ix{g:Nat->Nat}{ps:List Pt}{hs f:List HV}{c l:Nat}{cs:List CV}{r:List (Nat×RC)}(h:InstL g ps hs c cs f l r):∀p∈r,∃k∈rowIx ps,p.1=g k:=by
  induction h with
  |nil=>intro p b;cases b
  | d m _ a=>
    intro p b;rw[ZSd];rcases TU.1 b with b|b
    . obtain⟨q,o,e⟩:=InstW_ix m p b;exact⟨q.2.1,by simp only[TU,SI];exact .inl ⟨q,o,rfl⟩,e⟩
    . obtain⟨k,j,e⟩:=a p b;exact⟨k,by simp[j],e⟩
  |n _ a=>exact a
  |rr _ a=>exact a
  |ptr _ a=>exact a
  |el _ a=>exact a
  |oel _ a=>exact a
  |rel _ a=>exact a
  |cl _ a=>exact a
  |rv _ a=>exact a
  |orel _ a=>exact a
  |ag _ _ a=>exact a
  |tu _ _ a=>exact a
  |clo _ _ a=>exact a
  |c _ a=>exact a
  |x _ a=>exact a
  | bor _ a=>
    intro p b;rename_i i _ _ ps _ _ _ _ _ _ _;show∃k∈i::rowIx ps,p.1=_;rcases Ta.1 b with rfl|b
    . exact⟨i,by simp,rfl⟩
    . obtain⟨k,j,e⟩:=a p b;exact⟨k,by simp[j],e⟩
theorem InstB_ix{g:Nat->Nat}{bs:List Bp}{i:Nat}{hs:List HV}{c q:Nat}{f:List (Nat×List CV)}{r:List (Nat×RC)}(h:InstB g bs i hs c f q r):
    (∀p∈r,∃k∈rowIB bs,p.1=g k)/\(∀p∈f,∃j n ps,bs[j]? =some (.cells n ps)/\p.1=g (i+j)/\p.2.length=n)/\(∀j n ps,bs[j]? =some (.cells n ps)->∃cs,(g (i+j),cs)∈f/\cs.length=n):=by
  induction h with
  |nil=>exact⟨(by intro p a;simp at a),(by intro p a;simp at a),(by intro j n ps e;simp at e)⟩
  | row _ b=>
    refine⟨b.1,λp a=> ?_,λj n ps e=> ?_⟩
    . obtain⟨j,n,ps,e,h1,h2⟩:=b.2.1 p a;exact⟨j+1,n,ps,by simpa using e,by rw[h1];congr 1;omega,h2⟩
    . cases j with
      |zero=>simp at e
      |succ j=>obtain⟨cs,h1,h2⟩:=b.2.2 j n ps (by simpa using e);exact⟨cs,by rw[show∀i,i+(j+1)=i+1+j by intro i;omega];exact h1,h2⟩
  | cells s d _ b=>
    rename_i n ps bs i hs c cs t w r f q u _;refine⟨λp a=> ?_,λp a=> ?_,λj v l e=> ?_⟩
    . show∃k∈rowIx ps++rowIB bs,p.1=g k;rcases TU.1 a with a|a
      . obtain⟨k,m,e⟩:=InstL_ix s p a;exact⟨k,by simp[m],e⟩
      . obtain⟨k,m,e⟩:=b.1 p a;exact⟨k,by simp[m],e⟩
    . rcases Ta.1 a with rfl|a
      . exact⟨0,n,ps,rfl,rfl,d⟩
      . obtain⟨j,n,ps,e,h1,h2⟩:=b.2.1 p a;exact⟨j+1,n,ps,by simpa using e,by rw[h1];congr 1;omega,h2⟩
    . cases j with
      |zero=>simp at e;exact⟨cs,by simp,by rw[d];exact e.1⟩
      |succ j=>obtain⟨o,h1,h2⟩:=b.2.2 j v l (by simpa using e);exact⟨o,by rw[show i+(j+1)=i+1+j by omega];simp[h1],h2⟩
end
theorem ZDV{ρ:Rho}{b i a:Nat}(h:ZG ρ i=some (some a)):sg ρ b i=a:=by unfold sg;rw[h]
theorem ZUG{ρ:Rho}{b i:Nat}(c:∀i a,ZG ρ i=some (some a)->a<b)(h:b<=sg ρ b i):sg ρ b i=b+i:=by
 unfold sg at h|-;split at h
 . rename_i a e;exact absurd (c i a e) (by omega)
 . rfl
section
variable{x:Cx}{s:PS}{I J:In}{seg seg2:Nat->Own}{l:Slots}{own:List Own}{H:Heaplet}
theorem BlOk.cur{g:Nat->Nat}{W:Wt}{b:List (Nat×List CV)}(h:BlOk J g W b)(a:∀i w,W i=some w->g i<J.n/\J.ν (g i)=w.1/\seg2 (g i)=w.2){p:Nat×List CV}(c:p∈b):
 p.1<J.n/\∃cur T,seg2 p.1= [((J.ν p.1).1,.cells cur T (0,0))]/\VRs J p.2 cur.toList/\cur.size=p.2.length:=by
 obtain⟨i,w,cur,T,e1,e2,e3,e4⟩:=h p c;obtain⟨h1,h2,h3⟩:=a i w e1;rw[e2];exact⟨h1,cur,T,by rw[h3,h2];exact e3,e4,by rw[e4.length,TR]⟩
def Kp (s:PS)(b:List (Nat×List CV))(seg seg2:Nat->Own):Prop:=∀a,a<s.n->seg2 a=seg a\/((∀c,ZG s.r a=some c->c=.dead)/\((ZG s.z a=none/\∀j d,lkO s.o a j=some d->d=.unk)\/∃cs,(a,cs)∈b/\ZG s.z a=some cs.length))
theorem RS.bu{S:Sp}{W:Wt}{hv:List HV}{vs:List Value}{ρ:Rho}{cs:List CV}{K:List HV}{c1:Nat}{B:List (Nat×RC)}{A:List (Nat×List CV)}{L:Nat}{u:List (Nat×RC)}(hs:RS x s I seg l own H)(hT:TellsS H W S hv vs)(hok:okSp S=true)
    (hL:InstL (sg ρ s.n) S.vs hv s.c cs K c1 B)(hB:InstB (sg ρ s.n) S.bs 0 K c1 A L u)(M:∀i a,ZG ρ i=some (some a)->a<s.n)(hinj:InjR ρ)
    (O:J.H=H)(jn:J.n=s.n+S.bs.length)(jq:J.q=s.c+(cnt hv).length)(C:∀a,a<s.n->J.ν a=I.ν a)(P:∀c,c<s.c->J.κ c=I.κ c)(jC:Cnt J s.c (cnt hv))
    (G:∀i w,W i=some w->sg ρ s.n i<J.n/\J.ν (sg ρ s.n i)=w.1/\seg2 (sg ρ s.n i)=w.2)
    (hK:Kp s A seg seg2)(hz:∀p∈B++u,p.1<s.n->ZG s.z p.1=none/\∀j d,lkO s.o p.1 j=some d->d=.unk)(Q:∀p∈A,p.1<s.n->∃m,ZG s.z p.1=some m):
    VRs J cs vs/\RS x (buS s S A L (B++u)) J seg2 l ((List.range J.n).map seg2) H:=by
  obtain⟨t1,t2,t3,t4⟩:=hT _ J s.c _ _ _ _ _ _ _ ⟨O,λi w e=>⟨(G i w e).1,(G i w e).2.1⟩⟩ jC hL hB;obtain⟨i1,i2,i3⟩:=InstB_ix hB;have R:I.Le J:=⟨by rw[hs.H,O];exact R1 _,by rw[hs.n,jn];omega,λa ha=>C a (by rw[<-hs.n];exact ha),by rw[hs.q,jq];omega,λc hc=>P c (by rw[<-hs.q];exact hc)⟩
  -- rows are no cells
  have apart:∀p∈B++u,∀q∈A,q.1≠p.1:=λp b q D e=>by
    by_cases f:p.1<s.n
    . obtain⟨m,hm⟩:=Q q D (by rw[e];exact f);rw[e,(hz p b f).1]at hm;cases hm
    . obtain⟨k,g,U⟩:∃k∈rowIx S.vs++rowIB S.bs,p.1=sg ρ s.n k:=by
        rcases TU.1 b with b|b
        . obtain⟨k,g,e⟩:=InstL_ix hL p b;exact⟨k,by simp[g],e⟩
        . obtain⟨k,g,e⟩:=i1 p b;exact⟨k,by simp[g],e⟩
      obtain⟨j,n,ps,e1,e2,e3⟩:=i2 q D;have V:=ZUG M (by rw[<-U];omega);have X:=ZUG (i:=0+j) M (by rw[<-e2,e];omega);rw[U,V]at e;rw[e2,X]at e;have hkj:k=j:=(by omega);subst hkj;have:=ZW.1 (show allB (λk=>match S.bs[k]? with|some (.cells _ _)=>false|_=>true) (rowIx S.vs++rowIB S.bs)=true from hok) k g;rw[e1]at this;cases this
  have Y:∀p∈B++u,p.1<J.n/\RwOk H (J.ν p.1).2 (seg2 p.1) p.2:=λp b=>by
    obtain⟨i,w,e1,e2,e3,_⟩:=t4 p b;obtain⟨h1,h2,h3⟩:=G i w e1;rw[e2];exact⟨h1,by rw[h2,h3];exact e3⟩
  have E:∀{k:Nat} {c:RC},ZG ((B++u)++s.r) k=some c->(∃p∈B++u,p.1=k/\p.2=c)\/ZG s.r k=some c:=λ{k c} e=>by
    have key:∀(m:List (Nat×RC)),ZG (m++s.r) k=some c->(∃p∈m,p.1=k/\p.2=c)\/ZG s.r k=some c:=λm=>by
      induction m with
      |nil=>intro h;exact .inr h
      | cons p m ih=>
        intro h;rw[RI,ZE]at h;by_cases q:p.1=k
        . rw[TG q]at h;cases h;exact .inl ⟨p,by simp,q,rfl⟩
        . rw[TM q]at h;exact(ih h).imp (fun⟨p',h1,h2⟩=>⟨p',by simp[h1],h2⟩) id
    exact key _ e
  refine⟨t2,hs.N,O,jn,by rw[jq];exact t1.symm,?_,λt c e=> ?_,λa m e=> ?_,λa o c e=> ?_,λc hc=> ?_,λk c e=> ?_,λk c e=> ?_,λk c j d e e2=> ?_⟩
  . rw[jn];rfl
  . exact(hs.sl t c e).imp id fun⟨v,h1,h2⟩=>⟨v,h1,h2.mono R⟩
  . rcases ZQH e with⟨p,b,hn,rfl,rfl⟩|e
    . obtain⟨h1,cur,T,h2,_,h3⟩:=t3.cur G b;exact⟨by rw[jn]at h1;exact h1,cur,T,h2,h3⟩
    . obtain⟨h1,cur,T,h2,h3⟩:=hs.ze a m e;have hb:a<(buS s S A L (B++u)).n:=Tn h1 (RY _ _);rcases hK a h1 with g|⟨_,⟨g,_⟩|⟨cs,g,y⟩⟩
      . exact⟨hb,cur,T,by rw[g,C a h1];exact h2,h3⟩
      . rw[g]at e;cases e
      . obtain⟨_,cur,T,V,_,X⟩:=t3.cur G g;rw[y]at e;cases e;exact⟨hb,cur,T,V,X⟩
  . rcases ZGl e with⟨p,b,rfl,hpc⟩|⟨hno,e⟩
    . obtain⟨h1,cur,T,h2,h3,_⟩:=t3.cur G b;obtain⟨v,Z,f2⟩:=h3.get hpc;exact .inr ⟨by rw[jn]at h1;exact h1,cur,T,v,h2,Z,f2⟩
    . rcases hs.ce a o c e with h|⟨h1,cur,T,v,h2,h3,h4⟩
      . exact .inl h
      . have hb:a<(buS s S A L (B++u)).n:=Tn h1 (RY _ _);rcases hK a h1 with g|⟨_,⟨g,y⟩|⟨cs,g,y⟩⟩
        . exact .inr ⟨hb,cur,T,v,by rw[g,C a h1];exact h2,h3,h4.mono R⟩
        . exact .inl (y _ _ e)
        . exfalso;obtain⟨_,cur',T',Z,f2⟩:=hs.ze a _ y;rw[h2]at Z;simp only[SA,SD,Obj.cells.injEq,and_true,Rd]at Z;obtain⟨rfl,_⟩:=Z;have V:=hno _ g rfl;have X:=(TD.1 h3).1;rw[TR,f2]at X;simp only at V;omega
  . obtain⟨h1,h2⟩:=hs.fx c hc;exact⟨by show c<L;rw[t1];omega,by rw[P c h1];exact h2⟩
  . rcases E e with⟨p,b,rfl,rfl⟩|e
    . obtain⟨h1,h2⟩:=Y p b;exact .inr ⟨by rw[jn]at h1;exact h1,by rw[O];exact h2⟩
    . rcases hs.rw k c e with h|⟨h1,h2⟩
      . exact .inl h
      . rcases hK k h1 with g|⟨g,_⟩
        . exact .inr ⟨Tn h1 (RY _ _),by rw[O,g,C k h1,<-hs.H];exact h2⟩
        . exact .inl (g c e)
  . have nz:∀k,(∀q∈A,s.n<=q.1->q.1≠k)->ZG s.z k=none->ZG (zB s.n A s.z) k=none:=λk h1 h2=>by
      cases F:ZG (zB s.n A s.z) k with
      |none=>rfl
      | some m=>
        rcases ZQH F with⟨p,b,hn,e1,_⟩|e1
        . exact absurd e1 (h1 p b hn)
        . rw[h2]at e1;cases e1
    rcases E e with⟨p,b,rfl,rfl⟩|e
    . refine .inr (nz _ (λq D _=>apart p b q D) ?_);by_cases f:p.1<s.n
      . exact(hz p b f).1
      . cases F:ZG s.z p.1 with
        |none=>rfl
        |some m=>exact absurd (hs.ze _ _ F).1 f
    . rcases hs.rw k c e with h|⟨h1,_⟩
      . exact .inl h
      . rcases hs.rz k c e with h|h
        . exact .inl h
        . exact .inr (nz _ (λq _ D e2=>by omega) h)
  . rcases E e with⟨p,b,rfl,rfl⟩|e
    . rcases ZGl e2 with⟨q,D,h1,_⟩|⟨_,e2⟩
      . exact absurd h1 (apart p b q D)
      . by_cases f:p.1<s.n
        . exact .inr ((hz p b f).2 _ _ e2)
        . rcases hs.ce _ _ _ e2 with h|⟨h1,_⟩
          . exact .inr h
          . exact absurd h1 f
    . rcases ZGl e2 with⟨q,D,h1,_⟩|⟨_,e2⟩
      . rcases hs.rw k c e with h|⟨f,_⟩
        . exact .inl h
        . obtain⟨m,hm⟩:=Q q D (by rw[h1];exact f);rcases hs.rz k c e with h|h
          . exact .inl h
          . rw[<-h1,hm]at h;cases h
      . exact hs.ro k c j d e e2
end
end Go.Pv
namespace Go.Ow
open Go.RowKit
section
variable{x:Cx}{ops:Array Oper}{Q:Exit->Act->World->Prop}{rest:List Oper}{l:Slots}{own:List Own}{H:Heaplet}{ty:TypeId}{d:Nat}{pos:String}{aft:Array Edge}
variable{fn:Func}{R:Value->List Own->Heaplet->Prop}{E:Value->Prop}{ex:Exit}{v:Value}
variable{ρ β:Type}{c:Operand}{as:Array Operand}{ts:Array TypeId}{f:FuncId}{vs:List Value}{As:List Sp}{B:ρ->List Sp}{T:TypeId}
end
def RetD (x:Cx)(fn:Func)(R:Value->List Own->Heaplet->Prop):Exit->Act->World->Prop:=
 bodyPostDIn Fence.wide 0 x.P fn (λe w=>∃v K' H,e=.returned v/\R v K' H/\Mem x.w0 x.H0 x.S K'.flatten H w)
section
variable{x:Cx}{ops:Array Oper}{Q:Exit->Act->World->Prop}{rest:List Oper}{l:Slots}{own:List Own}{H:Heaplet}{ty:TypeId}{d:Nat}{pos:String}{aft:Array Edge}
variable{fn:Func}{R:Value->List Own->Heaplet->Prop}{ex:Exit}{v:Value}
theorem ZR9 (c:ex=.ret\/ex=.normal)(h:JN x (Ret x fn R ex) l own H):JN x (RetD x fn R ex) l own H:=λa w d=>by
 have h:=h a w d;have k:∀(h:bodyPost x.P fn (λe f=>∃v K' b,e=.returned v/\R v K' b/\Mem x.w0 x.H0 x.S K'.flatten b f) .ret a w),RetD x fn R .ret a w:=λh=>by
  obtain⟨h1,v,h2,h3⟩:=h;show LeavesIn _ _ _ _ a.tmps _ a.defers .returning w;rw[h1];exact⟨v,h2,h3⟩
 rcases c with rfl|rfl
 . exact k h
 . exact k h
theorem ZSD{p:Operand}{g:FuncId}{cap:Array Value}(d:x.r=none)(e:evo l p=some (.func (.func g) #[] cap))(h:JL {x with ds:={target:=.fn (.func g) cap,args:=#[]}::x.ds} ops Q rest l own H):
 JL x ops Q (⟨none,.defer ⟨.value p,#[],#[]⟩,ty,pos,aft,none⟩::rest) l own H:=λa w b=>by
 simp only[wpLs,ZJ,if_true];refine⟨λ_ _=>trivial,?_⟩;have c:(execOp a.eval ⟨none,.defer ⟨.value p,#[],#[]⟩,ty,pos,aft,none⟩).run x.P w=.ok (.defer {target:=.fn (.func g) cap,args:=#[]}) w:=by
  have e1:=ZI b e;generalize a.eval=ρ at e1|-;simp[execOp,resolve,e1,Deferred.ofValue,go_sem]
 rw[show(Fw x.r).round=none from d,Oper.semAt_none,c];exact h _ w ⟨b.size,by show _::a.defers=_::x.ds;rw[b.ds],b.slots,b.mem⟩
end
section
variable{x:Cx}{l:Slots}{own:List Own}{H:Heaplet}{ty t u:TypeId}{p q:Operand}{v:Value}
end
end Go.Ow
namespace Go.Pv
open Go Go.Ow Go.RowKit
def sgW (W:Wt)(k:Nat):Own:=match W k with|some w=>w.2|none=> []
def FnOkG (DO:Array Value->List Own->Heaplet->(Value->List Own->Heaplet->Prop)->Prop)(i o:Sp)(c:VH (hyS i)->Option (VH (hyS o))):Prop:=
  ∀ (H:Heaplet) (W:Wt) (vs:List Value) (z:VH (hyS i)) (y:VH (hyS o)),(∀k w,W k=some w->k<i.bs.length)->TellsS H W i (ofVH (hyS i) z) vs->c z=some y->
    DO vs.toArray ((List.range i.bs.length).map (sgW W)) H (λu K' d=>∃us a,(∀k w,a k=some w->k<o.bs.length)/\(∀k w,W k=some w->∃b,a k=some b/\b.1=w.1)/\u=Ow.pack us/\TellsS d a o (ofVH (hyS o) y) us/\K'=(List.range o.bs.length).map (sgW a))
abbrev FnOk (P:Program)(f:FuncId)(i o:Sp)(a:VH (hyS i)->Option (VH (hyS o))):Prop:=FnOkG (Does P f) i o a
def DoesD (P:Program)(f:FuncId)(args:Array Value)(K:List Own)(H:Heaplet)(R:Value->List Own->Heaplet->Prop):Prop:=
 ∀w,Agrees H w->OwnOk H K.flatten w->CallsDIn Fence.wide 0 P f args .returning w λe u b=>u=.returning/\∃v K' a,e=.returned v/\R v K' a/\Mem w H (ids K.flatten) K'.flatten a b
def NtOk (P : Program) (f : Nat) (n : NK) : Prop := ∃ fn, P.funcs[f]? = some fn /\ (fn.name == "runtime.NumGoroutine") = false /\ fn.body.isNone = true /\ Extern.findNext fn = none /\ Extern.find fn = some (match n with | .count => Extern.BytealgCount.count | .index => Extern.BytealgIndexByte.indexByte)
structure EnvOk (X:Env):Prop where
  sp:∀f,∀S∈X.sp f,Enters X.P f/\FnOk X.P f S.i S.o S.f
  dsp:∀f,∀S∈X.dsp f,Enters X.P f/\FnOkG (DoesD X.P f) S.i S.o S.f
  nt:∀f n,ZG X.nt f=some n->NtOk X.P f n
theorem ZQx{I:In}{cs:List CV}{us:List Value}(h:VRs I cs us):VR I (packC cs) (Ow.pack us):=by
  match cs,us,h with
  |[],us,h=>cases h.un0;show VR I (.tu []) (.tuple _);simp only[VR];exact⟨[],rfl,VRs.nil⟩
  |[c],us,h=>obtain⟨v,ws,rfl,h1,h2⟩:=h.un;cases h2.un0;exact h1
  | c::d::cs,us,h=>
    have h0:=h;obtain⟨v,ws,rfl,h1,h2⟩:=h.un;obtain⟨a,w,rfl,h3,b⟩:=h2.un;show VR I (.tu (c::d::cs)) (.tuple (v::a::w).toArray);simp only[VR];exact⟨_,rfl,h0⟩
structure KillOk (ρ:Rho) (bs:List Bp) (i:Nat) (s s':PS):Prop where
  e:Ext s s'
  N:s'.N=s.N
  n:s'.n=s.n
  o:s'.o=s.o
  z:s'.z=s.z
  c:s'.c=s.c
  row:∀j a,bs[j]? =some .row->ZG ρ (i+j)=some (some a)->(∃t E m,ZG s.r a=some (.own t E m))/\(∃p∈newL s'.r s.r,p.1=a)/\∀c,ZG s'.r a=some c->c=.dead
  cells:∀j n ps,bs[j]? =some (.cells n ps)->∃a,ZG ρ (i+j)=some (some a)/\ZG s.z a=some n/\1<=n
section
variable{β:Type}{r:β}{x:Cx}{s:PS}{I:In}{seg:Nat->Own}{l:Slots}{own:List Own}{H:Heaplet}
theorem RS.kill (h:RS x s I seg l own H)(a:Nat):RS x ⟨s.N,s.l,s.o,s.z,s.n,s.f,s.c,(a,.dead)::s.r⟩ I seg l own H:=by
 have b:∀{k:Nat} {c:RC},ZG ((a,RC.dead)::s.r) k=some c->c=.dead\/ZG s.r k=some c:=λ{k c} e=>by
  rw[ZE]at e;split at e
  . cases e;exact .inl rfl
  . exact .inr e
 exact⟨h.N,h.H,h.n,h.q,h.own,h.sl,h.ze,h.ce,h.fx,λk c e=>(b e).elim .inl (h.rw k c),λk c e=>(b e).elim .inl (h.rz k c),λk c j d e e2=>(b e).elim .inl (λe=>h.ro k c j d e e2)⟩
theorem ZPu{m:List (Nat×RC)}{r:List (Nat×RC)}{a:Nat}(h:∀p∈m,p.2=.dead)(h0:∀c,ZG r a=some c->c=.dead):∀c,ZG (m++r) a=some c->c=.dead:=by
  induction m with
  |nil=>exact h0
  | cons p m i=>
    intro c e;rw[RI,ZE]at e;split at e
    . cases e;exact h p (by simp)
    . exact i (λq b=>h q (by simp[b])) c e
theorem BY{ρ:Rho}:∀{bs:List Bp} {i:Nat} {s:PS} {I:In} {seg:Nat->Own} {own:List Own} {H:Heaplet} {k:PS->Option β},Jj ρ bs i s k=some r->InjR ρ->RS x s I seg l own H->
    ∃s',k s'=some r/\RS x s' I seg l own H/\KillOk ρ bs i s s'/\∃m,s'.r=m++s.r/\∀p∈m,p.2=.dead
  |[],i,s,I,seg,own,H,k,h,hi,hs=>⟨s,h,hs,⟨Pg _,rfl,rfl,rfl,rfl,rfl,λj a e=>(by simp at e),λj n ps e=>(by simp at e)⟩,[],rfl,by simp⟩
  | .row :: bs,i,s,I,seg,own,H,k,h,hi,hs=>by
    have B:∀(h:Jj ρ bs (i+1) s k=some r),(∀a,ZG ρ i≠some (some a))->∃s',k s'=some r/\RS x s' I seg l own H/\KillOk ρ (.row::bs) i s s'/\∃m,s'.r=m++s.r/\∀p∈m,p.2=.dead:=λh u=>by
      obtain⟨s',h1,h2,h3,v⟩:=BY h hi hs;refine⟨s',h1,h2,⟨h3.e,h3.N,h3.n,h3.o,h3.z,h3.c,λj a e e2=> ?_,λj n ps e=> ?_⟩,v⟩
      . cases j with
        |zero=>exact absurd e2 (u a)
        |succ j=>exact h3.row j a (by simpa using e) (by rw[show i+1+j=i+(j+1) by omega];exact e2)
      . cases j with
        |zero=>simp at e
        |succ j=>obtain⟨a,g,w⟩:=h3.cells j n ps (by simpa using e);exact⟨a,by rw[show i+(j+1)=i+1+j by omega];exact g,w⟩
    replace h:=show(match ZG ρ i with
      |some (some a)=>bb (VU s a) (Jj ρ bs (i+1) ⟨s.N,s.l,s.o,s.z,s.n,s.f,s.c,(a,.dead)::s.r⟩ k) none
      | _ =>Jj ρ bs (i+1) s k)=some r by
        rw[<-h];show _=(match (Bp.row),ZG ρ i with
          | .row,some (some a)=>bb (VU s a) (Jj ρ bs (i+1) ⟨s.N,s.l,s.o,s.z,s.n,s.f,s.c,(a,.dead)::s.r⟩ k) none
          | .cells n _,some (some a)=>bb (Bool.and (Nat.ble 1 n) (match ZG s.z a with|some m=>Nat.beq m n|none=>false)) (Jj ρ bs (i+1) s k) none
          | .cells _ _,_=>none
          |_,_=>Jj ρ bs (i+1) s k)
        cases ZG ρ i with
        |none=>rfl
        |some o=>cases o<;>rfl
    split at h
    . rename_i a e0;obtain⟨A,h⟩:=ZA h;have C:∃t E m,ZG s.r a=some (.own t E m):=by
        unfold VU at A;split at A
        . rename_i t E m e;exact⟨t,E,m,e⟩
        . cases A
      obtain⟨s',h1,h2,h3,m,v,K⟩:=BY h hi (hs.kill a);have D:s'.r=(m++ [(a,.dead)])++s.r:=(by rw[v];simp);refine⟨s',h1,h2,⟨(Ext.row s a .dead).trans h3.e,h3.N,h3.n,h3.o,h3.z,h3.c,λj b e e2=> ?_,λj n ps e=> ?_⟩,m++ [(a,.dead)],D,λp d=> ?_⟩
      . cases j with
        | zero=>
          have e2:ZG ρ i=some (some b):=e2;rw[e0]at e2;cases e2;refine⟨C,⟨(a,.dead),by rw[D,YK];simp,rfl⟩,?_⟩;rw[v];exact ZPu K (λc e=>by
            have e:ZG ((a,RC.dead)::s.r) a=some c:=e;rw[ZE,TG rfl]at e;cases e;rfl)
        | succ j=>
          have e3:ZG ρ (i+1+j)=some (some b):=(by rw[show i+1+j=i+(j+1) by omega];exact e2);obtain⟨⟨t,E,L,g⟩,w,M⟩:=h3.row j b (by simpa using e) e3;have g:ZG ((a,RC.dead)::s.r) b=some (.own t E L):=g;rw[ZE]at g;by_cases q:a=b
          . rw[TG q]at g;cases g
          . rw[TM q]at g;refine⟨⟨t,E,L,g⟩,?_,M⟩;obtain⟨p,d,F⟩:=w;rw[v,YK]at d;exact⟨p,by rw[D,YK];simp[d],F⟩
      . cases j with
        |zero=>simp at e
        |succ j=>obtain⟨b,g,w⟩:=h3.cells j n ps (by simpa using e);exact⟨b,by rw[show i+(j+1)=i+1+j by omega];exact g,w⟩
      . rcases TU.1 d with d|d
        . exact K p d
        . cases Rp.1 d;rfl
    . rename_i u;exact B h u
  | .cells n ps::bs,i,s,I,seg,own,H,k,h,hi,hs=>by
    replace h:=show(match ZG ρ i with
      |some (some a)=>bb (Bool.and (Nat.ble 1 n) (match ZG s.z a with|some m=>Nat.beq m n|none=>false)) (Jj ρ bs (i+1) s k) none
      | _ =>none)=some r by
        rw[<-h];show _=(match (Bp.cells n ps),ZG ρ i with
          | .row,some (some a)=>bb (VU s a) (Jj ρ bs (i+1) ⟨s.N,s.l,s.o,s.z,s.n,s.f,s.c,(a,.dead)::s.r⟩ k) none
          | .cells n _,some (some a)=>bb (Bool.and (Nat.ble 1 n) (match ZG s.z a with|some m=>Nat.beq m n|none=>false)) (Jj ρ bs (i+1) s k) none
          | .cells _ _,_=>none
          |_,_=>Jj ρ bs (i+1) s k)
        cases ZG ρ i with
        |none=>rfl
        |some o=>cases o<;>rfl
    split at h
    . rename_i a e0;obtain⟨A,h⟩:=ZA h;simp only[TE]at A;obtain⟨G,y⟩:=A;have O:ZG s.z a=some n:=by
        split at y
        . rename_i m e;rw[e,TB y]
        . cases y
      obtain⟨s',h1,h2,h3,v⟩:=BY h hi hs;refine⟨s',h1,h2,⟨h3.e,h3.N,h3.n,h3.o,h3.z,h3.c,λj b e e2=> ?_,λj P J e=> ?_⟩,v⟩
      . cases j with
        |zero=>simp at e
        |succ j=>exact h3.row j b (by simpa using e) (by rw[show i+1+j=i+(j+1) by omega];exact e2)
      . cases j with
        |zero=>simp at e;obtain⟨rfl,_⟩:=e;exact⟨a,e0,O,TN G⟩
        |succ j=>obtain⟨b,g,w⟩:=h3.cells j P J (by simpa using e);exact⟨b,by rw[show i+(j+1)=i+1+j by omega];exact g,w⟩
    . cases h
theorem ZEf:∀{i o:List Bp},okIO i o=true->i.length<=o.length/\∀(j:Nat) (b:Bp),i[j]? =some b->(b=.row/\o[j]? =some .row)\/∃n ps p,b=.cells n ps/\o[j]? =some (.cells n p)
  |[],o,h=>⟨TK _,λj b e=>by simp at e⟩
  | .row::i,o,h=>by
    cases o with
    |nil=>cases h
    | cons c o=>
      cases c with
      |cells m ps=>cases h
      | row=>
        obtain⟨h1,h2⟩:=ZEf (show okIO i o=true from h)
        refine⟨by simpa using h1,λj b e=> ?_⟩;cases j with
        |zero=>simp at e;subst e;exact .inl ⟨rfl,rfl⟩
        |succ j=>simpa using h2 j b (by simpa using e)
  | .cells n ps::i,o,h=>by
    cases o with
    |nil=>cases h
    | cons c o=>
      cases c with
      |row=>cases h
      | cells m p=>
        have h:Bool.and (Nat.beq m n) (okIO i o)=true:=h;simp only[TE]at h;obtain⟨h1,h2⟩:=ZEf h.2;refine⟨by simpa using h1,λj b e=> ?_⟩;cases j with
        |zero=>simp at e;subst e;exact .inr ⟨n,ps,p,rfl,by rw[<-TB h.1];rfl⟩
        |succ j=>simpa using h2 j b (by simpa using e)
variable{X:Env}{ops:Array Oper}{Q:Exit->Act->World->Prop}{rest:List Oper}{ty:TypeId}{d:Nat}{pos:String}{aft:Array Edge}
noncomputable def back (ρ:Rho) (b n a:Nat):Option Nat:=(List.range n).find? λi=>Nat.beq (sg ρ b i) a
theorem Q1{ρ:Rho}{b n a i:Nat}(h:back ρ b n a=some i):i<n/\sg ρ b i=a:=by
 unfold back at h;have h1:=List.find?_some h;have h2:=List.mem_of_find?_eq_some h;exact⟨SE.1 h2,TB h1⟩
theorem ZUY{ρ:Rho}{b:Nat}(hi:InjR ρ)(c:∀i a,ZG ρ i=some (some a)->a<b){i j:Nat}(h:sg ρ b i=sg ρ b j):i=j:=by
 have k:∀i,(∃a,ZG ρ i=some (some a)/\sg ρ b i=a/\a<b)\/sg ρ b i=b+i:=λi=>by
  by_cases e:∃a,ZG ρ i=some (some a)
  . obtain⟨a,e⟩:=e;exact .inl ⟨a,e,ZDV e,c i a e⟩
  . refine .inr ?_;unfold sg;split
    . rename_i a e2;exact absurd ⟨a,e2⟩ e
    . rfl
 rcases k i with⟨a,e1,e2,e3⟩|e1<;>rcases k j with⟨g,f,d,l⟩|f
 . rw[e2,d]at h;subst h;exact hi _ _ _ e1 f
 . omega
 . omega
 . omega
theorem ZTR{ρ:Rho}{b n i:Nat}(hi:InjR ρ)(c:∀i a,ZG ρ i=some (some a)->a<b)(h:i<n):back ρ b n (sg ρ b i)=some i:=by
  cases hb:back ρ b n (sg ρ b i)with
  |some j=>rw[ZUY hi c (Q1 hb).2]
  | none=>
    unfold back at hb;have:=List.find?_eq_none.1 hb i (SE.2 h);simp at this
theorem ZPx{ρ:Rho}{b n a:Nat}(h:back ρ b n a=none):∀i,i<n->sg ρ b i≠a:=λi hi e=>by
 unfold back at h;have:=List.find?_eq_none.1 h i (SE.2 hi);rw[e]at this;simp at this
theorem ZIB {Kc : Act->World->Prop}{Kf:Value->Act->World->Prop}{lf:Value->Slots}{xf:Cx}{DO:Array Value->List Own->Heaplet->(Value->List Own->Heaplet->Prop)->Prop}{vs:List Value}{cs:List CV}{k:List CV->PS->Option β}
    (Y:∀{K rst own:List Own} {H:Heaplet} {R:Value->List Own->Heaplet->Prop},(∃us s',s'.N=x.n/\k us s'=some r)->own.flatten.Perm (K.flatten++rst.flatten)->DO vs.toArray K H R->(∀v K' H',R v K' H'->Hle H H'->JN xf (Kf v) (lf v) (K'++rst) H')->JN x Kc l own H):
    ∀ {L:List Spec},(∀S∈L,FnOkG DO S.i S.o S.f)->RS x s I seg l own H->VRs I cs vs->callK s cs k L=some r->(∀us vs' s' I' seg' own' H',Go s I seg H s' I' seg' H'->k us s'=some r->VRs I' us vs'->RS x s' I' seg' l own' H'->JN xf (Kf (Ow.pack vs')) (lf (Ow.pack vs')) own' H')->
      JN x Kc l own H
  |[],hL,hs,hv,h,X=>by cases h
  | S ::L,hL,hs,hv,h,X=>by
    obtain⟨q,hq⟩:∃q,q=mtS s S.i cs [] (λhs ρ js=>bb (Bool.and (okIO S.i.bs S.o.bs) (allB (λp=>Nat.blt p.1 S.i.bs.length) ρ)) (some (hs,ρ,js)) none):=⟨_,rfl⟩;replace h:=show(Option.rec (callK s cs k L) (λq=>JO q.2.2 s λs=>toVH (hyS S.i) q.1 λx=>Option.bind (S.f x) λy=>Jj q.2.1 S.i.bs 0 s λs=>s.bu q.2.1 S.o (ofVH (hyS S.o) y) k) q:Option β)=some r by rw[hq];exact h
    cases q with
    |none=>exact ZIB Y (λS' hS=>hL S' (by simp[hS])) hs hv h X
    | some q=>
      obtain⟨hs0,ρ,js,hm,-,hi,hρ,hT⟩:=ZCn hq.symm (λi j a e=>by cases e);obtain⟨U,hm⟩:=ZA hm;cases hm;simp only[TE]at U;obtain⟨hio,G⟩:=U;obtain⟨io1,io2⟩:=ZEf hio;have G:∀i a,ZG ρ i=some a->i<S.i.bs.length:=λi a e=>(by simpa using ZW.1 G _ (UN e));replace h:=show JO js s (λs=>toVH (hyS S.i) hs0 λx=>Option.bind (S.f x) λy=>Jj ρ S.i.bs 0 s λs=>s.bu ρ S.o (ofVH (hyS S.o) y) k)=some r from h;rw[WG]at h;obtain⟨z,hz,h9⟩:=UX h;clear h;subst hz;obtain⟨y,hy,h⟩:=Zb h9;have k2:=hL S (by simp);refine BS (js:=js) (K:=Kc) hs (λseg2 own2 H2 g2 Z=> ?_);have hn2:(pubS js s).n=s.n:=(Y6 js s).n;obtain⟨A,h,hs3,D,m3,em3,hm3⟩:=BY h hi Z;have hW:TellsS H2 (Wf ρ {I with H:=H2} seg2) S.i (ofVH (hyS S.i) z) vs:=hT {I with H:=H2} seg2 _ (Rw.of Z) (hv.mono g2.I).vu;have hWd:∀k w,Wf ρ {I with H:=H2} seg2 k=some w->k<S.i.bs.length:=λk w e=>by
        unfold Wf at e;cases e2:ZG ρ k with
        |none=>rw[e2]at e;cases e
        |some a=>exact G k a e2
      have hWs:∀k,sgW (Wf ρ {I with H:=H2} seg2) k=(match ZG ρ k with|some (some a)=>seg2 a|_=> []):=λk=>by
        unfold sgW Wf;cases ZG ρ k with
        |none=>rfl
        |some a=>cases a<;>rfl
      have T:∀i a,ZG ρ i=some (some a)->a<A.n:=λi a e=>by rw[D.n,hn2];exact(hρ i a e).2
      -- what is handed in,and what is not
      obtain ⟨Rx,hR1,hR2⟩:=ZA6 (g:=seg2) (K:=List.range A.n) (N:=S.i.bs.length) (seg:=sgW (Wf ρ {I with H:=H2} seg2)) (λk=>(ZG ρ k).bind id)
        (λa b i _ _ e1 e2=>by
          cases h1:ZG ρ a with
          |none=>rw[h1]at e1;cases e1
          | some o1=>cases h2:ZG ρ b with
            |none=>rw[h2]at e2;cases e2
            | some o2=>
              rw[h1]at e1;rw[h2]at e2;have e1:o1=some i:=e1;have e2:o2=some i:=e2;subst e1 e2;exact hi _ _ _ h1 h2)
        (λa i _ e=>by
          cases h1:ZG ρ a with
          |none=>rw[h1]at e;cases e
          |some o=>rw[h1]at e;have e:o=some i:=e;subst e;exact SE.2 (T _ _ h1))
        (λk _=>by
          rw[hWs];cases ZG ρ k with
          |none=>rfl
          |some a=>cases a<;>rfl)
      have hRx:∀a,a<A.n->(∀k,k<S.i.bs.length->ZG ρ k≠some (some a))->a∈Rx:=λa P hno=>by
        have:=hR1.mem_iff.1 (SE.2 P);rcases TU.1 this with h1|h1
        . obtain⟨k,hk1,V⟩:=List.mem_filterMap.1 h1;exfalso;cases h2:ZG ρ k with
          |none=>rw[h2]at V;cases V
          |some o=>rw[h2]at V;have V:o=some a:=V;subst V;exact hno k (SE.1 hk1) h2
        . exact h1
      have hown2:own2=(List.range A.n).map seg2:=(by rw[D.n];exact Z.own);have hDoes:=k2 H2 _ _ z y hWd hW hy;refine Y (K:=(List.range S.i.bs.length).map (sgW (Wf ρ {I with H:=H2} seg2))) (rst:=Rx.map seg2) ?_ (by rw[hown2];exact hR2) hDoes (λu K' H3 hR hle=> ?_)
      . obtain⟨hok,cs',hs',c1,rs,bl,c2,rs',hLi,hBi,h⟩:=J6 h;exact⟨_,buS A S.o bl c2 (rs++rs'),(show A.N=x.n from hs3.N),h⟩
      . obtain ⟨us,W,hd',hin,rfl,hT',rfl⟩:=hR;obtain⟨hok,cs',hs',c1,rs,bl,c2,rs',hLi,hBi,h5⟩:=J6 h;obtain⟨ib1,ib2,ib3⟩:=InstB_ix hBi;have hs3':=hs3.le hle
        -- what a number is now
        let C:=A.n;let no:=S.o.bs.length;let F:Nat->Own:=λa=>match back ρ C no a with|some i=>sgW W i|none=>if a<C then seg2 a else []
        let J:In:={H:=H3,ν:=λa=>if a<C then I.ν a else(match W (a-C)with|some w=>w.1|none=>(0,.nilIface)),n:=C+no,κ:=λc=>if c<A.c then I.κ c else(cnt (ofVH (hyS S.o) y))[c-A.c]?.getD 0,q:=A.c+(cnt (ofVH (hyS S.o) y)).length};have hW4:∀i w,W i=some w->sg ρ A.n i<J.n/\J.ν (sg ρ A.n i)=w.1/\F (sg ρ A.n i)=w.2:=λi w e=>by
          have hi':=hd' i w e;have hb:back ρ C no (sg ρ A.n i)=some i:=ZTR hi T hi';have h3:F (sg ρ A.n i)=w.2:=by show(match back ρ C no (sg ρ A.n i)with|some i=>sgW W i|none=>_)=_;rw[hb];show sgW W i=_;unfold sgW;rw[e]
          by_cases B:∃a,ZG ρ i=some (some a)
          . obtain⟨a,O⟩:=B;have M:=T i a O;rw[ZDV O]at h3|-;refine⟨by show a<A.n+_;omega,?_,h3⟩;obtain⟨w',e',e2⟩:=hin i _ (Wf_of O);rw[e]at e';cases e';show(if a<A.n then I.ν a else _)=_;rw[TG M,e2];rfl
          . have hg:sg ρ A.n i=A.n+i:=by
              unfold sg;split
              . rename_i a e2;exact absurd ⟨a,e2⟩ B
              . rfl
            rw[hg]at h3|-;refine⟨by show A.n+i<A.n+S.o.bs.length;omega,?_,h3⟩;show(if A.n+i<A.n then _ else(match W (A.n+i-A.n)with|some w=>w.1|none=>_))=_;rw[TM (by omega),Sk,e]
        have hrow:∀k,k<no->(∀n ps,S.o.bs[k]? ≠some (.cells n ps))->∀a,ZG ρ k=some (some a)->(ZG A.z a=none/\∀j d,lkO A.o a j=some d->d=.unk)/\(∃p∈newL A.r (pubS js s).r,p.1=a)/\∀c,ZG A.r a=some c->c=.dead:=λk X hno a O=>by
          have hki:=G k _ O;rcases io2 k _ (TO hki)with⟨e1,_⟩|⟨n,ps,ps',e1,e2⟩
          . obtain⟨⟨t,E,m,g1⟩,g2,g3⟩:=D.row k a (by rw[<-e1];exact TO hki) (by rw[Tf];exact O);refine⟨⟨?_,λj d e=> ?_⟩,g2,g3⟩
            . rw[D.z];exact(Z.rz _ _ g1).resolve_left (by simp)
            . rw[D.o]at e;exact(Z.ro _ _ _ _ g1 e).resolve_left (by simp)
          . exact absurd e2 (hno _ _)
        have Q:∀k n ps,S.o.bs[k]? =some (.cells n ps)->∀a,ZG ρ k=some (some a)->ZG A.z a=some n/\1<=n:=λk n ps ek a O=>by
          have hki:=G k _ O;rcases io2 k _ (TO hki)with⟨e1,e2⟩|⟨n',ps',ps'',e1,e2⟩
          . rw[ek]at e2;cases e2
          . rw[ek]at e2;cases e2;obtain⟨a',f1,f2,f3⟩:=D.cells k n ps' (by rw[<-e1];exact TO hki);rw[Tf,O]at f1;cases f1;exact⟨by rw[D.z];exact f2,f3⟩
        have hK : Kp A bl seg2 F:=λa P=>by
          cases hb:back ρ C no a with
          |none=>left;show(match back ρ C no a with|some i=>sgW W i|none=>if a<C then seg2 a else [])=_;rw[hb];exact TG P
          | some i=>
            right;obtain⟨hin',hsg⟩:=Q1 hb;have B:ZG ρ i=some (some a):=by
              by_cases B:∃a',ZG ρ i=some (some a')
              . obtain⟨a',e⟩:=B;rw[<-hsg,ZDV e];exact e
              . exfalso;have hg:sg ρ C i=C+i:=by
                  unfold sg;split
                  . rename_i a e2;exact absurd ⟨a,e2⟩ B
                  . rfl
                have:a<C:=P;omega
            by_cases U:∃n ps,S.o.bs[i]? =some (.cells n ps)
            . obtain⟨n,ps,ec⟩:=U;obtain⟨f1,f2⟩:=Q i n ps ec a B;refine⟨λc e=>(hs3.rz a c e).resolve_right (by rw[f1];simp),.inr ?_⟩;obtain⟨cs2,g1,g2⟩:=ib3 i n ps ec;rw[Tf,hsg]at g1;exact⟨cs2,g1,by rw[g2];exact f1⟩
            . obtain⟨f1,_,f3⟩:=hrow i hin' (λn ps e=>U ⟨n,ps,e⟩) a B;exact⟨f3,.inl f1⟩
        have hz:∀p∈rs++rs',p.1<A.n->ZG A.z p.1=none/\∀j d,lkO A.o p.1 j=some d->d=.unk:=λp hp M=>by
          obtain⟨k,X,hpk⟩:∃k∈rowIx S.o.vs++rowIB S.o.bs,p.1=sg ρ A.n k:=by
            rcases TU.1 hp with hp|hp
            . obtain⟨k,X,e⟩:=InstL_ix hLi p hp;exact⟨k,by simp[X],e⟩
            . obtain⟨k,X,e⟩:=ib1 p hp;exact⟨k,by simp[X],e⟩
          have hno:∀n ps,S.o.bs[k]? ≠some (.cells n ps):=λn ps e=>by
            have:=ZW.1 (show allB (λk=>match S.o.bs[k]? with|some (.cells _ _)=>false|_=>true) (rowIx S.o.vs++rowIB S.o.bs)=true from hok) k X;rw[e]at this;cases this
          by_cases B:∃a,ZG ρ k=some (some a)
          . obtain⟨a,O⟩:=B;rw[ZDV O]at hpk;rw[hpk];exact(hrow k (Tn (G k _ O) io1) hno a O).1
          . exfalso;have hg:sg ρ A.n k=A.n+k:=by
              unfold sg;split
              . rename_i a e2;exact absurd ⟨a,e2⟩ B
              . rfl
            omega
        have hbz:∀p∈bl,p.1<A.n->∃m,ZG A.z p.1=some m:=λp hp M=>by
          obtain⟨j,n,ps,e1,e2,e3⟩:=ib2 p hp;rw[Tf]at e2;by_cases B:∃a,ZG ρ j=some (some a)
          . obtain⟨a,O⟩:=B;rw[ZDV O]at e2;rw[e2];exact⟨n,(Q j n ps e1 a O).1⟩
          . exfalso;have hg:sg ρ A.n j=A.n+j:=by
              unfold sg;split
              . rename_i a e2;exact absurd ⟨a,e2⟩ B
              . rfl
            omega
        have hC:Cnt J A.c (cnt (ofVH (hyS S.o) y)):=λm j e=>by
          have M:=(TD.1 e).1;refine⟨by show A.c+m<A.c+_;omega,?_⟩;show(if A.c+m<A.c then _ else(cnt (ofVH (hyS S.o) y))[A.c+m-A.c]?.getD 0)=j;rw[TM (by omega),Sk,e];rfl
        obtain⟨v1,hs4⟩:=RS.bu (J:=J) (seg2:=F) hs3' hT' hok hLi hBi T hi rfl rfl rfl (λa P=>TG P) (λc U=>TG U) hC hW4 hK hz hbz
        -- memory,in the order of the numbers
        have hperm:∃R4,(((List.range S.o.bs.length).map (sgW W))++Rx.map seg2).flatten.Perm (((List.range J.n).map F).flatten++R4):=by
          obtain ⟨R4,_,h6⟩:=ZA6 (g:=λi=>if i<no then sgW W i else seg2 (i-no)) (K:=List.range no++Rx.map (λa=>no+a)) (N:=J.n) (seg:=F)
            (λa=>match back ρ C no a with|some i=>some i|none=>if a<C then some (no+a)else none)
            (λa b i P hb e1 e2=>by
              cases h1:back ρ C no a with
              | some i1=>
                simp only[h1]at e1;cases h2:back ρ C no b with
                | some i2=>
                  simp only[h2]at e2;rw[<-(Q1 h1).2,<-(Q1 h2).2,TJ e1,TJ e2]
                | none=>
                  simp only[h2]at e2;have:=(Q1 h1).1;split at e2
                  . have e1:=TJ e1;have e2:=TJ e2;omega
                  . cases e2
              | none=>
                simp only[h1]at e1;cases h2:back ρ C no b with
                | some i2=>
                  simp only[h2]at e2;have:=(Q1 h2).1;split at e1
                  . have e1:=TJ e1;have e2:=TJ e2;omega
                  . cases e1
                | none=>
                  simp only[h2]at e2;split at e1
                  . split at e2
                    . have e1:=TJ e1;have e2:=TJ e2;omega
                    . cases e2
                  . cases e1)
            (λa i P e=>by
              cases h1:back ρ C no a with
              | some i1=>
                simp only[h1]at e;rw[<-TJ e];exact List.mem_append_left _ (SE.2 (Q1 h1).1)
              | none=>
                simp only[h1]at e;split at e
                . rename_i M;rw[<-TJ e];refine Rf _ (SI.2 ⟨a,hRx a M (λk X ek=> ?_),rfl⟩);exact ZPx h1 k (Tn X io1) (ZDV ek)
                . cases e)
            (λa P=>by
              show(match back ρ C no a with|some i=>sgW W i|none=>if a<C then seg2 a else [])=_;cases h1:back ρ C no a with
              |some i1=>simp only[];rw[TG (Q1 h1).1]
              | none=>
                simp only[];by_cases M:a<C
                . simp only[M,if_true];rw[TM (by omega),Sk]
                . simp only[M,if_false])
          refine⟨(R4.map (λi=>if i<no then sgW W i else seg2 (i-no))).flatten,?_⟩
          . rw [show((List.range S.o.bs.length).map (sgW W)++Rx.map seg2)=(List.range no++Rx.map (λa=>no+a)).map (λi=>if i<no then sgW W i else seg2 (i-no))from ?_]
            . exact h6
            . rw[Su,RU];congr 1
              . exact Sx λi hi=>(TG (SE.1 hi)).symm
              . refine Sx λa _=> ?_;show seg2 a=if no+a<no then _ else seg2 (no+a-no)
                rw[TM (by omega),Sk]
        obtain⟨R4,hperm⟩:=hperm
        -- how it went on
        have hgo:Go s I seg H (buS A S.o bl c2 (rs++rs')) J F H3:=by
          have gB:Ext A (buS A S.o bl c2 (rs++rs')):=Ext.bu (by have:=hs4.q;show A.c<=c2;have h6:A.c+_=c2:=this;omega);have hJ:({I with H:=H2}:In).Le J:=⟨hle,by show I.n<=A.n+_;have:=hs.n;rw[D.n,hn2];omega,λa P=>by
            have P:a<I.n:=P;show(if a<A.n then I.ν a else _)=I.ν a;rw[TG (by rw[D.n,hn2,<-hs.n];exact P)],by show I.q<=A.c+_;have:=hs3.q;have h6:I.q=A.c:=this;omega,λc U=>by
            have U:c<I.q:=U;have h6:I.q=A.c:=hs3.q;show(if c<A.c then I.κ c else _)=I.κ c;rw[TG (by omega)]⟩
          refine g2.trans ⟨D.e.trans gB,λa P ho hr=> ?_,hle,hJ⟩;have ha3:a<C:=by show a<A.n;rw[D.n];exact P
          show(match back ρ C no a with|some i=>sgW W i|none=>if a<C then seg2 a else [])=seg2 a;cases hb:back ρ C no a with
          |none=>exact TG ha3
          | some i=>
            exfalso;obtain⟨hin',hsg⟩:=Q1 hb;have B:ZG ρ i=some (some a):=by
              by_cases B:∃a',ZG ρ i=some (some a')
              . obtain⟨a',e⟩:=B;rw[<-hsg,ZDV e];exact e
              . exfalso;have hg:sg ρ C i=C+i:=by
                  unfold sg;split
                  . rename_i a e2;exact absurd ⟨a,e2⟩ B
                  . rfl
                omega
            obtain⟨mr,er⟩:=gB.r;by_cases U:∃n ps,S.o.bs[i]? =some (.cells n ps)
            . obtain⟨n,ps,ec⟩:=U;obtain⟨f1,f2⟩:=Q i n ps ec a B;obtain⟨cs2,g1,g3⟩:=ib3 i n ps ec;rw[Tf,hsg]at g1;obtain⟨q,hq,hqe⟩:=ZH0 (o:=A.o) g1 (by intro e;simp only at e;rw[e]at g3;simp at g3;omega);refine ho q ?_ hqe;rw[<-D.o];exact hq
            . obtain⟨_,⟨q,hq,hqe⟩,_⟩:=hrow i hin' (λn ps e=>U ⟨n,ps,e⟩) a B;refine hr q ?_ hqe;rw[em3,YK]at hq;rw[er,em3,<-TI,YK];exact Rf _ hq
        have fin:=X _ us _ _ _ _ _ hgo h5 v1 hs4;exact λa w hh=>fin a w (ZJR hh hperm)
theorem ZOs (q:x.P=X.P){f:Nat}{p:Operand}{as:Array Operand}{ts:Array TypeId}{first cap:List Value}{vs:List Value}{cs:List CV}(A:evo l p=some (.func (.func f) first.toArray cap.toArray))(B:as.toList.mapM (evo l)=some vs)
 {L:List Spec}{k:PS->Option β}(t:∀S∈L,Enters X.P f/\FnOk X.P f S.i S.o S.f)(hs:RS x s I seg l own H)(C:VRs I cs (first++(vs++cap)))(h:callK s cs (λus s=>s.put d (packC us) k) L=some r)(E:Knt x ops Q rest s I seg l H (some d) k r):
  JL x ops Q (⟨some d,.call ⟨.value p,as,ts⟩,ty,pos,aft,none⟩::rest) l own H:=by
 cases L with
 |nil=>cases h
 |cons F L=>
 have c:Enters x.P f:=by rw[q];exact(t F (by simp)).1
 refine ZIB (xf:=x) (Kc:=λa w=>wpLs x.P x.r ops Q (⟨some d,.call ⟨.value p,as,ts⟩,ty,pos,aft,none⟩::rest) a w) (Kf:=λv a w=>wpLs x.P x.r ops Q rest a w) (lf:=λv=>(d,v)::l) (DO:=Does x.P f) (vs:=first++(vs++cap)) (k:=λus s=>s.put d (packC us) k) ?_ (λS G=>by rw[q];exact(t S G).2) hs C h ?_
 . rintro K rst own H R ⟨us,s',J,b⟩ M D N;obtain⟨u,y⟩:=Yj b;rw[show(first++(vs++cap)).toArray=first.toArray++vs.toArray++cap.toArray by simp]at D;exact ZIT c A B M D (by rw[<-J];exact u) (λv K' z O e _=>N v K' z O e)
 . intro us g s' U seg' own' z j T m n;obtain⟨u,y⟩:=Yj T;exact E _ _ _ (Ow.pack g) _ _ (j.trans (Go.st _ _ _ _ d (packC us))) y (n.put (d:=d) (ZQx m))
end
section
variable{β:Type}{r:β}{x:Cx}{X:Env}{s:PS}{I:In}{seg:Nat->Own}{l:Slots}{own:List Own}{H:Heaplet}
variable{ops:Array Oper}{Q:Exit->Act->World->Prop}{rest:List Oper}{ty:TypeId}{d:Nat}{pos:String}{aft:Array Edge}
theorem RS.cnt (hs:RS x s I seg l own H)(j:Nat):RS x ⟨s.N,s.l,s.o,s.z,s.n,s.f,s.c+1,s.r⟩ {I with κ:=upN I.κ s.c j,q:=s.c+1} seg l own H:=by
 have h:I.Le {I with κ:=upN I.κ s.c j,q:=s.c+1}:=⟨R1 _,TL _,λ_ _=>rfl,by show I.q<=s.c+1;rw[hs.q];omega,λk b=>ZY (by rw[hs.q]at b;omega)⟩;refine⟨hs.N,hs.H,hs.n,rfl,hs.own,λt c e=> ?_,hs.ze,λa o c e=> ?_,λc d=> ?_,hs.rw,hs.rz,hs.ro⟩
 . exact(hs.sl t c e).imp id fun⟨v,h1,h2⟩=>⟨v,h1,h2.mono h⟩
 . exact(hs.ce a o c e).imp id fun⟨h1,cur,T,v,h2,h3,g⟩=>⟨h1,cur,T,v,h2,h3,g.mono h⟩
 . obtain⟨h1,h2⟩:=hs.fx c d;exact⟨Sc h1,by show upN I.κ s.c j c<MAX;rw[ZY (by omega)];exact h2⟩
theorem Ext.cnt (s:PS):Ext s ⟨s.N,s.l,s.o,s.z,s.n,s.f,s.c+1,s.r⟩:=⟨rfl,⟨[],rfl⟩,⟨[],rfl⟩,⟨[],rfl,by simp⟩,TL _,⟨[],rfl⟩,RJ _,⟨[],rfl⟩⟩
theorem ZNh{op:BinOp}{a b:CV}(h:isInc s op a b=true):op=.add/\∃c m,a=.n c m/\b=.i 1/\c∈s.f:=by
 unfold isInc at h;split at h
 . rename_i c m n;simp only[TE]at h;refine⟨rfl,c,m,rfl,?_,Xu.1 h.2⟩;have h1:=h.1;cases n with
   |ofNat y=>rw[TB (show Nat.beq y 1=true from h1)];rfl
   |negSucc y=>cases h1
 . cases h
theorem ZNR (hs:RS x s I seg l own H)(b:Nat):I.Le {I with ν:=upN I.ν s.n (b,.nilIface),n:=s.n+1}:=⟨R1 _,by show I.n<=s.n+1;rw[hs.n];omega,λk h=>ZY (by rw[hs.n]at h;omega),TL _,λ_ _=>rfl⟩
theorem ZUr (hs:RS x s I seg l own H)(j:Nat):I.Le {I with κ:=upN I.κ s.c j,q:=s.c+1}:=⟨R1 _,TL _,λ_ _=>rfl,by show I.q<=s.c+1;rw[hs.q];omega,λk h=>ZY (by rw[hs.q]at h;omega)⟩
theorem ZRP (hs:RS x s I seg l own H){p q:Operand}{t u:TypeId}{a b:CV}{v w:Value}{op:BinOp}{k:PS->Option β}(h1:evo l p=some v)(g:VR I a v)(h2:evo l q=some w)(hb:VR I b w)(hi:isInc s op a b=true)(h:incr s d a k=some r)(i:Knt x ops Q rest s I seg l H (some d) k r):
 JL x ops Q (⟨some d,.binOp op t p q u,ty,pos,aft,none⟩::rest) l own H:=by
 obtain⟨rfl,c,m,rfl,rfl,j⟩:=ZNh hi;simp only[VR]at g hb;obtain⟨D,y,rfl⟩:=g;subst hb;have h:PS.put ⟨s.N,s.l,s.o,s.z,s.n,s.f,s.c+1,s.r⟩ d (.n s.c (m+1)) k=some r:=h;obtain⟨A,B⟩:=Yj h;have e:=(hs.fx c j).2;rw[y]at e;have C:w64 ((m:Int)+1)=((m+1:Nat):Int):=by rw[ZX (by omega) (by simp only[MAX]at e;omega)];simp
 refine ZB (by rw[<-hs.N];exact A) rfl (ZGn h1 h2) (i _ _ _ _ _ _ ⟨(Ext.cnt s).trans (Ext.st _ _ _),Sg.of λ_ _=>rfl,R1 _,ZUr hs _⟩ B ((hs.cnt (m+1)).put ?_));simp only[VR];exact⟨SN _,Ze _ _ _,by rw[C]⟩
theorem ZSl{c:CV}{v:Value}(d:VR I c v)(h:oneC c=true):v.oneCell'=true:=by
 cases c with
 |ag m=>cases h
 |tu m=>cases h
 |und=>cases h
 |any=>cases h
 |unk=>cases h
 |sl t m=>simp only[VR]at d;obtain⟨ao,cap,rfl⟩:=d.val;rfl
 |cl t m=>simp only[VR]at d;obtain⟨_,ao,rfl⟩:=d;rfl
 |rv t j g=>simp only[VR]at d;obtain⟨_,n,⟨⟨ao,cap,rfl⟩,_⟩,_⟩:=d;rfl
 |sv j n=>simp only[VR]at d;obtain⟨_,rfl⟩:=d;rfl
 |n c j=>simp only[VR]at d;obtain⟨h1,h2,rfl⟩:=d;rfl
 |row j=>simp only[VR]at d;obtain⟨h1,h2,a,n,c,rfl⟩:=d;rfl
 |rel t j i o=>simp only[VR]at d;obtain⟨h1,b,q,h2,rfl⟩:=d;rfl
 |oel t y=>simp only[VR]at d;rcases d with⟨_,rfl⟩|⟨z,_,b,q,cs,rfl,_⟩<;>rfl
 |orel t j y=>simp only[VR]at d;rcases d with⟨_,rfl⟩|⟨z,_,_,b,q,_,rfl⟩<;>rfl
 |clo f l m=>simp only[VR]at d;obtain⟨us,ws,rfl,_,_⟩:=d;rfl
 |ln j=>simp only[VR]at d;obtain⟨h1,rfl⟩:=d;rfl
 |bc c m j=>simp only[VR]at d;obtain⟨h1,h2,h3,rfl⟩:=d;rfl
 |ptr a o=>simp only[VR]at d;obtain⟨h1,rfl⟩:=d;rfl
 |el t y o=>simp only[VR]at d;obtain⟨b,q,cs,rfl,h2⟩:=d;rfl
 |_=>simp only[VR]at d;subst d;rfl
theorem D7:∀{m:List CV} {vs:List Value},VRs I m vs->allB oneC m=true->vs.all (·.oneCell')=true
  |[],vs,b,h=>by cases b.un0;rfl
  | c::m,vs,b,h=>by
    obtain⟨v,us,rfl,h1,h2⟩:=b.un;have h:=ZW.1 h;simp only[RN,TE];exact⟨ZSl h1 (h c (by simp)),D7 h2 (ZW.2 λa d=>h a (by simp[d]))⟩
theorem ZOI:∀(t:Ty) (y:den t),allB oneC (spC t y)=true:=λt=>by
  induction t with
  |st k=>intro y;cases k<;>rfl
  | pr a b i d=>
    intro y;refine ZW.2 λc e=> ?_;rcases TU.1 (show c∈spC a y.1++spC b y.2 from e)with h|h
    . exact ZW.1 (i _) c h
    . exact ZW.1 (d _) c h
  |_=>intro y;rfl
theorem ZMZ (t:Ty)(y:den t):XH (dV t y)=spC t y:=by cases t<;>rfl
theorem RT.one (t:Ty):(RT t).One:=λH cs y h=>by
 have h1:=(RT.cells (I:=⟨H,λ_=>(0,.nilIface),0,λ_=>0,0⟩) t y cs).1 h;have h2:=D7 h1 (ZOI t y);exact λu a=>Tm.1 h2 u a
theorem ZN1{t:Ty}{y:den t}{v:Value}(h:VR I (dV t y) v):RT t I.H v.cells.toList y/\v.cells.toList.length=szY t:=by
 have h1:=BA h (.inl (by rw[ZMZ];exact ZOI t y));rw[ZMZ]at h1;exact⟨(RT.cells t y _).2 h1,by rw[<-h1.length,ZOJ]⟩
theorem ZHL{t:Ty}:∀{cs:List CV} {k:List (den t)->Option β},oDl t cs k=some r->∃m,m.length=cs.length/\(∀(I:In) vs,VRs I cs vs->Flat I.H (RT t) (szY t) (vs.map (·.cells.toList)).flatten m/\vs.all (λu=>Nat.beq u.cells.size (szY t))=true)/\k m=some r
  |[],k,h=>⟨[],rfl,λI vs a=>by cases a.un0;exact⟨rfl,rfl⟩,h⟩
  | c::cs,k,h=>by
    obtain⟨y,h1,h⟩:=ZSn (show oD t c (λy=>oDl t cs λr=>k (y::r))=some r from h)
    obtain⟨m,h2,h3,h⟩:=ZHL h;refine⟨y::m,by simp[h2],λI vs a=> ?_,h⟩;obtain⟨v,us,rfl,b,d⟩:=a.un;obtain⟨e,g⟩:=ZN1 (h1 _ _ b);obtain⟨f,i⟩:=h3 I us d;refine⟨⟨_,_,rfl,g,e,f⟩,?_⟩;simp only[RN,TE];refine⟨?_,i⟩;rw[TR]at g;rw[g];exact Nat.beq_refl _
theorem ZJ0:∀l:List (Nat×CV),snds l=l.map (·.2)
 |[]=>rfl
 |p::l=>congrArg (p.2:: ·) (ZJ0 l)
theorem ZEy:∀{l:List (Nat×CV)} {vs:List (Nat×Value)} {i:Nat},idxOk l i=true->l.map (·.1)=vs.map (·.1)->vs=(List.range' i vs.length).zip (vs.map (·.2))
  |[],[],i,h,e=>rfl
  |[],v::vs,i,h,e=>by cases e
  |p::l,[],i,h,e=>by cases e
  | p ::l,v::vs,i,h,e=>by
    have h:(Bool.rec false (idxOk l (i+1)) (Nat.beq p.1 i):Bool)=true:=h;simp only[Tq,SA]at e;cases hb:Nat.beq p.1 i with
    |false=>rw[hb]at h;cases h
    | true=>
      rw[hb]at h;have h2:=ZEy h e.2;have h3:v.1=i:=(by rw[<-e.1];exact TB hb);simp only[TZ,S6,Tq,RO];rw[<-h2,<-h3]
theorem R_count {P : Program} {o p q : Operand} {f : FuncId} {fn : Func} {m : List UInt8} {c : UInt8} {v : Value} {ts : Array TypeId} {own : List Own} (hP : x.P = P) (hf : P.funcs[f]? = some fn) (hname : (fn.name == "runtime.NumGoroutine") = false) (hb : fn.body.isNone = true)
    (hn:Extern.findNext fn=none) (he:Extern.find fn=some Extern.BytealgCount.count) (h0:evo l o=some (.func (.func f) #[] #[])) (h1:evo l p=some v) (hs:IsSlice H RU8 1 v m) (h2:evo l q=some (.int .u8 (c.toNat:Int))):
    Runs x (.call ⟨.value o,#[p,q],ts⟩) ty l own H (.int .i64 ((cntB m c:Nat):Int)):=λρ w _ _ _ _ hρ hm=>by
  subst hP;have e3:Array.map ρ #[p,q]= #[v,.int .u8 (c.toNat:Int)]:=by simp[hρ _ _ h1,hρ _ _ h2]
  have e1:ρ o=.func (.func f) #[] #[]:=hρ _ _ h0;simp only[execOp,resolve,e1,e3,Deferred.ofValue,Sem.run_bind,Sem.run_pure,Result.andThen,invoke];have:=run_callFunc_extern hf hname hb hn he #[v,.int .u8 (c.toNat:Int)] w;rw[ZPQ hm.1 hs]at this;simpa[Result.andThen]using this
theorem R_index {P : Program} {o p q : Operand} {f : FuncId} {fn : Func} {m : List UInt8} {c : UInt8} {v : Value} {ts : Array TypeId} {own : List Own} (hP : x.P = P) (hf : P.funcs[f]? = some fn) (hname : (fn.name == "runtime.NumGoroutine") = false) (hb : fn.body.isNone = true)
    (hn:Extern.findNext fn=none) (he:Extern.find fn=some Extern.BytealgIndexByte.indexByte) (h0:evo l o=some (.func (.func f) #[] #[])) (h1:evo l p=some v) (hs:IsSlice H RU8 1 v m) (h2:evo l q=some (.int .u8 (c.toNat:Int))):
    Runs x (.call ⟨.value o,#[p,q],ts⟩) ty l own H (.int .i64 (Lib.indexByte m c)):=λρ w _ _ _ _ hρ hm=>by
  subst hP;have e3:Array.map ρ #[p,q]= #[v,.int .u8 (c.toNat:Int)]:=by simp[hρ _ _ h1,hρ _ _ h2]
  have e1:ρ o=.func (.func f) #[] #[]:=hρ _ _ h0;simp only[execOp,resolve,e1,e3,Deferred.ofValue,Sem.run_bind,Sem.run_pure,Result.andThen,invoke];have:=run_callFunc_extern hf hname hb hn he #[v,.int .u8 (c.toNat:Int)] w;rw[ZNF hm.1 hs]at this;simpa[Result.andThen]using this
theorem ZUi (g:x.P=X.P)(hs:RS x s I seg l own H){o:Operand}{f:FuncId}{n:NK}{as:Array Operand}{ts:Array TypeId}{cs:List CV}{vs:List Value}{M:List Own->Heaplet->Prop}{k:CV->Option β}(hn:NtOk X.P f n)(i:∀o' d,M o' d->Hle H d)(h0:evo l o=some (.func (.func f) #[] #[]))(b:as.toList.mapM (evo l)=some vs)(B:VRs I cs vs)(h:ntC n cs k=some r):Yl x I (.call ⟨.value o,as,ts⟩) ty l M k r:=by
  unfold ntC at h;split at h
  . rename_i a c;obtain⟨m,e,h⟩:=Zu h;obtain⟨C,us,rfl,h1,h2⟩:=B.un;obtain⟨K,D,rfl,h3,E⟩:=h2.un;cases E.un0;have h1:=e.le _ _ h1;simp only[VR]at h1 h3;subst h3;rw[hs.H]at h1;obtain⟨fn,j,t,u,v,w⟩:=hn;obtain⟨y⟩:=as
    match y,b with
    | [p,q],b=>
      have e1:evo l p=some C/\evo l q=some (.int .u8 (c.toNat:Int)):=by
        simp only[SZ,List.mapM_nil,RW,Sr,Option.pure_def]at b;obtain⟨z,e1,A,⟨F,e3,G,e4,e5⟩,e6⟩:=b;cases e4;cases e5;cases e6;exact⟨e1,e3⟩
      cases n with
      |count=>exact Yl.of (λo' d e=>R_count g j t u v w h0 e1.1 (IsSlice.mono RU8.mono (i o' d e) h1) e1.2) (by simp only[VR]) h
      |index=>exact Yl.of (λo' d e=>R_index g j t u v w h0 e1.1 (IsSlice.mono RU8.mono (i o' d e) h1) e1.2) (by simp only[VR]) h
    |[],b=>simp at b
    | [p],b=>
      exfalso;simp only[SZ,List.mapM_nil,RW,Sr,Option.pure_def]at b;obtain⟨z,e1,A,e2,e6⟩:=b;cases e2;cases e6
    | p::q::L::y,b=>
      exfalso;simp only[SZ,RW,Sr,Option.pure_def]at b;obtain⟨z,e1,A,⟨F,e3,G,⟨N,e5,O,J,e7⟩,e8⟩,e6⟩:=b;cases e7;cases e8;cases e6
  . cases h
theorem ZNG (y:EnvOk X)(g:x.P=X.P)(hs:RS x s I seg l own H){o:Op}{k:PS->Option β}(h:pop X s d o k=some r)(e:Knt x ops Q rest s I seg l H (some d) k r):JL x ops Q (⟨some d,o,ty,pos,aft,none⟩::rest) l own H:=by
 unfold pop at h;split at h
 . rename_i op T p q u;obtain⟨a,v,e1,e2,h⟩:=ZT hs h;obtain⟨b,w,i,j,h⟩:=ZT hs h;cases hi:isInc s op a b with
   |true=>rw[hi]at h;exact ZRP hs e1 e2 i j hi h e
   |false=>rw[hi]at h;exact ZJr hs rfl (ZEd g hs (λ_ _ _ q=>q) h) e
 . rename_i T p;obtain⟨a,v,e1,e2,h⟩:=ZT hs h;obtain⟨E,h⟩:=ZA h;obtain⟨A,B⟩:=ZLl h;have t:=BA e2 (.inl E);refine ZK5 e1 (by rw[<-hs.N];exact A) (λb hb=>Vd ?_);refine e _ _ _ _ _ _ ⟨Ext.new s _ d,Sg.of λa C=>ZY (St C),R1 _,ZNR hs _⟩ B ((hs.new (T:=T) (b:=b) t).put ?_);simp only[VR];exact⟨SN _,by rw[show upN I.ν s.n (b,.nilIface) s.n=(b,.nilIface)from Ze _ _ _]⟩
 . rename_i T;obtain⟨z,m,D,t,h⟩:=ZOG (I:=I) h;obtain⟨A,B⟩:=ZLl h;rw[<-g]at D;refine JL.alloc D (by rw[<-hs.N];exact A) (λb hb=>Vd ?_);refine e _ _ _ _ _ _ ⟨Ext.new s _ d,Sg.of λa C=>ZY (St C),R1 _,ZNR hs _⟩ B ((hs.new (T:=T) (b:=b) t).put ?_);simp only[VR];exact⟨SN _,by rw[show upN I.ν s.n (b,.nilIface) s.n=(b,.nilIface)from Ze _ _ _]⟩
 . rename_i f as ts;obtain⟨a,v,e1,e2,h⟩:=ZT hs h;obtain⟨cs,vs,i,j,h⟩:=ZD3 hs h;split at h
   . simp only[VR]at e2;subst e2;split at h
     . rename_i n hn;exact ZJr hs rfl (ZUi g hs (y.nt _ _ hn) (M:=AtM own H) (λo' J t=>by rw[t.2];exact R1 _) e1 i j h) e
     . exact ZOs g (first:=[]) (cap:=[]) e1 i (y.sp _) hs (by simpa using j) h e
   . simp only[VR]at e2;obtain⟨us,ws,rfl,F,G⟩:=e2;exact ZOs g e1 i (y.sp _) hs (VRs.append F (VRs.append j G)) h e
   . cases h
 . refine ZJr hs ?_ (ZEd g hs (λ_ _ _ q=>q) h) e;obtain⟨c,v,_,_⟩:=ZEd (ty:=0) (M:=AtM own H) g hs (λ_ _ _ q=>q) h;unfold pvl at h;split at h<;>first|rfl|(cases h;done)
theorem ZQv (J:x.P=X.P)(hs:RS x s I seg l own H){o:Op}{k:PS->Option β}(h:pst X s o k=some r)(K:Knt x ops Q rest s I seg l H none k r):JL x ops Q (⟨none,o,ty,pos,aft,none⟩::rest) l own H:=by
  unfold pst at h;split at h
  . rename_i T p q;obtain⟨a,v,e1,e2,h⟩:=ZT hs h;obtain⟨b,w,L,M,h⟩:=ZT hs h;cases a with
    | ptr i of=>
      have h:(match ZC X.P T with|some (_,n)=>bb (Bool.and (Nat.ble 1 n) (Bool.and (Nat.beq (XH b).length n) (allB oneC (XH b)))) (s.sto i of (XH b) k) none|none=>none)=some r:=h;split at h
      . rename_i g n t;rw[<-J]at t;obtain⟨j,h⟩:=ZA h;simp only[TE]at j;obtain⟨u,j⟩:=j;have u:=TN u;have hn:=TB j.1;have y:=BA M (.inl j.2);have D:=y.length;have h:oB (ZG s.z i) (λm=>bb (Nat.ble (of+(XH b).length) m) (ZIQ i (XH b) of s.o λO=>k ⟨s.N,s.l,O,s.z,s.n,s.f,s.c,s.r⟩) none)=some r:=h;obtain⟨m,E,h⟩:=ZU h;obtain⟨d,h⟩:=ZA h;have d:=TN d;rw[B9]at h;simp only[VR]at e2;obtain⟨_,rfl⟩:=e2;obtain⟨R,cur,V,F,G⟩:=hs.ze _ _ E;have A:=hs.sto (o:=of) E y d F G;refine JL.store i t e1 L (by rw[Yi hs R,F]) (by rw[<-hn,D,TR]) (D7 y j.2) (by rw[G,<-hn];exact d) ?_;rw[show of+n=of+w.cells.toList.length by rw[<-D,hn]];refine K ⟨s.N,s.l,entA i (XH b) of s.o,s.z,s.n,s.f,s.c,s.r⟩ _ _ undef _ _ ⟨⟨rfl,⟨[],rfl⟩,Wl _ _ _ _,⟨[],rfl,by simp⟩,TL _,⟨[],rfl⟩,TL _,⟨[],rfl⟩⟩,λW S B _=>ZY (λe=> ?_),R1 _,In.Le.refl _⟩ h A;obtain⟨q,U,C⟩:=ZDA (a:=i) (k:=of) (m:=s.o) (l:=XH b) (by intro e;rw[e]at hn;simp at hn;omega);exact B q U (C.trans e.symm)
      . cases h
    |_=>cases h
  . cases h
end
end Go.Pv
