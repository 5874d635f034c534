import Derived.Test.YtooeopogefefiaaGreatDoorOwMd
import Derived.Test.YtooeopogefefiaaGreatDoorOwMb
/-
  What is proved here: operations on rows of one's own.
-/
set_option linter.constructorNameAsVariable false
set_option linter.unusedSimpArgs false
set_option linter.unusedVariables false
namespace Go.Pv
open Go Go.Ow Go.RowKit
section
variable{β:Type}{r:β}{x:Cx}{X:Env}{s:PS}{I:In}{seg:Nat->Own}{l:Slots}{own:List Own}{H:Heaplet}
variable{ops:Array Oper}{Q:Exit->Act->World->Prop}{rest:List Oper}
theorem ZSe{os:List Operand}{k b:PS->Option β}{d:Option Nat}{o:Oper}(hs:RS x s I seg l own H)(h:pubL os s b=some r)(e:Knt x ops Q rest s I seg l H d k r)
 (f:∀s' I' seg' own' H',b s'=some r->RS x s' I' seg' l own' H'->Knt x ops Q rest s' I' seg' l H' d k r->JL x ops Q (o::rest) l own' H'):JL x ops Q (o::rest) l own H:=by
 have h:JO (ownL s os) s b=some r:=h;rw[WG]at h;exact BS (js:=ownL s os) (K:=λa w=>wpLs x.P x.r ops Q (o::rest) a w) hs (λseg' own' H' g c=>f _ _ _ _ _ h c (e.go g))
theorem ZHB (hs:RS x s I seg l own H){j n o:Nat}{t:Ty}{k:List (den t)->Option β}(h:ldN s j (n+1) o (λcs=>bb (allB oneC cs) (oDl t cs k) none)=some r)(ht:szY t=1):
    ∃m cur T,k m=some r/\m.length=n+1/\j<s.n/\seg j= [((I.ν j).1,.cells cur T (0,0))]/\((cur.toList.drop o).take (n+1)).length=n+1/\Flat I.H (RT t) 1 ((cur.toList.drop o).take (n+1)) m/\YU ((cur.toList.drop o).take (n+1)):=by
  obtain⟨cs,h,e,f⟩:=ZDi hs h;obtain⟨i,h⟩:=ZA h;obtain⟨m,p,q,h⟩:=ZHL h;obtain⟨w,cur,T,e1,e2,e3⟩:=f.resolve_left (by omega);obtain⟨g,_⟩:=q I _ e2;rw[ht]at g;have a:∀u∈(cur.toList.drop o).take (n+1),u.oneCell'=true:=by
    have:=D7 e2 i;exact λu c=>Tm.1 this u c
  have b:(((cur.toList.drop o).take (n+1)).map (·.cells.toList)).flatten=(cur.toList.drop o).take (n+1):=by
    have d:∀(L:List Value),(∀v∈L,v.oneCell'=true)->(L.map (·.cells.toList)).flatten=L:=λL=>by
      induction L with
      |nil=>intro _;rfl
      | cons v L ih=>
        intro h;have h1:v.cells.toList= [v]:=by
          have:=h v (by simp);cases v<;>first|rfl|(simp[Value.oneCell']at this;done)
        rw[Tq,Td,h1,ih λu c=>h u (by simp[c])];rfl
    exact d _ a
  rw[b]at g;exact⟨m,cur,T,h,by rw[p,e],w,e1,e3,g,a⟩
theorem ZG1{d:List Own}{P:Program}{U:Nat}{t:Ty}{b:CV}{v:Value}{k:List (den t)->Option β}(F:x.P=P)(hs:RS x s I seg l d H)(f:∀j,j<s.n->own[j]? =some (seg j))(c:VR I b v)(h:ZNC s P U t b k=some r):∃m,SrcR x H own (RT t) (szY t) U v m/\k m=some r:=by
 have A:=hs.H;unfold ZNC at h;split at h
 . rename_i e a;rw[<-F]at a;split at h
   . rename_i u m;obtain⟨q,h⟩:=Zl h;cases q;simp only[VR]at c;rw[A]at c;exact⟨m,SrcR.slice (RT.one t) a c,h⟩
   . rename_i u m;obtain⟨q,h⟩:=Zl h;cases q;simp only[VR]at c;rw[A]at c;exact⟨m,SrcR.slice (RT.one t) a c.1,h⟩
   . simp only[VR]at c;subst c;exact⟨[],SrcR.slice (RT.one t) a (IsSlice.nil _ _ _),h⟩
   . rename_i j;split at h
     . rename_i u E m G;obtain⟨q,h⟩:=Zl h;cases q;obtain⟨J,B⟩:=(hs.rw _ _ G).resolve_left (by simp);have B:RowOf I.H (RT t) 0 E (szY t) (I.ν j).2 m (seg j):=B;rw[A]at B;obtain⟨_,rfl,_⟩:=VR_row c;exact⟨m,SrcR.row j a (f j J) B,h⟩
     . cases h
   . rename_i j o n;split at h
     . rename_i N;obtain⟨g,h⟩:=ZA h;have g:=TB g;obtain⟨m,cur,T,K,C,L,p,y,z,hone⟩:=ZHB hs h g;simp only[VR]at c;obtain⟨_,rfl⟩:=c;rw[A]at z;refine⟨m,⟨_,by rw[g];exact z,hone,λw M=> ?_⟩,K⟩;have D:=(Zj M ((f j L).trans (by rw[p]))).here ((I.ν j).1,.cells cur T (0,0)) (by simp);rw[g,C];refine Src.ofSlice w a ⟨(I.ν j).1,o,none⟩ _ _ _ (by rw[y,Sd]) (λi u a=> ?_) hone;rw[add_lit];refine ZLZ D ?_;rw[Te]at a;split at a
       . rw[SR]at a;simpa using a
       . cases a
     . cases h
   . cases h
 . rename_i a;rw[<-F]at a;split at h
   . rename_i m;obtain⟨q,h⟩:=Zl h;cases q;simp only[VR]at c;subst c;exact⟨m,OL a,h⟩
   . cases h
 . cases h
theorem ZIP{a b bt:Nat}(h:a+b<=LIM)(hb:bt<=128):a+b<=maxLen/\(a+b)*bt<=140737488355328:=by
 unfold LIM at h;refine⟨by unfold maxLen;omega,?_⟩;exact TQ (Nat.mul_le_mul h hb) (by decide)
theorem Gp{own:List Own}{j:Nat}{K:Own}(h:j<own.length):(own.set j K).flatten.Perm (own.set j []++ [K]).flatten:=by
 rw[List.set_eq_take_append_cons_drop,List.set_eq_take_append_cons_drop,TG h,TG h];simp only[Ti,Td,Rj,S2,Tt,TI];exact RQ _ Ts
theorem KH{d:Nat}{t:Ty}{E:Nat}{m:List (den t)}{k:PS->Option β}(h:s.row d t E m k=some r):Nat.blt d s.N=true/\k (PS.st ⟨s.N,s.l,s.o,s.z,s.n+1,s.f,s.c,(s.n,.own t E m)::s.r⟩ d (.row s.n))=some r:=Yj (s:=⟨s.N,s.l,s.o,s.z,s.n+1,s.f,s.c,(s.n,.own t E m)::s.r⟩) h
theorem Ext.newRow (s:PS)(t:Ty)(E:Nat)(m:List (den t))(d:Nat):Ext s (PS.st ⟨s.N,s.l,s.o,s.z,s.n+1,s.f,s.c,(s.n,.own t E m)::s.r⟩ d (.row s.n)):=⟨rfl,⟨[(d,.row s.n)],rfl⟩,⟨[],rfl⟩,⟨[],rfl,by simp⟩,RJ _,⟨[],rfl⟩,TL _,⟨[(s.n,.own t E m)],rfl⟩⟩
theorem ZEn{d:Nat}{E:Nat}{m:List UInt8}{k:PS->Option β}(h:s.mrow d E m k=some r):Nat.blt d s.N=true/\k (PS.st ⟨s.N,s.l,s.o,s.z,s.n+1,s.f,s.c,(s.n,.mrk E m)::s.r⟩ d (.row s.n))=some r:=Yj (s:=⟨s.N,s.l,s.o,s.z,s.n+1,s.f,s.c,(s.n,.mrk E m)::s.r⟩) h
theorem RS.putM (hs:RS x s I seg l own H){E d:Nat}{m:List UInt8}{v:Value}{K:Own}(h:RowOfM H RU8 0 E 1 v m K):
 RS x (PS.st ⟨s.N,s.l,s.o,s.z,s.n+1,s.f,s.c,(s.n,.mrk E m)::s.r⟩ d (.row s.n)) {I with ν:=upN I.ν s.n (0,v),n:=s.n+1} (upN seg s.n K) ((d,v)::l) (own++ [K]) H:=by
 refine(hs.newRC (rc:=.mrk E m) h).put ?_;simp only[VR];obtain⟨ao,cap,e⟩:=h.val;exact⟨SN _,by rw[Ze],ao,_,cap,e⟩
theorem Go.newRC{rc:RC}{d:Nat}{v:Value}{K:Own}(hs:RS x s I seg l own H):Go s I seg H (PS.st ⟨s.N,s.l,s.o,s.z,s.n+1,s.f,s.c,(s.n,rc)::s.r⟩ d (.row s.n)) {I with ν:=upN I.ν s.n (0,v),n:=s.n+1} (upN seg s.n K) H:=
 ⟨⟨rfl,⟨[(d,.row s.n)],rfl⟩,⟨[],rfl⟩,⟨[],rfl,by simp⟩,RJ _,⟨[],rfl⟩,TL _,⟨[(s.n,rc)],rfl⟩⟩,Sg.of λa h=>ZY (St h),R1 _,ZNQ hs v⟩
theorem RS.putRow (hs:RS x s I seg l own H){t:Ty}{E d:Nat}{m:List (den t)}{v:Value}{K:Own}(h:RowOf H (RT t) 0 E (szY t) v m K):
 RS x (PS.st ⟨s.N,s.l,s.o,s.z,s.n+1,s.f,s.c,(s.n,.own t E m)::s.r⟩ d (.row s.n)) {I with ν:=upN I.ν s.n (0,v),n:=s.n+1} (upN seg s.n K) ((d,v)::l) (own++ [K]) H:=by
 refine(hs.newRow h).put ?_;simp only[VR];obtain⟨ao,cap,e,_⟩:=h.len;exact⟨SN _,by rw[Ze],ao,_,cap,e⟩
theorem Go.newRow{t:Ty}{E d:Nat}{m:List (den t)}{v:Value}{K:Own}(hs:RS x s I seg l own H):Go s I seg H (PS.st ⟨s.N,s.l,s.o,s.z,s.n+1,s.f,s.c,(s.n,.own t E m)::s.r⟩ d (.row s.n)) {I with ν:=upN I.ν s.n (0,v),n:=s.n+1} (upN seg s.n K) H:=
 ⟨Ext.newRow s t E m d,Sg.of λa h=>ZY (St h),R1 _,ZNQ hs v⟩
theorem OK{α:Type}{H:Heaplet}{R:Rep α}{size:Nat}{c a:List Value}{l b:List α}(h1:Flat H R size c l)(h2:Flat H R size a b):Flat H R size (c++a) (l++b):=Flat.append h2 h1
theorem ZTV{ty:TypeId}{d:Nat}{pos:String}{aft:Array Edge}(O:x.P=X.P)(hs:RS x s I seg l own H){p q:Operand}{T U:Nat}{a b:CV}{v w:Value}{k:PS->Option β}(h1:evo l p=some v)(C:VR I a v)(h2:evo l q=some w)(hb:VR I b w)
 (h:appS X s d T U a b k=some r)(hk:Knt x ops Q rest s I seg l H (some d) k r):JL x ops Q (⟨some d,.call ⟨.builtin .append,#[p,q],#[T,U]⟩,ty,pos,aft,none⟩::rest) l own H:=by
 unfold appS at h;split at h
 . rename_i E y;split at h
   . rename_i z sz bt J;obtain⟨A,h3⟩:=ZA h;clear h;have A:=TN A;split at h3
     . rename_i j;split at h3
       . rename_i t E' m e;obtain⟨B,L⟩:=ZA h3;clear h3;simp only[TE]at B;have e1:=TB B.1;have e2:=TB B.2;subst e1 e2;obtain⟨m2,g,D⟩:=ZG1 (own:=own) (x:=x) O hs (λj G=>Yi hs G) hb L;obtain⟨q',rfl,S,F⟩:=QQ D;obtain⟨g1,V⟩:=(hs.rw _ _ e).resolve_left (by simp);have V:RowOf I.H (RT t) 0 E' (szY t) (I.ν j).2 m (seg j):=V;rw[hs.H]at V;simp only[VR]at C;obtain⟨_,rfl,_⟩:=C;have F:PS.row ⟨s.N,s.l,s.o,s.z,s.n,s.f,s.c,(j,.dead)::s.r⟩ d t E' (m++m2) k=some r:=F;obtain⟨W,Y⟩:=KH F;obtain⟨f3,f4⟩:=ZIP S A;have hjl:j<own.length:=(by rw[hs.own];simpa using g1);rw[<-O]at y J;refine JL.app j y J h1 (Yi hs g1) V h2 g f3 f4 (TK _) (by rw[<-hs.N];exact W) (λv' K' Z=> ?_);have hs2:=(hs.setRow (c:=.dead) e (by simp) (K:=[]) trivial).putRow (d:=d) Z;have hj2:=hk _ _ _ _ _ _ (Go.trans ⟨Ext.row s j .dead,Sg.setRow,R1 _,In.Le.refl _⟩ (Go.newRow (hs.setRow (c:=.dead) e (by simp) (K:=[]) trivial))) Y hs2;exact λa w hh=>hj2 a w (hperm hh (Gp hjl))
       . rename_i E' m e;obtain⟨B,L⟩:=ZA h3;clear h3;simp only[TE]at B;have e1:=TB B.1;have e2:=TB B.2;subst e1 e2;obtain⟨m2,g,D⟩:=ZG1 (own:=own) (x:=x) (t:=.w8) O hs (λj G=>Yi hs G) hb L;obtain⟨q',rfl,S,F⟩:=QQ D;obtain⟨g1,V⟩:=(hs.rw _ _ e).resolve_left (by simp);have V:RowOfM I.H RU8 0 E' 1 (I.ν j).2 m (seg j):=V;rw[hs.H]at V;simp only[VR]at C;obtain⟨_,rfl,_⟩:=C;have F:PS.mrow ⟨s.N,s.l,s.o,s.z,s.n,s.f,s.c,(j,.dead)::s.r⟩ d E' (m++m2) k=some r:=F;obtain⟨W,Y⟩:=ZEn F;have hjl:j<own.length:=(by rw[hs.own];simpa using g1);rw[<-O]at y J;refine ZUA (HF:=H) j y J h1 (Yi hs g1) V h2 g rfl S (SM A) (TK _) (by rw[<-hs.N];exact W) (λv' K' Z=> ?_);have hs2:=(hs.setRow (c:=.dead) e (by simp) (K:=[]) trivial).putM (d:=d) Z;have hj2:=hk _ _ _ _ _ _ (Go.trans ⟨Ext.row s j .dead,Sg.setRow,R1 _,In.Le.refl _⟩ (Go.newRC (hs.setRow (c:=.dead) e (by simp) (K:=[]) trivial))) Y hs2;exact λa w hh=>hj2 a w (hperm hh (Gp hjl))
       . cases h3
     . rename_i t m;obtain⟨B,L⟩:=ZA h3;clear h3;have e2:=TB B;subst e2;obtain⟨m2,g,D⟩:=ZG1 (own:=own) (x:=x) O hs (λj G=>Yi hs G) hb L;obtain⟨M,D⟩:=ZH D;obtain⟨q',rfl,S,F⟩:=QQ D;obtain⟨W,Y⟩:=KH F;simp only[VR]at C;obtain⟨C,ao,rfl⟩:=C;rw[hs.H]at C;rw[<-O]at y J;refine ZUB (HF:=H) (H1:=H) y J h1 (RT.one t) (R1 _) C (λ_ _ h=>h) h2 g (by intro e;rw[e]at M;simp at M) rfl S (SM A) (by rw[<-hs.N];exact W) (λv' K' Z=>Vd ?_);exact hk _ _ _ _ _ _ (Go.newRow hs) Y (hs.putRow (Z.weak (TK _)))
     . rename_i j o n;split at h3
       . rename_i t n' ht;obtain⟨B,L⟩:=ZA h3;clear h3;simp only[TE]at B;have e2:=TB B.1;have e3:=TB B.2;subst e2;obtain⟨m,cur,T',L,hml,G,hseg,hlen,hfl,hone⟩:=ZHB hs L e3;obtain⟨m2,g,D⟩:=ZG1 (own:=own) (x:=x) O hs (λj G=>Yi hs G) hb L;obtain⟨M,D⟩:=ZH D;obtain⟨q',rfl,S,F⟩:=QQ D;obtain⟨W,Y⟩:=KH F;simp only[VR]at C;obtain⟨_,rfl⟩:=C;rw[hs.H]at hfl;rw[<-O]at y J;rw[e3]at J g;refine ZUC (HF:=H) (R:=RT t) j (cells:=(cur.toList.drop o).take (n'+1)) (ls:=m) y J (by rw[Yi hs G,hseg]) (by rw[hml];exact h1) hfl hone (λi u y=> ?_) h2 g (by intro e;rw[e]at M;simp at M) rfl S (SM A) (by rw[<-hs.N];exact W) (λv' K' Z=>Vd ?_)
         . rw[Te]at y;split at y
           . rw[SR]at y;simpa using y
           . cases y
         . exact hk _ _ _ _ _ _ (Go.newRow hs) Y (hs.putRow (by rw[e3];exact Z.weak (TK _)))
       . cases h3
     . split at h3
       . rename_i t ht;obtain⟨B,L⟩:=ZA h3;clear h3;have e2:=TB B;subst e2;obtain⟨m2,g,D⟩:=ZG1 (own:=own++ [[]]) (x:=x) O hs (λj G=>by rw[ST (by rw[hs.own];simpa using G)];exact Yi hs G) hb L;obtain⟨q',rfl,S,F⟩:=QQ D;obtain⟨W,Y⟩:=KH F;obtain⟨f3,f4⟩:=ZIP S A;simp only[VR]at C;subst C;rw[<-O]at y J;have hlen:own.length=s.n:=(by rw[hs.own];simp);have key:JL x ops Q (⟨some d,.call ⟨.builtin .append,#[p,q],#[T,U]⟩,ty,pos,aft,none⟩::rest) l (own++ [[]]) H:=by
          refine JL.app own.length (K:=[]) y J h1 (by simp) (RowOf.nil H (RT t) 0 E (szY t)) h2 g f3 f4 (TK _) (by rw[<-hs.N];exact W) (λv' K' Z=> ?_);have e9:(own++ [([]:Own)]).set own.length K'=own++ [K']:=(by simp);rw[e9];exact hk _ _ _ _ _ _ (Go.newRow hs) Y (hs.putRow Z)
         exact λa w hh=>key a w (hperm hh (by simp))
       . cases h3
     . cases h3
   . cases h
 . cases h
theorem ZJv:∀{l:List Value} {k:List CV->Option β},vCs l k=some r->∃m,(∀I,VRs I m l)/\k m=some r
  |[],k,h=>⟨[],λ_=>VRs.nil,h⟩
  | v::l,k,h=>by
    obtain⟨c,e,h⟩:=ZU (show oB (vC v) (λc=>vCs l λr=>k (c::r))=some r from h)
    obtain⟨m,e2,h⟩:=ZJv h;exact⟨c::m,λI=>VRs.cons (ZJw e) (e2 I),h⟩
theorem ZGr{z:Value}{t:Ty}{b:CV}{w:Value}{k:List (den t)->Option β}(hb:VR I b w)(h:zrL z t b k=some r):∃(y:den t) (n:Int),(∀H,RT t H z.cells.toList y)/\w=.int .i64 n/\∃a,a=List.replicate n.toNat y/\(0<=n/\n.toNat<=LIM)/\k a=some r:=by
 obtain⟨c,d,h⟩:=ZJv (show vCs z.cells.toList (λc=>oT t c λy=>oI b λn=>mks n y k)=some r from h)
 obtain⟨y,h,e⟩:=Je h;obtain⟨n,hn,h⟩:=Zx h;have e1:=hn.le _ _ hb;simp only[VR]at e1;obtain⟨m,e2,e3,h⟩:=Gw h;exact⟨y,n,λH=>(RT.cells t y _).2 (e.le {I with H:=H} _ (d _)),e1,m,e2,e3,h⟩
theorem ZTU{ty:TypeId}{d:Nat}{pos:String}{aft:Array Edge}(Y:x.P=X.P)(hs:RS x s I seg l own H){p q:Operand}{T U:Nat}{a b:CV}{v w:Value}{k:PS->Option β}(hi:isInt X.P U=true)(h1:evo l p=some v)(A:VR I a v)(h2:evo l q=some w)(hb:VR I b w)
 (h:appZ X s d T a b k=some r)(hk:Knt x ops Q rest s I seg l H (some d) k r):JL x ops Q (⟨some d,.call ⟨.builtin .append,#[p,q],#[T,U]⟩,ty,pos,aft,none⟩::rest) l own H:=by
 unfold appZ at h;obtain⟨kn,B⟩:=ZHr hi;rw[<-Y]at B;split at h
 . rename_i E G;split at h
   . rename_i z sz bt J;obtain⟨i,h3⟩:=ZA h;clear h;have i:=TN i;split at h3
     . rename_i j;split at h3
       . rename_i t E' m e;obtain⟨C,M⟩:=ZA h3;clear h3;simp only[TE]at C;have e1:=TB C.1;have e2:=TB C.2;subst e1 e2;obtain⟨y,n,O,u,m2,g,hn,D⟩:=ZGr hb M;obtain⟨q',rfl,L,F⟩:=QQ D;obtain⟨g1,Z⟩:=(hs.rw _ _ e).resolve_left (by simp);have Z:RowOf I.H (RT t) 0 E' (szY t) (I.ν j).2 m (seg j):=Z;rw[hs.H]at Z;simp only[VR]at A;obtain⟨_,rfl,_⟩:=A;have F:PS.row ⟨s.N,s.l,s.o,s.z,s.n,s.f,s.c,(j,.dead)::s.r⟩ d t E' (m++m2) k=some r:=F;obtain⟨R,S⟩:=KH F;subst u;have hjl:j<own.length:=(by rw[hs.own];simpa using g1);rw[<-Y]at G J;refine ZM0 (HF:=H) j G B J h1 (Yi hs g1) Z h2 O (RT.one t) g hn rfl L (SM i) (TK _) (by rw[<-hs.N];exact R) (λv' K' V=> ?_);have hs2:=(hs.setRow (c:=.dead) e (by simp) (K:=[]) trivial).putRow (d:=d) V;have hj2:=hk _ _ _ _ _ _ (Go.trans ⟨Ext.row s j .dead,Sg.setRow,R1 _,In.Le.refl _⟩ (Go.newRow (hs.setRow (c:=.dead) e (by simp) (K:=[]) trivial))) S hs2;exact λa w hh=>hj2 a w (hperm hh (Gp hjl))
       . cases h3
     . rename_i t m;obtain⟨C,M⟩:=ZA h3;clear h3;have e2:=TB C;subst e2;obtain⟨y,n,O,u,m2,g,hn,D⟩:=ZGr hb M;obtain⟨W,D⟩:=ZH D;obtain⟨q',rfl,L,F⟩:=QQ D;obtain⟨R,S⟩:=KH F;subst u;simp only[VR]at A;obtain⟨A,ao,rfl⟩:=A;rw[hs.H]at A;rw[<-Y]at G J;obtain⟨N,rfl⟩:=SJ hn.1;have hN:(N:Int).toNat=N:=rfl;rw[hN]at g hn;subst g;rw[T2]at W L;refine ZSH (HF:=H) (H1:=H) G B J h1 (RT.one t) (R1 _) A (λ_ _ h=>h) h2 O (SM W) rfl L (SM i) (by rw[<-hs.N];exact R) (λv' K' V=>Vd ?_);exact hk _ _ _ _ _ _ (Go.newRow hs) S (hs.putRow (V.weak (TK _)))
     . split at h3
       . rename_i t ht;obtain⟨C,M⟩:=ZA h3;clear h3;have e2:=TB C;subst e2;obtain⟨y,n,O,u,m2,g,hn,D⟩:=ZGr hb M;obtain⟨q',rfl,L,F⟩:=QQ D;obtain⟨R,S⟩:=KH F;subst u;simp only[VR]at A;subst A;rw[<-Y]at G J;have hlen:own.length=s.n:=(by rw[hs.own];simp);have key:JL x ops Q (⟨some d,.call ⟨.builtin .append,#[p,q],#[T,U]⟩,ty,pos,aft,none⟩::rest) l (own++ [[]]) H:=by
          refine ZM0 (HF:=H) own.length (K:=[]) G B J h1 (by simp) (RowOf.nil H (RT t) 0 E (szY t)) h2 O (RT.one t) g hn rfl L (SM i) (TK _) (by rw[<-hs.N];exact R) (λv' K' V=> ?_);have e9:(own++ [([]:Own)]).set own.length K'=own++ [K']:=(by simp);rw[e9];exact hk _ _ _ _ _ _ (Go.newRow hs) S (hs.putRow V)
         exact λa w hh=>key a w (hperm hh (by simp))
       . cases h3
     . cases h3
   . cases h
 . cases h
theorem ZTO (q:x.P=X.P)(hs:RS x s I seg l own H){ty:TypeId}{d:Nat}{pos:String}{aft:Array Edge}{T n:Nat}{ps:Array (Nat×Operand)}{cs:List (Nat×CV)}{vs:List (Nat×Value)}{k:PS->Option β}(e1:ps.toList.mapM (λp=>(evo l p.2).map (λu=>(p.1,u)))=some vs)(e2:cs.map (·.1)=vs.map (·.1))(e3:VRs I (cs.map (·.2)) (vs.map (·.2)))
 (h:bslR X s d T n cs k=some r)(v:Knt x ops Q rest s I seg l H (some d) k r):JL x ops Q (⟨some d,.buildSlice T n ps,ty,pos,aft,none⟩::rest) l own H:=by
 unfold bslR at h;split at h
 . rename_i E e;split at h
   . rename_i z F w c;split at h
     . rename_i t ht;obtain⟨f,g⟩:=ZA h;clear h;simp only[TE]at f;obtain⟨h1,h2,h3,i⟩:=f;have h1:=TB h1;subst h1;obtain⟨m,j,o,h⟩:=ZHL g;obtain⟨y,A⟩:=KH h;rw[ZJ0]at j o;obtain⟨B,C⟩:=o I _ e3;have b:0<szY t:=(Zf c).choose_spec.2.2.2.2.2;have a:cs.length=vs.length:=(by have:=congrArg List.length e2;simpa using this);have hn:=TB h3;rw[<-q]at e c;refine WO (HF:=H) (R:=RT t) (vs:=vs.map (·.2)) (ls:=m) e c ?_ C (by rw[<-hs.H];exact B) (RT.one t) (by rw[<-hn,a];simp) (by rw[j];simp[a]) i ?_ (by rw[<-hs.N];exact y) (λv' K' D=> ?_)
       . rw[e1];congr 1;simpa using ZEy h2 e2
       . have:=TN i;have g:n<=n*szY t:=Nat.le_mul_of_pos_right n b;unfold maxLen;omega
       . refine Vd ?_;exact v _ _ _ _ _ _ (Go.newRow hs) A (hs.putRow (D.weak (TK _)))
     . cases h
   . cases h
 . cases h
theorem ZUm{ty:TypeId}{d:Nat}{pos:String}{aft:Array Edge}(q:x.P=X.P)(hs:RS x s I seg l own H){p:Operand}{T:Nat}{c:CV}{v:Value}{k:PS->Option β}(h1:evo l p=some v)(u:VR I c v)(h:mkS X s d T c k=some r)(w:Knt x ops Q rest s I seg l H (some d) k r):
 JL x ops Q (⟨some d,.makeSlice T p p,ty,pos,aft,none⟩::rest) l own H:=by
 unfold mkS at h;split at h
 . rename_i E j;split at h
   . rename_i z G bt o;split at h
     . rename_i t ht;obtain⟨g,A⟩:=ZA h;clear h;simp only[TE]at g;have e1:=TB g.1;have i:=TN g.2;subst e1;obtain⟨J,B,h⟩:=ZDQ (I:=I) A;obtain⟨y,h,f⟩:=Je h;have f:=(RT.cells t y _).2 (f.le _ _ B);obtain⟨n,K,rfl,h⟩:=Wa u h;obtain⟨m,rfl,hn,h⟩:=Gw h;obtain⟨C,D⟩:=KH h;obtain⟨N,rfl⟩:=SJ hn.1;have L:N<=LIM:=(by simpa using hn.2);rw[<-q]at j o;rw[hs.H]at f;have e:=ZIP (a:=N) (b:=0) (bt:=bt) (by omega) i;refine ZUN j o h1 h1 f (RT.one t) (by have:=e.2;rw[Nat.mul_comm];simp only[SV]at this;omega) (by simpa using e.1) (by rw[<-hs.N];exact C) (λao cap K' F=>Vd ?_);exact w _ _ _ _ _ _ (Go.newRow hs) D (hs.putRow (F.weak (TK _)))
     . cases h
   . cases h
 . cases h
theorem P1{α:Type}{R:Rep α}{E size:Nat}{v:Value}{ls:List α}{K:Own}(h:RowOf H R 0 E size v ls K):SubV size v v 0 ls.length:=by
 obtain⟨cells,⟨h0,h3⟩,a,c⟩:=h;rcases h3 with⟨rfl,h3,rfl⟩|⟨b,cap,cur,rfl,rfl,_⟩
 . exact⟨⟨none,0,by rw[h3]⟩,.inl h3⟩
 . exact⟨⟨_,cap,rfl⟩,.inr ⟨b,0,ls.length,cap,cap,rfl,by simp,by omega⟩⟩
theorem ZKh{t:Ty}{b:CV}{v:Value}{k:List (den t)->Option β}(hs:RS x s I seg l own H)(a:VR I b v)(h:ZQc s t b k=some r):∃m,CSrc x H H own (RT t) (szY t) v m/\k m=some r:=by
 have c:=hs.H;unfold ZQc at h;split at h
 . rename_i j;split at h
   . rename_i u E m e;obtain⟨q,h⟩:=Zl h;cases q;obtain⟨d,g⟩:=(hs.rw _ _ e).resolve_left (by simp);have g:RowOf I.H (RT t) 0 E (szY t) (I.ν j).2 m (seg j):=g;rw[c]at g;obtain⟨_,rfl,_⟩:=VR_row a;exact⟨m,Pd (lo:=0) (hi:=(m.length:Int)) j (Yi hs d) g (by simpa using P1 g) ⟨by omega,by omega,by omega⟩ (by simp[cut]),h⟩
   . cases h
 . rename_i u m;obtain⟨q,h⟩:=Zl h;cases q;simp only[VR]at a;rw[c]at a;exact⟨m,CSrc.slice (RT.one t) (R1 _) a (λ_ _ h=>h),h⟩
 . rename_i u m;obtain⟨q,h⟩:=Zl h;cases q;simp only[VR]at a;rw[c]at a;exact⟨m,CSrc.slice (RT.one t) (R1 _) a.1 (λ_ _ h=>h),h⟩
 . simp only[VR]at a;subst a;exact⟨[],CSrc.slice (RT.one t) (R1 _) (IsSlice.nil _ _ _) (λ_ _ h=>h),h⟩
 . cases h
theorem ZMm{t:Ty}{m:List (den t)}(ht:szY t=1):∀{n:Nat} {i:Int} {k:den (arT t n)->Option β},arV t m n i k=some r->∃z,k z=some r/\0<=i/\i.toNat+n+1<=m.length/\∀{H:Heaplet} {cells:List Value},Flat H (RT t) 1 cells m->
    RT (arT t n) H ((cells.drop i.toNat).take (n+1)) z
  | 0,i,k,h=>by
    obtain⟨y,a,h⟩:=Ym (show idx m i k=some r from h)
    have g:=(TD.1 a.2).1;refine⟨y,h,a.1,by omega,λ{H cells} c=> ?_⟩;obtain⟨cs,h1,h2,h3⟩:=Flat.at c a.2
    match cs,h1,h2,h3 with
    | [u],_,h2,h3=>
      have b:=h3 0 u rfl;simp only[Sd,SV]at b;have:(cells.drop i.toNat).take (0+1)= [u]:=by
        rw[Sw (TD.1 b).1,(TD.1 b).2];rfl
      rw[this];exact h2
  | n + 1,i,k,h=>by
    obtain⟨y,a,h⟩:=Ym (show idx m i (λy=>arV t m n (i+1) λz=>k (y,z))=some r from h)
    obtain⟨z,h,h1,h2,h3⟩:=ZMm ht h;have e1:(i+1).toNat=i.toNat+1:=(by have:=a.1;omega);rw[e1]at h2 h3;refine⟨(y,z),h,a.1,by omega,λ{H cells} c=> ?_⟩;have j:=h3 c;obtain⟨cs,e,f,d⟩:=Flat.at c a.2
    match cs,e,f,d with
    | [u],e,f,d=>
      have b:=d 0 u rfl;simp only[Sd,SV]at b;have:(cells.drop i.toNat).take (n+1+1)= [u]++(cells.drop (i.toNat+1)).take (n+1):=by
        rw[Sw (TD.1 b).1,(TD.1 b).2];rfl
      rw[this];exact⟨[u],_,rfl,by rw[ht];rfl,f,j⟩
theorem ZS9{ty:TypeId}{d:Nat}{pos:String}{aft:Array Edge}(hP:x.P=X.P)(hs:RS x s I seg l own H){p q:Operand}{T U:Nat}{a b:CV}{v w:Value}{k:PS->Option β}(h1:evo l p=some v)(ha:VR I a v)(h2:evo l q=some w)(hb:VR I b w)
 (h:copS X s d T U a b k=some r)(hk:Knt x ops Q rest s I seg l H (some d) k r):JL x ops Q (⟨some d,.call ⟨.builtin .copy,#[p,q],#[T,U]⟩,ty,pos,aft,none⟩::rest) l own H:=by
 unfold copS at h;split at h
 . rename_i j;split at h
   . rename_i t E m e;obtain⟨C,h⟩:=ZA h;obtain⟨e',g,G,A⟩:=QW C;rw[<-hP]at G A;obtain⟨W,Y,h⟩:=ZKh (own:=own) (x:=x) hs hb h;obtain⟨Z,M,F,h⟩:=Kw h;obtain⟨f1,f2⟩:=Yj (s:=⟨s.N,s.l,s.o,s.z,s.n,s.f,s.c,(j,.own t E Z)::s.r⟩) h;obtain⟨g1,B⟩:=(hs.rw _ _ e).resolve_left (by simp);have B:RowOf I.H (RT t) 0 E (szY t) (I.ν j).2 m (seg j):=B;rw[hs.H]at B;obtain⟨_,rfl,_⟩:=VR_row ha;refine Ww j (lo:=0) (hi:=(m.length:Int)) G A (Yi hs g1) B h1 (by simpa using P1 B) h2 Y F M (by rw[<-hs.N];exact f1) (λK' hR=> ?_);have O:=hs.setRow (c:=.own t E Z) e (by simp) (K:=K') (by show RowOf _ _ _ _ _ _ _ _;rw[hs.H];exact hR);exact hk _ _ _ _ _ _ (Go.trans ⟨Ext.row s j _,Sg.setRow,R1 _,In.Le.refl _⟩ (Go.st _ _ _ _ d _)) f2 (O.put (by simp only[VR]))
   . cases h
 . rename_i u j g0;split at h
   . rename_i t E m e;obtain⟨C,h⟩:=ZA h;simp only[TE]at C;have:=Vz C.1;subst this;obtain⟨e',g,G,A⟩:=QW C.2;rw[<-hP]at G A;obtain⟨W,Y,h⟩:=ZKh (own:=own) (x:=x) hs hb h;obtain⟨Z,M,F,h⟩:=Kw h;obtain⟨f1,f2⟩:=Yj (s:=⟨s.N,s.l,s.o,s.z,s.n,s.f,s.c,(j,.own u E Z)::s.r⟩) h;obtain⟨g1,B⟩:=(hs.rw _ _ e).resolve_left (by simp);have B:RowOf I.H (RT u) 0 E (szY u) (I.ν j).2 m (seg j):=B;simp only[VR]at ha;obtain⟨e4,nn,hsub,⟨a1,c1,S⟩,hg0,hg1⟩:=ha;obtain⟨a2,c2,ev2,_⟩:=B.len;have hnn:nn=m.length:=(by rw[ev2]at S;simp only[Value.slice.injEq]at S;exact S.2.1.symm);subst hnn;rw[hs.H]at B;refine Ww j (lo:=g0) (hi:=(m.length:Int)) G A (Yi hs g1) B h1 (by rw[T9];exact hsub) h2 Y F M (by rw[<-hs.N];exact f1) (λK' hR=> ?_);have O:=hs.setRow (c:=.own u E Z) e (by simp) (K:=K') (by show RowOf _ _ _ _ _ _ _ _;rw[hs.H];exact hR);exact hk _ _ _ _ _ _ (Go.trans ⟨Ext.row s j _,Sg.setRow,R1 _,In.Le.refl _⟩ (Go.st _ _ _ _ d _)) f2 (O.put (by simp only[VR]))
   . cases h
 . rename_i j o n;split at h
   . rename_i E G;split at h
     . rename_i g t y A ht;obtain⟨C,h⟩:=ZA h;have C:=TB C;rw[<-hP]at G A;obtain⟨m,cur,T',h,hml,hj,D,J,hfl,hone⟩:=ZHB hs h C;obtain⟨W,Y,h⟩:=ZKh (own:=own) (x:=x) hs hb h;obtain⟨Z,rfl,F,h⟩:=Kw h;obtain⟨z,h,_,hz2,hz⟩:=ZMm C h;have h:oB (ZG s.z j) (λm=>bb (Nat.ble (o+(spC (arT t y) z).length) m) (ZIQ j (spC (arT t y) z) o s.o λow=>PS.put ⟨s.N,s.l,ow,s.z,s.n,s.f,s.c,s.r⟩ d (.i (min (W.length:Int) ((y+1:Nat):Int))) k) none)=some r:=h;obtain⟨mz,hlz,h⟩:=ZU h;obtain⟨V,h⟩:=ZA h;have V:=TN V;rw[B9]at h;obtain⟨f1,f2⟩:=Yj (s:=⟨s.N,s.l,entA j (spC (arT t y) z) o s.o,s.z,s.n,s.f,s.c,s.r⟩) h;simp only[VR]at ha;obtain⟨_,rfl⟩:=ha;obtain⟨_,cur',T'',g1,B⟩:=hs.ze _ _ hlz;rw[D]at g1;cases g1;rw[hs.H]at hfl;have hcl:o+(y+1)<=cur.size:=by
        rw[TH,TP,TR]at J;omega
       rw[C]at Y;refine ZSF (R:=RT t) (HF:=H) j G A (by rw[Yi hs hj,D]) h1 hcl h2 Y (by rw[<-hs.N];exact f1) (λcs hcs hcn=> ?_)
       -- what the cells are then
       have hl2:cs.length=(W.take (y+1)).length:=(by have:=hcs.length;rwa[Sd]at this);have hz':=hz (H:=H) (cells:=cs++((cur.toList.drop o).take (y+1)).drop cs.length) (by
        have hd:=(PG cs.length hfl).2;rw[Sd]at hd;have e1:cpy m (0:Int).toNat (W.take (((y+1:Nat):Int).toNat-(0:Int).toNat))=W.take (y+1)++m.drop cs.length:=by
         unfold cpy;simp[hl2]
        rw[e1];exact OK hcs hd)
       have L:(cs++((cur.toList.drop o).take (y+1)).drop cs.length).length=y+1:=(by rw[TF,TP,J];omega);rw[show(0:Int).toNat=0 from rfl,List.drop_zero,Tg (Nat.le_of_eq L)]at hz';have hv:VRs I (spC (arT t y) z) (cs++((cur.toList.drop o).take (y+1)).drop cs.length):=(RT.cells (I:=I) _ _ _).1 (by rw[hs.H];exact hz');have hvl:=hv.length;have hst:=hs.sto (o:=o) hlz hv V D B;have earr:cur.toList.take o++cs++cur.toList.drop (o+cs.length)=cur.toList.take o++(cs++((cur.toList.drop o).take (y+1)).drop cs.length)++cur.toList.drop (o+(cs++((cur.toList.drop o).take (y+1)).drop cs.length).length):=by
        rw[L,TI,TI,TI];congr 2;rw[List.drop_take,Sz];have:cur.toList.drop (o+cs.length)=(cur.toList.drop (o+cs.length)).take (y+1-cs.length)++(cur.toList.drop (o+cs.length)).drop (y+1-cs.length):=(RP _ _).symm;rw[Sz,show o+cs.length+(y+1-cs.length)=o+(y+1) by omega]at this;exact this
       rw[earr];refine hk _ _ _ _ _ _ (Go.trans (s2:=⟨s.N,s.l,entA j (spC (arT t y) z) o s.o,s.z,s.n,s.f,s.c,s.r⟩) ⟨⟨rfl,⟨[],rfl⟩,Wl _ _ _ _,⟨[],rfl,by simp⟩,TL _,⟨[],rfl⟩,TL _,⟨[],rfl⟩⟩,λa' ha' ho' _=>ZY (λe=> ?_),R1 _,In.Le.refl _⟩ (Go.st _ _ _ _ d _)) f2 (hst.put (by simp only[VR]));obtain⟨q,hq,hqe⟩:=ZDA (a:=j) (k:=o) (m:=s.o) (l:=spC (arT t y) z) (by intro e;rw[e]at hvl;simp at hvl;omega);exact ho' q hq (hqe.trans e.symm)
     . cases h
   . cases h
 . cases h
theorem ZUe{ty:TypeId}{d:Nat}{pos:String}{aft:Array Edge}(hP:x.P=X.P)(hs:RS x s I seg l own H){p:Operand}{T:Nat}{a:CV}{v:Value}{hi mx:Option Operand}{k:PS->Option β}(h1:evo l p=some v)(ha:VR I a v)
 (h:pvS X s d T a hi mx k=some r)(W:hi≠none)(hk:Knt x ops Q rest s I seg l H (some d) k r):JL x ops Q (⟨some d,.slice T p none hi mx,ty,pos,aft,none⟩::rest) l own H:=by
 unfold pvS at h;split at h
 . rename_i j;split at h
   . rename_i t E m e;obtain⟨U,h⟩:=ZA h;simp only[TE]at U;obtain⟨U,D⟩:=U;obtain⟨e',g,F,y⟩:=QW U;rw[<-hP]at F y;obtain⟨b,hb,h⟩:=ZDf hs h;obtain⟨hn,h⟩:=ZH h;obtain⟨Y,V⟩:=(hs.rw _ _ e).resolve_left (by simp);have V:RowOf I.H (RT t) 0 E (szY t) (I.ν j).2 m (seg j):=V;rw[hs.H]at V;obtain⟨hlt,rfl,_⟩:=VR_row ha;have h:PS.row ⟨s.N,s.l,s.o,s.z,s.n,s.f,s.c,(j,.dead)::s.r⟩ d t E (m.take b.toNat) k=some r:=h;obtain⟨f1,f2⟩:=KH h;have G:j<own.length:=(by rw[hs.own];simpa using Y);have J:own.set j (seg j)=own:=by
      apply Tp;intro q;rw[T5];split
      . rename_i hj;subst hj
        first|rw[TG G,Yi hs Y]|exact(Yi hs Y).symm
      . rfl
     have L:∀(v':Value),Runs x (.slice T p none hi mx) ty l own H v'->RowOf H (RT t) 0 E (szY t) v' (m.take b.toNat) (seg j)->JL x ops Q (⟨some d,.slice T p none hi mx,ty,pos,aft,none⟩::rest) l own H:=λv' hr hR=>by
      refine ZB (by rw[<-hs.N];exact f1) rfl hr ?_;have Z:=(hs.setRow (c:=.dead) e (by simp) (K:=[]) trivial).putRow (d:=d) hR;have hj2:=hk _ _ _ _ _ _ (Go.trans ⟨Ext.row s j .dead,Sg.setRow,R1 _,In.Le.refl _⟩ (Go.newRow (hs.setRow (c:=.dead) e (by simp) (K:=[]) trivial))) f2 Z;exact λa w hh=>hj2 a w (hperm hh (by have:=Gp (K:=seg j) G;rwa[J]at this))
     obtain⟨cells,⟨c0,c1⟩,c2,c3⟩:=V;have A:=(PG b.toNat c2).1;have i:(m.take b.toNat).length=b.toNat:=(by rw[TH];omega);have h1c:∀u∈cells.take (b.toNat*szY t),u.oneCell'=true:=λu F=>c3 u (SG F);have hbb:(b.toNat:Int)=b:=Int.toNat_of_nonneg hn.1;obtain⟨hi,rfl⟩:=Option.ne_none_iff_exists'.1 W;rcases c1 with⟨M,d2,d3⟩|⟨gg,cap,cur,M,d2,d3,d4,d5,d6,d7⟩
     . have hb0:b=0:=(by omega);subst hb0;have B:m= []:=TX.1 d2;refine L (.slice none 0 0) ?_ ⟨cells.take 0,⟨by simp[B],.inl ⟨rfl,by simp[B],d3⟩⟩,by simpa[B]using A,by simp[YU]⟩;rw[M]at h1;have:=QA (x:=x) (own:=own) (H:=H) (ty:=ty) (α:=UInt8) (R:=RU8) (m:=[]) (a:=0) (b:=0) (c:=0) (cap:=0) (v':=.slice none 0 0) (lo:=none) (hi:=some hi) (mx:=mx) F y h1 rfl hb
        (by cases mx with|none=>exact⟨none,0,rfl,rfl⟩|some o=>(obtain⟨tt,C,O⟩:=ZCe D;cases C;cases O;exact hb)) ⟨by omega,by omega,by omega⟩ ⟨none,rfl,by simp,by simp[sliced]⟩ (.inr (by simp))
       exact this
     . rw [M]at h1;have hc:∃c:Nat,(match mx with|none=>∃ao n,(I.ν j).2=.slice ao n cap/\(c:Int)=cap|some o=>∃kk,evo l o=some (.int kk (c:Int)))/\b.toNat<=c/\c<=cap:=by
        cases mx with
        |none=>exact⟨cap,⟨_,_,M,rfl⟩,by omega,TL _⟩
        |some o=>obtain⟨tt,C,O⟩:=ZCe D;cases C;cases O;exact⟨b.toNat,by rw[hbb];exact hb,TL _,by omega⟩
       obtain⟨c,S,hc2,hc3⟩:=hc;refine L (.slice (some ⟨gg,0,none⟩) b.toNat c) ?_ ⟨_,⟨A.length,.inr ⟨gg,c,cur,by rw[i],d2,d3,by rw[i];exact hc2,by omega,?_,?_⟩⟩,A,h1c⟩
       . refine QA (cap:=cap) (a:=0) (b:=b) (c:=(c:Int)) (m:=m) (R:=RT t) F y h1 rfl hb ?_ ⟨SK _,hn.1,by omega⟩ ⟨_,rfl,by omega,?_⟩ (.inr (by simp))
         . cases mx with
           |none=>obtain⟨ao,n,C,O⟩:=S;rw[M]at C;exact⟨ao,n,C,O⟩
           |some o=>exact S
         . simp[sliced]
       . exact TQ (TS _ hc3) d6
       . rw[i,<-d7,Sa,Tw];exact TS _ (by omega)
   . cases h
 . cases h
theorem ZUT (G:x.P=X.P)(hs:RS x s I seg l own H){ty:TypeId}{d:Nat}{pos:String}{aft:Array Edge}{T n:Nat}{ps:Array (Nat×Operand)}{cs:List (Nat×CV)}{vs:List (Nat×Value)}{k:PS->Option β}(e1:ps.toList.mapM (λp=>(evo l p.2).map (λu=>(p.1,u)))=some vs)(e2:cs.map (·.1)=vs.map (·.1))(e3:VRs I (cs.map (·.2)) (vs.map (·.2)))
 (h:svS X s d T n cs k=some r)(J:Knt x ops Q rest s I seg l H (some d) k r):JL x ops Q (⟨some d,.buildSlice T n ps,ty,pos,aft,none⟩::rest) l own H:=by
 unfold svS at h;split at h
 . rename_i E q;split at h
   . rename_i z K C;obtain⟨D,t⟩:=ZA h;clear h;simp only[TE]at D;obtain⟨h0,h2,h3,V,w⟩:=D;have t:ZIQ s.n (snds cs) 0 s.o (λo=>PS.put ⟨s.N,s.l,o,(s.n,n)::s.z,Nat.succ s.n,s.f,s.c,s.r⟩ d (.sv s.n 0 n) k)=some r:=t;rw[B9]at t;obtain⟨M,F⟩:=Yj (s:=⟨s.N,s.l,entA s.n (snds cs) 0 s.o,(s.n,n)::s.z,s.n+1,s.f,s.c,s.r⟩) t;rw[ZJ0]at h0 F;have j:cs.length=vs.length:=(by have:=congrArg List.length e2;simpa using this);have hn:=TB h3;have w:=TN w;have hone:=D7 e3 h0;have e:∀v∈vs.map (·.2),v.cells.toList= [v]:=λv y=>by
      have:=Tm.1 hone v y;cases v<;>first|rfl|(simp[Value.oneCell']at this;done)
     have i:((vs.map (·.2)).map (·.cells.toList)).flatten=vs.map (·.2):=by
      have A:∀(L:List Value),(∀v∈L,v.cells.toList= [v])->(L.map (·.cells.toList)).flatten=L:=λL=>by
       induction L with
       |nil=>intro _;rfl
       |cons v L ih=>intro h;rw[Tq,Td,h v (by simp),ih λu q=>h u (by simp[q])];rfl
      exact A _ e
     rw[<-G]at q C;refine ZT8 (vs:=vs.map (·.2)) q C ?_ ?_ (by rw[<-hn,j];simp) (by rw[Sd];exact SM w) (by rw[<-hs.N];exact M) (λg W=>Vd ?_)
     . rw[e1];congr 1;simpa using ZEy h2 e2
     . refine Tm.2 λv y=> ?_;have:=congrArg List.length (e v y);rw[TR]at this;rw[this];rfl
     . rw[i];have O:VRs I (cs.map (·.2)) (vs.map (·.2)).toArray.toList:=(by simpa using e3);have m:=hs.new (T:=E) (b:=g) O;have B:(cs.map (·.2)).length=n:=(by simpa using hn);rw[B]at m;refine J _ _ _ _ _ _ ⟨?_,Sg.of λa R=>ZY (St R),R1 _,ZNR hs _⟩ F (m.put ?_)
       . obtain⟨S,U⟩:=Wl s.n (cs.map (·.2)) 0 s.o;exact⟨rfl,⟨[(d,.sv s.n 0 n)],rfl⟩,⟨S,U⟩,⟨[(s.n,n)],rfl,by simp⟩,RJ _,⟨[],rfl⟩,TL _,⟨[],rfl⟩⟩
       . simp only[VR];exact⟨SN _,by rw[show upN I.ν s.n (g,.nilIface) s.n=(g,.nilIface)from Ze _ _ _]⟩
   . cases h
 . cases h
theorem ZNe{P:Program}{S T:Nat}(h:ZOi P S T=true):P.underlying S=some .string/\∃e,P.underlying T=some (.slice e)/\P.underlying e=some (.int .u8)/\elT P T=e:=by
 unfold ZOi at h;split at h
 . rename_i e h1 h2;split at h
   . rename_i h3;exact⟨h1,e,h2,h3,by unfold elT;rw[h2]⟩
   . cases h
 . cases h
theorem ZNi{P:Program}{S T:Nat}(h:ZRL P S T=true):S=T/\∃e,P.underlying T=some (.slice e)/\P.underlying e=some (.int .u8):=by
 unfold ZRL at h;split at h
 . rename_i e h2;split at h
   . rename_i h3;exact⟨TB h,e,h2,h3⟩
   . cases h
 . cases h
theorem ZU2{ty:TypeId}{d:Nat}{pos:String}{aft:Array Edge}(R:x.P=X.P)(hs:RS x s I seg l own H){p:Operand}{S T:Nat}{a:CV}{v:Value}{k:PS->Option β}{e:Option β}(h1:evo l p=some v)(A:VR I a v)(h:cvS X s d S T a k e=some r)(U:Knt x ops Q rest s I seg l H (some d) k r)
    (V:e=some r->JL x ops Q (⟨some d,.convert S T p,ty,pos,aft,none⟩::rest) l own H):JL x ops Q (⟨some d,.convert S T p,ty,pos,aft,none⟩::rest) l own H:=by
  unfold cvS at h;split at h
  . rename_i m;cases B:ZOi X.P S T with
    |false=>rw[B]at h;exact V h
    | true=>
      rw[B]at h;obtain⟨W,Y,b,i,g4⟩:=ZNe B;have h:chk (m.length<=LIM) (s.mrow d (elT X.P T) m k)=some r:=h;obtain⟨hl,h⟩:=ZH h;obtain⟨C,u⟩:=ZEn h;rw[g4]at u;simp only[VR]at A;subst A;rw[<-R]at W b i;refine ZVa W b i h1 hl (by rw[<-hs.N];exact C) (λv K D=>Vd ?_);have F:RowOfM H RU8 0 Y 1 v m K:=by
        obtain⟨cells,⟨q1,G⟩,q3,q4⟩:=D;refine⟨cells,⟨q1,?_⟩,q3,q4⟩;rcases G with G|⟨g,cap,cur,fr,b1,b2,b3,b4,b5⟩
        . exact .inl G
        . exact .inr ⟨g,cap,cur,fr,b1,b2,b3,TK _,b5⟩
      exact U _ _ _ _ _ _ (Go.newRC hs) u (hs.putM F)
  . rename_i j;split at h
    . rename_i t E m e0;obtain⟨ho,h5⟩:=ZA h;clear h;obtain⟨rfl,Y,b,i⟩:=ZNi ho;obtain⟨q,h⟩:=Zl h5;cases q;obtain⟨J,h⟩:=ZH h;obtain⟨Z,y⟩:=(hs.rw _ _ e0).resolve_left (by simp);have y:RowOf I.H RU8 0 E 1 (I.ν j).2 m (seg j):=y;rw[hs.H]at y;obtain⟨_,rfl,_⟩:=VR_row A;have h:PS.mrow ⟨s.N,s.l,s.o,s.z,s.n,s.f,s.c,(j,.dead)::s.r⟩ d E m k=some r:=h;obtain⟨C,u⟩:=ZEn h;have L:j<own.length:=(by rw[hs.own];simpa using Z);rw[<-R]at b i;refine ZVg j b i h1 (Yi hs Z) y J (by rw[<-hs.N];exact C) (λK' D=> ?_);have M:=(hs.setRow (c:=.dead) e0 (by simp) (K:=[]) trivial).putM (d:=d) D;have O:=U _ _ _ _ _ _ (Go.trans ⟨Ext.row s j .dead,Sg.setRow,R1 _,In.Le.refl _⟩ (Go.newRC (hs.setRow (c:=.dead) e0 (by simp) (K:=[]) trivial))) u M;exact λa w hh=>O a w (hperm hh (Gp L))
    . cases h
  . exact V h
theorem ZSh{ty:TypeId}{d:Nat}{pos:String}{aft:Array Edge}(j:EnvOk X)(e:x.P=X.P)(hs:RS x s I seg l own H){o:Op}{k:PS->Option β}(h:popR X s d o k=some r)(f:Knt x ops Q rest s I seg l H (some d) k r):JL x ops Q (⟨some d,o,ty,pos,aft,none⟩::rest) l own H:=by
  unfold popR at h;split at h
  . obtain⟨a,v,e1,e2,h⟩:=ZT hs h;obtain⟨b,w,g,i,h⟩:=ZT hs h;generalize hi:isInt X.P _=bo at h;cases bo with
    |true=>exact ZTU e hs hi e1 e2 g i h f
    |false=>exact ZTV e hs e1 e2 g i h f
  . obtain⟨a,v,e1,e2,h⟩:=ZT hs h;obtain⟨b,w,g,i,h⟩:=ZT hs h;exact ZS9 e hs e1 e2 g i h f
  . obtain⟨cs,vs,e1,e2,e3,h⟩:=ZHz hs h;generalize QF X.hb d=bo at h;cases bo with
    |true=>exact ZUT e hs e1 e2 e3 h f
    |false=>exact ZTO e hs e1 e2 e3 h f
  . obtain⟨m,h2⟩:=ZA h;clear h;cases ZG6 m;obtain⟨c,v,e1,e2,h⟩:=ZT hs h2;exact ZUm e hs e1 e2 h f
  . generalize QF X.hb d=bo at h;cases bo with
    | true=>
      have h:=h;split at h
      . obtain⟨c,v,e1,e2,h⟩:=ZT hs h;exact ZJr hs rfl (ZQl e hs e1 e2 h) f
      . obtain⟨c,v,e1,e2,h⟩:=ZT hs h;exact ZUe e hs e1 e2 h (by simp) f
      . cases h
    |false=>exact ZNG j e hs h f
  . obtain⟨c,v,e1,e2,h⟩:=ZT hs h;exact ZU2 e hs e1 e2 h f (λh=>ZNG j e hs h f)
  . exact ZNG j e hs h f
theorem ZUU{ty:TypeId}{pos:String}{aft:Array Edge}(V:x.P=X.P)(hs:RS x s I seg l own H){p q:Operand}{T:Nat}{t:Ty}{j o:Nat}{g:Int}{cs:List CV}{v w:Value}{k:PS->Option β}(h1:evo l p=some v)(W:RelR I t j g o v)(h2:evo l q=some w)(hb:VRs I cs w.cells.toList)
    (h:stR X s T t j g o cs k=some r)(Y:Knt x ops Q rest s I seg l H none k r):JL x ops Q (⟨none,.store T p q,ty,pos,aft,none⟩::rest) l own H:=by
  unfold stR at h;split at h
  . rename_i u E m e;split at h
    . rename_i gg n b;rw[<-V]at b;obtain⟨F,G⟩:=ZA h;clear h;simp only[TE]at F;have e1:=Vz F.1;have e2:=TB F.2.1;have e3:=TN F.2.2;subst e1;obtain⟨R,d⟩:=(hs.rw _ _ e).resolve_left (by simp);have d:RowOf I.H (RT t) 0 E (szY t) (I.ν j).2 m (seg j):=d;rw[hs.H]at d;obtain⟨_,b',q',J,rfl⟩:=W;have a:w.cells.size=n:=(by rw[<-TR,<-hb.length];exact e2);have B:∀{K':Own} {m':List (den t)},RowOf H (RT t) 0 E (szY t) (I.ν j).2 m' K'->s.setR j (.own t E m') k=some r->JL x ops Q rest l (own.set j K') H:=λ{K' m'} i h=>by
        have h:k ⟨s.N,s.l,s.o,s.z,s.n,s.f,s.c,(j,.own t E m')::s.r⟩=some r:=h;exact Y _ _ _ undef _ _ ⟨Ext.row s j _,Sg.setRow,R1 _,In.Le.refl _⟩ h (hs.setRow (c:=.own t E m') e (by simp) (K:=K') (by show RowOf _ _ _ _ _ _ _ _;rw[hs.H];exact i))
      cases C:Bool.and (Nat.beq o 0) (Nat.beq n (szY t))with
      | true=>
        rw[C]at G;simp only[TE]at C;have Z:=TB C.1;have n0:=TB C.2;subst Z;subst n0;obtain⟨z,h,L⟩:=Je G;obtain⟨m',A,hn,h⟩:=ZA7 h;have D:=(RT.cells t z _).2 (L.le _ _ hb);rw[hs.H]at D;refine ZSA j b (Yi hs R) d h1 J h2 a D (RT.one t) A (λK' i _=>B i h)
      | false=>
        rw[C]at G;obtain⟨y,hN,h⟩:=Ym G;obtain⟨z,h,L⟩:=Je h;obtain⟨m',A,hn,h⟩:=ZA7 h;obtain⟨b2,q2,cl,cur,S,M,i,hl,hc⟩:=RowOf.elem d hN;obtain⟨rfl,rfl⟩:=J.one M;have U:=(RT.cells (I:=I) t y cl).1 (by rw[hs.H];exact i);have O:VRs I (layL (spC t y) o cs) (cl.take o++w.cells.toList++cl.drop (o+n)):=by
          unfold layL;rw[show o+cs.length=o+n by rw[e2]];exact VRs.append (VRs.append (VRs.take o U) hb) (VRs.drop (o+n) U)
        have D:=(RT.cells t z _).2 (L.le _ _ O);rw[hs.H]at D;rw[S]at d;exact ZVZ j o b (by rw[Yi hs R,S]) d h1 J h2 a hc hl D (RT.one t) e3 A (λK' i _=>B i h)
    . cases h
  . cases h
theorem ZTB{ty:TypeId}{pos:String}{aft:Array Edge}(J:x.P=X.P)(hs:RS x s I seg l own H){p:Operand}{T:Nat}{a:CV}{v:Value}{k:PS->Option β}(h1:evo l p=some v)(D:VR I a v)(h:clrS X s T a k=some r)(L:Knt x ops Q rest s I seg l H none k r):JL x ops Q (⟨none,.call ⟨.builtin .clear,#[p],#[T]⟩,ty,pos,aft,none⟩::rest) l own H:=by
 unfold clrS at h;split at h
 . rename_i u j g;split at h
   . rename_i t E m e;split at h
     . rename_i w F;split at h
       . rename_i z sz M G;obtain⟨q,O⟩:=ZA h;clear h;simp only[TE]at q;have R:=Vz q.1;have S:=TB q.2.1;have U:=TB q.2.2;subst R S U;obtain⟨zc,V,h⟩:=ZJv O;obtain⟨y,h,W⟩:=Je h;have A:∀H,RT u H z.cells.toList y:=λH=>(RT.cells u y _).2 (W.le {I with H:=H} _ (V _));obtain⟨Y,d⟩:=(hs.rw _ _ e).resolve_left (by simp);have d:RowOf I.H (RT u) 0 w (szY u) (I.ν j).2 m (seg j):=d;simp only[VR]at D;obtain⟨e4,Z,i,⟨a1,c1,b⟩,hg0,hg1⟩:=D;obtain⟨a2,c2,B,_⟩:=d.len;have C:Z=m.length:=(by rw[B]at b;simp only[Value.slice.injEq]at b;exact b.2.1.symm);subst C;rw[hs.H]at d;rw[<-J]at F G;refine ZP8 j F G (Yi hs Y) d h1 i A (RT.one u) (ms':=Ow.clr m g.toNat m.length y) (by rw[show g.toNat+(m.length-g.toNat)=m.length by omega]) (λK' hR _=> ?_);have h:k ⟨s.N,s.l,s.o,s.z,s.n,s.f,s.c,(j,.own u w (Ow.clr m g.toNat m.length y))::s.r⟩=some r:=h;exact L _ _ _ undef _ _ ⟨Ext.row s j _,Sg.setRow,R1 _,In.Le.refl _⟩ h (hs.setRow (c:=.own u w (Ow.clr m g.toNat m.length y)) e (by simp) (K:=K') (by show RowOf _ _ _ _ _ _ _ _;rw[hs.H];exact hR))
       . cases h
     . cases h
   . cases h
 . cases h
theorem ZSf{ty:TypeId}{pos:String}{aft:Array Edge}(c:x.P=X.P)(hs:RS x s I seg l own H){o:Op}{k:PS->Option β}(h:pstR X s o k=some r)(d:Knt x ops Q rest s I seg l H none k r):JL x ops Q (⟨none,o,ty,pos,aft,none⟩::rest) l own H:=by
 unfold pstR at h;split at h
 . obtain⟨a,v,e1,e2,h⟩:=ZT hs h;obtain⟨a,e2,h⟩:=ZD6 e2 h;split at h
   . obtain⟨b,w,f,e,h⟩:=ZT hs h;obtain⟨hb,h⟩:=ZA h;have g:=BA e (.inl hb);obtain⟨cs,i,h⟩:=ZJD hs g h;simp only[VR]at e2;exact ZUU c hs e1 e2 f i h d
   . exact ZQv c hs h d
 . obtain⟨a,v,e1,e2,h⟩:=ZT hs h;exact ZTB c hs e1 e2 h d
 . exact ZQv c hs h d
end
section
variable{β:Type}{r:β}{x:Cx}{X:Env}{s:PS}{I:In}{seg:Nat->Own}{l:Slots}{own:List Own}{H:Heaplet}
variable{ops:Array Oper}{Q:Exit->Act->World->Prop}{rest:List Oper}{ty:TypeId}{d:Nat}{pos:String}{aft:Array Edge}
def flagS (s:PS)(t:Nat)(c:CV)(b:Bool):PS:=match c with
 | .bc i _ _=>⟨s.N,(t,.b b)::s.l,s.o,s.z,s.n,(match b with|true=>i::s.f|false=>s.f),s.c,s.r⟩
 |_=>⟨s.N,(t,.b b)::s.l,s.o,s.z,s.n,s.f,s.c,s.r⟩
theorem ZBN (s:PS)(t:Nat)(c:CV)(b:Bool)(k:PS->Option β):flag s t c b k=k (flagS s t c b):=by
 cases c<;>cases b<;>rfl
theorem Ext.flag (s:PS)(t:Nat)(c:CV)(b:Bool):Ext s (flagS s t c b):=by
  have h1:∀m,Ext s ⟨s.N,(t,.b b)::s.l,s.o,s.z,s.n,m++s.f,s.c,s.r⟩:=λm=>⟨rfl,⟨[(t,.b b)],rfl⟩,⟨[],rfl⟩,⟨[],rfl,by simp⟩,TL _,⟨m,rfl⟩,TL _,⟨[],rfl⟩⟩;cases c with
  | bc i m n=>cases b with
    |true=>exact h1 [i]
    |false=>exact h1 []
  |_=>exact h1 []
theorem RS.flag (hs:RS x s I seg l own H){t:Nat}{c:CV}{e b:Bool}{v:Value}(h:VR I c v)(hb:CLe c (.b e))(j:e=b):RS x (flagS s t c b) I seg ((t,.bool b)::l) own H:=by
  have h0:=hs.put (d:=t) (c:=.b b) (v:=.bool b) (by simp only[VR]);have k:∀f,(∀c∈f,c<s.c/\I.κ c<MAX)->RS x ⟨s.N,(t,.b b)::s.l,s.o,s.z,s.n,f,s.c,s.r⟩ I seg ((t,.bool b)::l) own H:=λf p=>
    ⟨h0.N,h0.H,h0.n,h0.q,h0.own,h0.sl,h0.ze,h0.ce,p,h0.rw,h0.rz,h0.ro⟩
  unfold flagS;split
  . rename_i i m n;refine k _ ?_;cases b with
    |false=>exact hs.fx
    | true=>
      intro c a;rcases Ta.1 a with rfl|a
      . have h1:=hb _ _ h;simp only[VR]at h h1;obtain⟨g,u,w,y⟩:=h;rw[y]at h1;have h2:decide ((m:Int)<(n:Int))=true:=(by rw[Value.bool.inj h1,j]);have h3:=TC h2;rw[hs.q]at g;exact⟨g,by rw[u];simp only[MAX]at w|-;omega⟩
      . exact hs.fx c a
  . exact k _ hs.fx
def KntG (x:Cx)(ops:Array Oper)(Q:Exit->Act->World->Prop)(rest:List Oper)(s:PS)(I:In)(seg:Nat->Own)(H:Heaplet)(k:PS->Option β)(r:β):Prop:=
 ∀s' I' seg' l' own' H',Go s I seg H s' I' seg' H'->k s'=some r->RS x s' I' seg' l' own' H'->JL x ops Q rest l' own' H'
theorem KntG.go{s':PS}{I':In}{seg':Nat->Own}{H':Heaplet}{k:PS->Option β}(h:KntG x ops Q rest s I seg H k r)(g:Go s I seg H s' I' seg' H'):KntG x ops Q rest s' I' seg' H' k r:=
 λt J sg l o h2 a b hs=>h t J sg l o h2 (g.trans a) b hs
theorem KntG.knt{d:Option Nat}{k:PS->Option β}(h:KntG x ops Q rest s I seg H k r):Knt x ops Q rest s I seg l H d k r:=λt J sg v o h2 g a hs=>h t J sg _ o h2 g a hs
theorem ZGZ (g:EnvOk X)(e:x.P=X.P)(hs:RS x s I seg l own H){a:Option Nat}{o:Op}{k:PS->Option β}(h:popD X s a o k=some r)(i:Knt x ops Q rest s I seg l H a k r):JL x ops Q (⟨a,o,ty,pos,aft,none⟩::rest) l own H:=by
 refine ZSe hs h i (λs' I' seg' own' H' f b c=> ?_);cases a with
 |some d=>exact ZSh g e b f c
 |none=>exact ZSf e b f c
theorem Go.flag (s:PS)(I:In)(seg:Nat->Own)(H:Heaplet)(t:Nat)(c:CV)(b:Bool):Go s I seg H (flagS s t c b) I seg H:=by
 refine⟨Ext.flag s t c b,?_,R1 _,In.Le.refl _⟩;exact Sg.of λ_ _=>rfl
theorem ZRW (B:EnvOk X)(C:x.P=X.P)(hs:RS x s I seg l own H){o:Oper}{k:PS->Option β}(h:gop X ops.toList s o k=some r)(z:KntG x ops Q rest s I seg H k r):JL x ops Q (o::rest) l own H:=by
  obtain⟨a,op,ty,pos,aft,g⟩:=o;unfold gop at h;cases g with
  |none=>exact ZGZ B C hs h z.knt
  | some g=>
    obtain⟨g,b⟩:=g;obtain⟨t,e1,h⟩:=ZU h;obtain⟨q,e2,e3⟩:=ZU e1;obtain⟨c,e4,h⟩:=ZU h;have A:ops[g]? =some q:=(by simpa using e2);have i:∀{s':PS} {I':In} {seg':Nat->Own} {l':Slots} {own':List Own} {H':Heaplet},RS x s' I' seg' l' own' H'->Go s I seg H s' I' seg' H'->skp s' a k=some r->((∃D,lk l' t=some (.bool D)/\(D==b)=false)\/lk l' t=some undef)->JL x ops Q (⟨a,op,ty,pos,aft,some (g,b)⟩::rest) l' own' H':=by
      intro s' I' seg' l' own' H' f m u E;cases a with
      |none=>cases u
      | some d=>
        obtain⟨w,p⟩:=Yj (show s'.put d .und k=some r from u)
        have G:Nat.blt d x.n=true:=(by rw[<-f.N];exact w);have j:=z _ _ _ _ _ _ (m.trans (Go.st _ _ _ _ _ _)) p (f.put (v:=undef) (by simp only[VR]));rcases E with⟨D,F,K⟩|F
        . exact ZOD A e3 F K G j
        . exact ZPB A e3 F G j
    rcases hs.sl _ _ e4 with rfl|⟨v,w,p⟩
    . obtain⟨e,_,h⟩:=Gu (show oBo .unk _=some r from h)
      cases(show(oBo CV.unk (λ_=>some r))=some r from by first|rfl|(cases ‹oBo _ _=_›))
    . have y:c≠.und->∀(h:oBo c (λe=>cond e (flag s t c true λs=>Bool.rec (skp s a k) (popD X s a op k) b) (flag s t c false λs=>Bool.rec (popD X s a op k) (skp s a k) b))=some r),JL x ops Q (⟨a,op,ty,pos,aft,some (g,b)⟩::rest) l own H:=by
        intro _ h;obtain⟨e,hb,h⟩:=Gu h;have J:=hb.le _ _ p;simp only[VR]at J;subst J;rcases G8 h with⟨m,h⟩|⟨m,h⟩
        . rw[ZBN]at h;refine ZE9 w (λ_=> ?_) (λq=>by rw[m]at q;cases q);have f:=hs.flag (t:=t) p hb.le m;cases b with
          |true=>exact ZGp A e3 (by simp[lk]) (ZGZ B C f h (z.go (Go.flag _ _ _ _ _ _ _)).knt)
          |false=>exact i f (Go.flag _ _ _ _ _ _ _) h (.inl ⟨true,by simp[lk],rfl⟩)
        . rw[ZBN]at h;refine ZE9 w (λq=>by rw[m]at q;cases q) (λ_=> ?_);have f:=hs.flag (t:=t) p hb.le m;cases b with
          |false=>exact ZGp A e3 (by simp[lk]) (ZGZ B C f h (z.go (Go.flag _ _ _ _ _ _ _)).knt)
          |true=>exact i f (Go.flag _ _ _ _ _ _ _) h (.inl ⟨false,by simp[lk],rfl⟩)
      cases c with
      |und=>simp only[VR]at p;subst p;exact i hs (Go.refl _ _ _ _) h (.inr w)
      |_=>exact y (by simp) h
theorem ZOS (c:EnvOk X)(d:x.P=X.P):∀{rest:List Oper} {s:PS} {I:In} {seg:Nat->Own} {l:Slots} {own:List Own} {H:Heaplet} {k:PS->Option β},RS x s I seg l own H->pops X ops.toList rest s k=some r->
    (∀s' I' seg' l' own' H',Go s I seg H s' I' seg' H'->k s'=some r->RS x s' I' seg' l' own' H'->JN x (Q .normal) l' own' H')->JL x ops Q rest l own H
  |[],s,I,seg,l,own,H,k,hs,h,a=>JL.nil (a _ _ _ _ _ _ (Go.refl _ _ _ _) h hs)
  | o::rest,s,I,seg,l,own,H,k,hs,h,a=>
    ZRW c d hs (show gop X ops.toList s o (λs=>pops X ops.toList rest s k)=some r from h) (λs' I' seg' l' own' H' g e b=>ZOS c d b e (λt J sg f i H2 j=>a t J sg f i H2 (g.trans j)))
end
structure Agr (s s':PS) (D:List Nat) (C:List (Nat×Nat)) (R:List Nat):Prop where
  N:s'.N=s.N
  l:∀t c,ZG s.l t=some c->t∉D->ZG s'.l t=some c
  o:∀a j c,a<s.n->lkO s.o a j=some c->(a,j)∉C->lkO s'.o a j=some c
  z:∀a m,a<s.n->ZG s.z a=some m->ZG s'.z a=some m
  n:s.n<=s'.n
  f:∀c∈s.f,c∈s'.f
  c:s.c<=s'.c
  r:∀k c,k<s.n->ZG s.r k=some c->k∉R->ZG s'.r k=some c
theorem ZGd{α:Type}:∀{m l:List (Nat×α)} {i:Nat},(∀p∈m,p.1≠i)->ZG (m++l) i=ZG l i
 |[],l,i,h=>rfl
 |p::m,l,i,h=>by rw[RI,ZE,TM (h p (by simp)),ZGd λq a=>h q (by simp[a])]
theorem ZOb{α:Type}:∀{m l:List ((Nat×Nat)×α)} {i j:Nat},(∀p∈m,p.1≠(i,j))->lkO (m++l) i j=lkO l i j
 |[],l,i,j,h=>rfl
 |p::m,l,i,j,h=>by rw[RI,ZAD,TM (h p (by simp)),ZOb λq a=>h q (by simp[a])]
theorem ZQ7{l:List (Nat×Nat)}{a o:Nat}:memP l a o=true↔(a,o)∈l:=by
  induction l with
  |nil=>simp[memP]
  | cons p l ih=>
    obtain⟨b,q⟩:=p;show(Bool.rec (memP l a o) (Bool.rec (memP l a o) true (Nat.beq q o)) (Nat.beq b a):Bool)=true↔_;by_cases h:b=a
    . rw[show Nat.beq b a=true from by simpa using h];by_cases h2:q=o
      . rw[show Nat.beq q o=true from by simpa using h2];simp[h,h2]
      . rw[V7 h2];simp only[ih,Ta,SD];exact⟨.inr,λk=>k.resolve_left (λe=>h2 e.2.symm)⟩
    . rw[V7 h];simp only[ih,Ta,SD];exact⟨.inr,λk=>k.resolve_left (λe=>h e.1.symm)⟩
theorem Agr.ext{s s':PS}{D:List Nat}{C:List (Nat×Nat)}{R:List Nat}(h:Ext s s')(h1:okT s s' D=true)(h2:okC s s' C R=true):Agr s s' D C R:=by
 obtain⟨m,e⟩:=h.l;obtain⟨B,u⟩:=h.o;obtain⟨E,x,y⟩:=h.z;obtain⟨F,A⟩:=h.f;obtain⟨mr,v⟩:=h.r;have d:=h2;unfold okC at d;simp only[TE]at d;obtain⟨h2,h3⟩:=d;refine⟨h.N,λt c b ht=> ?_,λa j c w b hn=> ?_,λa k w i=> ?_,h.n,λc b=>by rw[A];exact Rf _ b,h.c,λk c i b hn=> ?_⟩
 . rw[e,ZGd λp g q=> ?_]
   . exact b
   . have:=ZW.1 h1 p (by rw[e,YK];exact g);rw[q,b]at this;exact ht (Xu.1 this)
 . rw[u,ZOb λp g q=> ?_]
   . exact b
   . have:=ZW.1 h2 p (by rw[u,YK];exact g);rw[q]at this;have hb:Nat.blt a s.n=true:=SM w;have this:(Bool.rec true (memP C a j) (Nat.blt a s.n):Bool)=true:=this;rw[hb]at this;exact hn (ZQ7.1 this)
 . rw[x,ZGd λp g q=> ?_]
   . exact i
   . have:=y p g;omega
 . rw[v,ZGd λp g q=> ?_]
   . exact b
   . have:=ZW.1 h3 p (by rw[v,YK];exact g);rw[q]at this;have hb:Nat.blt k s.n=true:=SM i;have this:(Bool.rec true (QF R k) (Nat.blt k s.n):Bool)=true:=this;rw[hb]at this;exact hn (Xu.1 this)
theorem ZOV{I J:In}{c:CV}{v:Value}(h:VR I c v):VR J (old1 c) v:=by
 cases c<;>simp only[old1,VR]at h|-<;>exact h
theorem ZOa{I J:In}:∀{l:List CV} {vs:List Value},VRs I l vs->VRs J (mapC l) vs
  |[],vs,h=>by cases h.un0;exact VRs.nil
  | c::l,vs,h=>by
    obtain⟨v,us,rfl,h1,h2⟩:=h.un;exact VRs.cons (ZOV h1) (ZOa h2)
theorem ZOU{I J:In}{c:CV}{v:Value}(h:VR I c v):VR J (oldC c) v:=by
  cases c with
  | tu l=>
    simp only[VR]at h;obtain⟨vs,rfl,h⟩:=h;show VR J (.tu (mapC l)) _;simp only[VR];exact⟨vs,rfl,ZOa h⟩
  |_=>exact ZOV h
section
variable{β:Type}{r:β}{x:Cx}{X:Env}{s q:PS}{I I0:In}{seg seg0:Nat->Own}{l:Slots}{own own0:List Own}{H H0:Heaplet}
variable{ops:Array Oper}{Q:Exit->Act->World->Prop}{rest:List Oper}{ty:TypeId}{d:Nat}{pos:String}{aft:Array Edge}
structure DR (x:Cx) (s q:PS) (I0:In) (seg0:Nat->Own) (n0:Nat) (H0:Heaplet) (I:In) (seg:Nat->Own) (l:Slots) (own:List Own) (H:Heaplet):Prop where
  fs:RS x s I seg l own H
  fq:RS x q I0 seg0 l ((List.range n0).map seg0) H0
  fle:n0<=s.n
  fseg:∀a,a<n0->seg a=seg0 a
  fH:Hle H0 H
  fI:I0.Le I
  fn:q.n=n0
theorem DR.put{n0:Nat}(h:DR x s q I0 seg0 n0 H0 I seg l own H){c c0:CV}{v:Value}(h1:VR I c v)(h2:VR I0 c0 v):DR x (s.st d c) (q.st d c0) I0 seg0 n0 H0 I seg ((d,v)::l) own H:=
 ⟨h.fs.put h1,h.fq.put h2,h.fle,h.fseg,h.fH,h.fI,h.fn⟩
theorem WU{l:Array Bool}{i:Nat}(h:ZEa ops l i=true):Take ops l i (l.setIfInBounds i true):=by
 unfold ZEa at h;simp only[TE]at h;exact⟨h.1,h.2,rfl⟩
theorem ZNg{R:List Nat}{i:Nat}(h:isOne R i=true):R= [i]:=by
 unfold isOne at h;split at h
 . rw[TB h]
 . cases h
theorem ZQT:∀{l:List (Nat×CV)} {t:Nat} {c:CV},ZG (wkL l) t=some c->∃c0,ZG l t=some c0/\c=wk1 c0
  |[],t,c,h=>by cases h
  | p::l,t,c,h=>by
    rw[show wkL (p::l)=(p.1,wk1 p.2)::wkL l from rfl,ZE]at h;rw[ZE];by_cases q:p.1=t
    . rw[TG q]at h|-;cases h;exact⟨_,rfl,rfl⟩
    . rw[TM q]at h|-;exact ZQT h
theorem ZUS{I J:In}(b:J.H=I.H)(d:J.q=I.q)(a:J.κ=I.κ){c:CV}{v:Value}(h:VR I c v):VR J (wk1 c) v:=by
 cases c<;>first|exact h|trivial|skip
 . simp only[wk1,VR]at h|-;rw[d,a];exact h
 . simp only[wk1,VR]at h|-;rw[d,a];exact h
 . simp only[wk1,VR]at h|-;rw[b];exact h
 . simp only[wk1,VR]at h|-;rw[b];exact h
 . simp only[wk1,VR]at h|-;unfold ElR at h|-;rw[b];exact h
 . simp only[wk1,VR]at h|-;unfold ElR at h|-;rw[b];exact h
theorem RS.wk (hs:RS x s I seg l own H):RS x ⟨s.N,wkL s.l,[],[],0,s.f,s.c,[]⟩ {I with n:=0} seg l [] H:=by
 refine⟨hs.N,hs.H,rfl,hs.q,rfl,λt c e=> ?_,λa m e=>(by cases e),λa o c e=>(by cases e),hs.fx,λk c e=>(by cases e),λk c e=>(by cases e),λk c j d e=>(by cases e)⟩;obtain⟨c0,e1,rfl⟩:=ZQT e;rcases hs.sl t c0 e1 with rfl|⟨v,b,g⟩
 . exact .inl rfl
 . exact .inr ⟨v,b,ZUS (I:=I) (J:={I with n:=0}) rfl rfl rfl g⟩
theorem ZUF{k:PS->Option β}:q.wk k=k ⟨q.N,wkL q.l,[],[],0,q.f,q.c,[]⟩:=XS _ _
theorem ZOH:∀{l:List (Nat×CV)} {t:Nat},ZG (wkL l) t=(ZG l t).map wk1
  |[],t=>rfl
  | p::l,t=>by
    rw[show wkL (p::l)=(p.1,wk1 p.2)::wkL l from rfl,ZE,ZE];by_cases h:p.1=t
    . rw[TG h,TG h];rfl
    . rw[TM h,TM h];exact ZOH
theorem ZRY{c:CV}(h:fullC (wk1 c)=true):fullC c=true:=by
 cases c<;>first|exact h|rfl|(cases h;done)
theorem ZTW{os:List Operand}(h:allQ ⟨q.N,wkL q.l,[],[],0,q.f,q.c,[]⟩ os=true):allQ q os=true:=by
  refine ZW.2 λo a=> ?_;have:=ZW.1 h o a;cases o with
  | tmp t=>
    simp only[ZOH]at this|-;cases e:ZG q.l t with
    |none=>rw[e]at this;cases this
    |some c=>rw[e]at this;exact ZRY this
  |_=>rfl
abbrev SO (seg0:Nat->Own)(T:List Nat)(l:List Nat):Segs:=l.map λa=>(seg0 a,T)
theorem ZG5{seg0:Nat->Own}{T D:List Nat}(h:(T.all λt=>D.contains t)=true):∀l:List Nat,Q9 D (SO seg0 T l)=l.map seg0
  |[]=>rfl
  | a::l=>by
    show cond (T.all λt=>D.contains t) (seg0 a::Q9 D (SO seg0 T l)) (Q9 D (SO seg0 T l))=_;rw[h,ZG5 h l];rfl
theorem ZFD{seg0:Nat->Own}{T D:List Nat}(h:(T.all λt=>D.contains t)=false):∀l:List Nat,Q9 D (SO seg0 T l)= []
  |[]=>rfl
  | a::l=>by
    show cond (T.all λt=>D.contains t) (seg0 a::Q9 D (SO seg0 T l)) (Q9 D (SO seg0 T l))=_;rw[h,ZFD h l];rfl
theorem ZKO{seg0:Nat->Own}{T:List Nat}{L:Array Bool}{own:List Own}:∀l:List Nat,(∀a∈l,∃i:Nat,own[i]? =some (seg0 a))->Kept' (SO seg0 T l) L own
 |[],_=>trivial
 |a::l,h=>⟨.inr (h a (by simp)),ZKO l λb hb=>h b (by simp[hb])⟩
theorem ZNW{seg0:Nat->Own}{T:List Nat}{L:Array Bool}{own:List Own}{t:Nat}(ht:t∈T)(h:L.getD t true=true):∀l:List Nat,Kept' (SO seg0 T l) L own
 |[]=>trivial
 |a::l=>⟨.inl (List.any_eq_true.2 ⟨t,ht,h⟩),ZNW ht h l⟩
theorem Gv{seg0:Nat->Own}{T:List Nat}{i:Nat}(h:(!(QF T i))=true)(l:List Nat):ZCm (SO seg0 T l) i=true:=by
 refine Tm.2 λx b=> ?_;obtain⟨a,_,rfl⟩:=SI.1 b;have h1:QF T i=false:=by simpa using h
 have h2:i∉T:=λc=>by rw[Xu.2 c]at h1;cases h1
 simpa using h2
def Ph (I0 I1:In)(n0 nS:Nat)(T:List Nat)(L:Array Bool):Prop:=(I1=I0/\n0=nS)\/(n0=0/\∃t∈T,L.getD t true=true)
theorem ZMF{L:Array Bool}{i t:Nat}(h:L.getD t true=true):(L.setIfInBounds i true).getD t true=true:=by
 by_cases c:i=t
 . subst c;rcases SX i L.size with a|a
   . simp[a]
   . simp[Sm a]
 . rw[getD_set_ne true c];exact h
theorem ZB2{L:Array Bool}{i:Nat}:(L.setIfInBounds i true).getD i true=true:=by
 rcases SX i L.size with h|h
 . simp[h]
 . simp[Sm h]
theorem Ph.set{I0 I1:In}{n0 nS:Nat}{T:List Nat}{L:Array Bool}(i:Nat)(h:Ph I0 I1 n0 nS T L):Ph I0 I1 n0 nS T (L.setIfInBounds i true):=
 h.imp id fun⟨a,t,b,c⟩=>⟨a,t,b,ZMF c⟩
abbrev Ih (x:Cx)(ops:Array Oper)(K:Act->World->Prop)(T:List Nat)(s0:PS)(Ib:In)(sb:Nat->Own)(Hb:Heaplet)(ih:Dk β)(r:β)(I0:In)(seg0:Nat->Own)(nS:Nat)(H0:Heaplet):Prop:=
 ∀{m:Nat} {a:Array Bool} {k:List (Nat×Bool)} {s q:PS} {I1 I:In} {n0:Nat} {seg:Nat->Own} {l:Slots} {own:List Own} {H:Heaplet},ih m a k s q=some r->DR x s q I1 seg0 n0 H0 I seg l own H->Ph I0 I1 n0 nS T a->Go s0 Ib sb Hb s I seg H->JB x ops K (SO seg0 T (List.range nS)) H0 m a l own H
variable{K:Act->World->Prop}{s0:PS}{Ib I1:In}{sb:Nat->Own}{Hb:Heaplet}{n0 nS:Nat}{ih:Dk β}{T:List Nat}
theorem DR.wk{n0:Nat}(h:DR x s q I1 seg0 n0 H0 I seg l own H):DR x s ⟨q.N,wkL q.l,[],[],0,q.f,q.c,[]⟩ {I1 with n:=0} seg0 0 H0 I seg l own H:=
 ⟨h.fs,h.fq.wk,TK _,λa b=>absurd b (Tl a),h.fH,⟨h.fI.H,TK _,λk d=>absurd d (Tl k),h.fI.q,h.fI.κ⟩,rfl⟩
theorem DR.wk_le{n0:Nat}(h:DR x s q I1 seg0 n0 H0 I seg l own H):({I1 with n:=0}:In).Le I1:=⟨R1 _,TK _,λk a=>absurd a (Tl k),TL _,λ_ _=>rfl⟩
theorem ZKd (y:Reg ops)(hI:Ih x ops K T s0 Ib sb Hb ih r I0 seg0 nS H0){m i:Nat}{a:Array Bool}{z:List (Nat×Bool)}(h:DR x s q I1 seg0 n0 H0 I seg l own H)(F:Ph I0 I1 n0 nS T a)(G:Go s0 Ib sb Hb s I seg H){o:Oper}(A:ops[i]? =some o){j t:Nat}{b:Bool}(B:o.guard=some (j,b)){C:Oper}
    (D:ops[j]? =some C)(ht:C.dst=some t)(k:(∃p,lk l t=some (.bool p)/\(p==b)=false)\/lk l t=some undef)(f:bb (!(QF T i)) (dskp ops m a z s q i o.dst ih) none=some r):JB x ops K (SO seg0 T (List.range nS)) H0 m a l own H:=by
  obtain⟨hn,f⟩:=ZA f;obtain⟨h1,f⟩:=ZA f;obtain⟨u,op,ty,pos,aft,g⟩:=o;simp only at B;subst B;cases m with
  |zero=>cases f
  | succ m=>
    cases u with
    |none=>cases f
    | some d=>
      obtain⟨h2,h3⟩:=Yj (show s.put d .und (λs=>ih m (a.setIfInBounds i true) z s (q.st d .und))=some r from f)
      have E:Nat.blt d x.n=true:=(by rw[<-h.fs.N];exact h2);have e:=hI h3 (h.put (d:=d) (c:=.und) (c0:=.und) (v:=undef) (by simp only[VR]) (by simp only[VR])) (F.set i) (G.trans (Go.st _ _ _ _ _ _));rcases k with⟨p,w,J⟩|w
      . exact JB.no A D ht w J e (WU h1) (Gv hn _) E
      . exact OG A D ht w e (WU h1) (Gv hn _) E
theorem ZNu (z:x.P=X.P)(hI:Ih x ops K T s0 Ib sb Hb ih r I0 seg0 nS H0){m i:Nat}{a:Array Bool}{n:List (Nat×Bool)}{v:PS}{Iv:In}{o:Nat}(D:List Nat)(h:DR x s q I1 seg0 n0 H0 I seg l own H)(A:Ph I0 I1 n0 nS T a)(B:Go s0 Ib sb Hb s I seg H)
    (C:RS x v Iv seg0 l ((List.range o).map seg0) H0)(e:Iv.Le I1){op:Op}{ty:TypeId}{pos:String}{aft:Array Edge}{g:Option (Nat×Bool)}{d:Nat}(E:ops[i]? =some ⟨some d,op,ty,pos,aft,g⟩)(F:Wj ops l g)(h1:ZEa ops a i=true)(hn:(!(QF T i))=true)
    (G:hangs .any ops i D a=true)(hs:isMem X.P op=true->Q9 D (SO seg0 T (List.range nS))=(List.range o).map seg0)
    (b:dlk X m a n s q v i d op ih=some r):JB x ops K (SO seg0 T (List.range nS)) H0 (m+1) a l own H:=by
  obtain⟨_,b⟩:=ZA b;cases p:isMem X.P op with
  | true=>
    obtain⟨c,w,t,k,b⟩:=ZEd (ty:=ty) (M:=AtM ((List.range o).map seg0) H0) z C (λ_ _ _ u=>u) b;have f:=(ZJU c _).symm.trans b;have j:s.put d c (λs=>q.lay d c λq=>ih m (a.setIfInBounds i true) n s q)=some r:=f;obtain⟨y,b⟩:=Yj j;exact JB.val D E (by rw[hs p];exact t _ _ ⟨rfl,rfl⟩) (hI b (h.put (k.mono (e.trans h.fI)) (k.mono e)) (A.set i) (B.trans (Go.st _ _ _ _ _ _))) (WU h1) F G (Gv hn _) (by rw[<-h.fs.N];exact y)
  | false=>
    obtain⟨c,w,t,k,b⟩:=ZEd (ty:=ty) (M:=λ_ _=>True) z C (λu=>by rw[u]at p;cases p) b;have f:=(ZJU c _).symm.trans b;have j:s.put d c (λs=>q.lay d c λq=>ih m (a.setIfInBounds i true) n s q)=some r:=f;obtain⟨y,b⟩:=Yj j;exact JB.val D E (t _ _ trivial) (hI b (h.put (k.mono (e.trans h.fI)) (k.mono e)) (A.set i) (B.trans (Go.st _ _ _ _ _ _))) (WU h1) F G (Gv hn _) (by rw[<-h.fs.N];exact y)
noncomputable abbrev kE (ih:Dk β) (m:Nat) (a:Array Bool) (k:List (Nat×Bool)) (s':PS) (i:Nat) (b:Option Nat) (q:PS):Option β:=match b with
  |some d=>oB (ZG s'.l d) λc=>q.lay d (oldC c) λq=>ih m (a.setIfInBounds i true) k s' q
  |none=>ih m (a.setIfInBounds i true) k s' q
abbrev lE (a:Option Nat)(v:Value)(l:Slots):Slots:=match a with|some d=>(d,v)::l|none=>l
theorem ZMY (V:EnvOk X)(W:x.P=X.P)(hI:Ih x ops K T s0 Ib sb Hb ih r I0 seg0 nS H0){m i:Nat}{b:Array Bool}{M:List (Nat×Bool)}(h:DR x s q I1 seg0 n0 H0 I seg l own H)(F:Ph I0 I1 n0 nS T b)(Q:Go s0 Ib sb Hb s I seg H){o:Oper}(Y:ops[i]? =some o)(Z:Wj ops l o.guard)
    (R:dactE X ops T m b M s q i o ih=some r):JOB x ops K (SO seg0 T (List.range nS)) H0 m b i l own H:=by
  obtain⟨u,op,ty,pos,aft,g⟩:=o;unfold dactE at R;have J:=R;clear R;refine JOB.step Y Z rfl (λK' S=> ?_);refine ZGZ V W h.fs J (λs' I' seg' v own' H' g j w=>JL.nil ?_);clear J;have L:∀{G:PS} {C:In} {A:Nat},DR x s G C seg0 A H0 I seg l own H->(∀a,a<A->seg' a=seg0 a)->A<=s'.n->Ph I0 C A nS T (b.setIfInBounds i true)->Kept' (SO seg0 T (List.range nS)) (b.setIfInBounds i true) own'->
      kE ih m b M s' i u G=some r->JN x K' (lE u v l) own' H':=by
    intro G C A k f y D E j;cases u with
    | none=>
      have z:DR x s' G C seg0 A H0 I' seg' l own' H':=⟨w,k.fq,y,f,k.fH.trans g.H,k.fI.trans g.I,k.fn⟩;exact S _ _ _ (k.fH.trans g.H) E (hI j z D (Q.trans g))
    | some d=>
      obtain⟨c,e1,j⟩:=ZU j;rcases w.sl _ _ e1 with rfl|⟨v',f1,f2⟩
      . have z:DR x s' (G.st d (oldC .unk)) C seg0 A H0 I' seg' ((d,v)::l) own' H':=⟨w,k.fq.put (v:=v) (by show VR C .any v;simp only[VR]),y,f,k.fH.trans g.H,k.fI.trans g.I,k.fn⟩;exact S _ _ _ (k.fH.trans g.H) E (hI j z D (Q.trans g))
      . have:v'=v:=(by simpa[lk,lput]using f1.symm);subst this;have z:DR x s' (G.st d (oldC c)) C seg0 A H0 I' seg' ((d,v')::l) own' H':=⟨w,k.fq.put (ZOU f2),y,f,k.fH.trans g.H,k.fI.trans g.I,k.fn⟩;exact S _ _ _ (k.fH.trans g.H) E (hI j z D (Q.trans g))
  cases N:QF T i with
  | true=>
    rw[N]at j;have U:=show(q.wk λq=>kE ih m b M s' i u q)=some r from j;rw[ZUF]at U;clear j;have j:=U;exact L h.wk (λa B=>absurd B (Tl a)) (TK _) (.inr ⟨rfl,i,Xu.1 N,ZB2⟩) (ZNW (Xu.1 N) ZB2 _) j
  | false=>
    rw[N]at j;obtain⟨O,j⟩:=ZA j;have f:∀a,a<n0->seg' a=seg0 a:=λa B=>by
      unfold okN at O;simp only[TE]at O;rw[<-h.fseg a B];refine g.g a (Tn B h.fle) (λp F e=> ?_) (λp F e=> ?_)
      . have:=TN (ZW.1 O.1 p F);rw[h.fn,e]at this;omega
      . have:=TN (ZW.1 O.2 p F);rw[h.fn,e]at this;omega
    have y:=TQ h.fle g.e.n;refine L h f y (F.set i) ?_ (show kE ih m b M s' i u q=some r from j);rcases F with⟨_,rfl⟩|⟨_,t,ht,hL⟩
    . refine ZKO _ λa B=>⟨a,?_⟩;have B:a<n0:=(by simpa using B);rw[w.own];simp[show a<s'.n by omega,f a B]
    . exact ZNW ht (ZMF hL) _
theorem JB.many{so:Segs}{s:Heaplet}{f:Nat}{b:Array Bool}{R:List Nat}(g:Region.ready .any ops b=R)(d:R≠[])(h1:∀i∈R,JOB x ops K so s f b i l own H):
 JB x ops K so s (f+1) b l own H:=λh e j a w m=>by
 refine⟨λh0=>(by rw[g]at h0;exact absurd h0 d),λk c=> ?_⟩;rw[g]at c;exact h1 k c h e j a w m
theorem ZMW (c:EnvOk X)(d:x.P=X.P)(hI:Ih x ops K T s0 Ib sb Hb ih r I0 seg0 nS H0){m i:Nat}{a:Array Bool}{k:List (Nat×Bool)}(h:DR x s q I1 seg0 n0 H0 I seg l own H)(e:Ph I0 I1 n0 nS T a)(f:Go s0 Ib sb Hb s I seg H)
 (b:deff1 X ops T m a k s q ih i=some r):JOB x ops K (SO seg0 T (List.range nS)) H0 m a i l own H:=by
 obtain⟨o,g,b⟩:=ZU b;split at b
 . rename_i j;exact ZMY c d hI h e f g (by rw[j];trivial) b
 . cases b
theorem ZMV (d:EnvOk X)(e:x.P=X.P)(hI:Ih x ops K T s0 Ib sb Hb ih r I0 seg0 nS H0){m:Nat}{b:Array Bool}{k:List (Nat×Bool)}(h:DR x s q I1 seg0 n0 H0 I seg l own H)(f:Ph I0 I1 n0 nS T b)(g:Go s0 Ib sb Hb s I seg H):
    ∀(R:List Nat) (i:Nat),deffL X ops T m b k s q ih i R=some r->∀j∈i::R,JOB x ops K (SO seg0 T (List.range nS)) H0 m b j l own H
  | [],i,n,j,c=>by
    cases Rp.1 c;exact ZMW d e hI h f g n
  | a::R,i,n,j,c=>by
    obtain⟨h1,h2⟩:=B8 (show agree (deff1 X ops T m b k s q ih i) (deffL X ops T m b k s q ih a R)=some r from n)
    rcases Ta.1 c with rfl|c
    . exact ZMW d e hI h f g h1
    . exact ZMV d e hI h f g R a h2 j c
theorem ZKg (O : EnvOk X)(y:x.P=X.P)(E:Reg ops)(hI:Ih x ops K T s0 Ib sb Hb ih r I0 seg0 nS H0){m i:Nat}{a:Array Bool}{k:List (Nat×Bool)}{F:Bool}(h:DR x s q I1 seg0 n0 H0 I seg l own H)(j:Ph I0 I1 n0 nS T a)(z:Go s0 Ib sb Hb s I seg H){o:Oper}(A:ops[i]? =some o)(B:Wj ops l o.guard)
    (e:dact X ops T m a k s q i F o ih=some r):JB x ops K (SO seg0 T (List.range nS)) H0 m a l own H:=by
  obtain⟨n,op,ty,pos,aft,g⟩:=o;cases m with
  |zero=>cases e
  | succ m=>
    cases F with
    | false=>
      obtain⟨h1,e⟩:=ZA (show bb (isOne (Region.ready .any ops a) i) (dactE X ops T m a k s q i ⟨n,op,ty,pos,aft,g⟩ ih) none=some r from e)
      exact JB.one (ZNg h1) (ZMY O y hI h j z A B e)
    | true=>
      obtain⟨h1,e⟩:=ZA (show bb (Bool.and (ZEa ops a i) (!(QF T i))) (match n with
        | some d=>Bool.rec
          (Bool.rec (pvl X s op λc=>s.put d c λs'=>fC (oldC c) λc=>q.lay d c λq=>ih m (a.setIfInBounds i true) k s' q) (dlk X m a k s q q i d op ih) (allQ q op.operands.toList))
          (Bool.rec (q.wk λv=>dlk X m a k s q v i d op ih) (dlk X m a k s q q i d op ih) (Bool.and (allQ q op.operands.toList) (ZAQ ops T a i))) (isMem X.P op)
        |none=>none) none=some r from e)
      simp only[TE]at h1;obtain⟨h1,hn⟩:=h1;cases n with
      |none=>cases e
      | some d=>
        cases u:isMem X.P op with
        | false=>
          replace e:=show(Bool.rec (Bool.rec (pvl X s op λc=>s.put d c λs'=>fC (oldC c) λc=>q.lay d c λq=>ih m (a.setIfInBounds i true) k s' q) (dlk X m a k s q q i d op ih) (allQ q op.operands.toList))
            (Bool.rec (q.wk λv=>dlk X m a k s q v i d op ih) (dlk X m a k s q q i d op ih) (Bool.and (allQ q op.operands.toList) (ZAQ ops T a i))) (isMem X.P op):Option β)=some r from e
          rw[u]at e;cases b:allQ q op.operands.toList with
          | false=>
            rw[b]at e;obtain⟨c,v,Q,G,e⟩:=ZEd (ty:=ty) (M:=λ_ _=>True) y h.fs (λC=>by rw[C]at u;cases u) e;obtain⟨R,e⟩:=Yj e;rw[ZJU]at e;exact JB.val [] A (Q _ _ trivial) (hI e (h.put G (ZOU G)) (j.set i) (z.trans (Go.st _ _ _ _ _ _))) (WU h1) B rfl (Gv hn _) (by rw[<-h.fs.N];exact R)
          | true=>
            rw[b]at e;exact ZNu y hI [] h j z h.fq (In.Le.refl _) A B h1 hn rfl (λC=>by rw[C]at u;cases u) e
        | true=>
          replace e:=show(Bool.rec (Bool.rec (pvl X s op λc=>s.put d c λs'=>fC (oldC c) λc=>q.lay d c λq=>ih m (a.setIfInBounds i true) k s' q) (dlk X m a k s q q i d op ih) (allQ q op.operands.toList))
            (Bool.rec (q.wk λv=>dlk X m a k s q v i d op ih) (dlk X m a k s q q i d op ih) (Bool.and (allQ q op.operands.toList) (ZAQ ops T a i))) (isMem X.P op):Option β)=some r from e
          rw[u]at e;cases b:Bool.and (allQ q op.operands.toList) (ZAQ ops T a i)with
          | true=>
            rw[b]at e;simp only[TE]at b;have w:=b.2;unfold ZAQ at w;simp only[TE]at w;refine ZNu y hI (descD ops T a i) h j z h.fq (In.Le.refl _) A B h1 hn w.2 (λ_=> ?_) e;rw[ZG5 w.1];rcases j with⟨_,rfl⟩|⟨_,t,ht,S⟩
            . rfl
            . have h3:=Tm.1 w.1 t ht;have J:=Tm.1 w.2 t (by simpa using h3);rw[S]at J;cases J
          | false =>
            rw[b]at e;have p:=show(q.wk λv=>dlk X m a k s q v i d op ih)=some r from e;rw[ZUF]at p;cases L:(T.all λt=>([]:List Nat).contains t)with
            |false=>exact ZNu y hI [] h j z h.wk.fq (h.wk_le) A B h1 hn rfl (λ_=>ZFD L _) p
            | true=>
              have D:T= []:=by
                cases T with
                |nil=>rfl
                |cons t T=>simp at L
              subst D;rcases j with⟨_,rfl⟩|⟨_,t,ht,_⟩
              . have U:allQ q op.operands.toList=false:=by
                  have V:ZAQ ops [] a i=true:=rfl;rw[V]at b;simpa using b
                obtain⟨W,_⟩:=ZA (show bb (allQ ⟨q.N,wkL q.l,[],[],0,q.f,q.c,[]⟩ op.operands.toList) _ none=some r from p)
                exact absurd (ZTW W) (by rw[U];simp)
              . cases ht
theorem ZMR (E:EnvOk X)(F:x.P=X.P)(j:Reg ops)(hI:Ih x ops K T s0 Ib sb Hb ih r I0 seg0 nS H0){m i:Nat}{a:Array Bool}{p:List (Nat×Bool)}{G:Bool}(h:DR x s q I1 seg0 n0 H0 I seg l own H)(u:Ph I0 I1 n0 nS T a)(w:Go s0 Ib sb Hb s I seg H)
    (k:dstep X ops T m a p s q i G ih=some r):JB x ops K (SO seg0 T (List.range nS)) H0 m a l own H:=by
  obtain⟨o,A,k⟩:=ZU k;cases y:o.guard with
  | none=>
    rw[y]at k;exact ZKg E F j hI h u w A (by rw[y];trivial) k
  | some M =>
    obtain⟨g,b⟩:=M;rw[y]at k;obtain⟨t,e1,k⟩:=ZU k;obtain⟨J,e2,e3⟩:=ZU e1;obtain⟨c,e4,k⟩:=ZU k;rcases h.fs.sl _ _ e4 with rfl|⟨v,z,D⟩
    . cases k
    . have C:∀(k:oBo c (λe=>(match ZG p t with
          |none=>cond e (flag s t c true λs=>q.lay t (.b true) λq=>ih m a ((t,true)::p) s q) (flag s t c false λs=>q.lay t (.b false) λq=>ih m a ((t,false)::p) s q)
          |some _=>cond e (Bool.rec (bb (!(QF T i)) (dskp ops m a p s q i o.dst ih) none) (dact X ops T m a p s q i G o ih) b) (Bool.rec (dact X ops T m a p s q i G o ih) (bb (!(QF T i)) (dskp ops m a p s q i o.dst ih) none) b)))=some r),
          JB x ops K (SO seg0 T (List.range nS)) H0 m a l own H:=by
        intro k;obtain⟨e,hb,k⟩:=Gu k;have L:=hb.le _ _ D;simp only[VR]at L;subst L;split at k
        . have fl:∀B,e=B->DR x (flagS s t c B) (q.st t (.b B)) I1 seg0 n0 H0 I seg ((t,.bool B)::l) own H:=λB d=>
            ⟨h.fs.flag D hb.le d,h.fq.put (by simp only[VR]),TQ h.fle (Ext.flag s t c B).n,h.fseg,h.fH,h.fI,h.fn⟩
          rcases G8 k with⟨d,f⟩|⟨d,f⟩
          . rw[ZBN]at f;exact P2 z (λ_=>hI f (fl true d) u (w.trans (Go.flag _ _ _ _ _ _ _))) (λq=>by rw[d]at q;cases q)
          . rw[ZBN]at f;exact P2 z (λq=>by rw[d]at q;cases q) (λ_=>hI f (fl false d) u (w.trans (Go.flag _ _ _ _ _ _ _)))
        . rcases G8 k with⟨d,f⟩|⟨d,f⟩
          . subst d;cases b with
            |true=>exact ZKg E F j hI h u w A (by rw[y];exact⟨t,J,e2,e3,z⟩) f
            |false=>exact ZKd j hI h u w A y e2 e3 (.inl ⟨true,z,rfl⟩) f
          . subst d;cases b with
            |true=>exact ZKd j hI h u w A y e2 e3 (.inl ⟨false,z,rfl⟩) f
            |false=>exact ZKg E F j hI h u w A (by rw[y];exact⟨t,J,e2,e3,z⟩) f
      cases c with
      |und=>simp only[VR]at D;subst D;exact ZKd j hI h u w A y e2 e3 (.inr z) k
      |_=>exact C k
theorem ZKA (c:EnvOk X)(d:x.P=X.P)(b:Reg ops){k:PS->Option β}(e:∀s' I' seg' l' own' H',Go s0 Ib sb Hb s' I' seg' H'->k s'=some r->RS x s' I' seg' l' own' H'->JN x K l' own' H'):∀(n:Nat),Ih x ops K T s0 Ib sb Hb (pdr X ops T k n) r I0 seg0 nS H0
  |0=>by intro h _ _ _;cases h
  | n + 1 =>by
    rename_i m a f s q I1 I n0 seg l own H;intro h g p o;replace h:=show(match Region.ready .any ops a with
      |[]=>k s
      | i0::R=>(match findB (rdOk X ops T a s q f) (i0::R)with
        |some i=>dstep X ops T m a f s q i true (pdr X ops T k n)
        |none=>(match R with|[]=>dstep X ops T m a f s q i0 false (pdr X ops T k n)|j::R=>deff X ops T m a f s q (pdr X ops T k n) i0 (j::R))))=some r from h
    split at h
    . rename_i t;exact PT t (e _ _ _ _ _ _ o h g.fs)
    . rename_i t;split at h
      . exact ZMR c d b (ZKA c d b e n) g p o h
      . split at h
        . exact ZMR c d b (ZKA c d b e n) g p o h
        . cases m with
          |zero=>cases h
          |succ m=>exact JB.many t (by intro q;cases q) (ZMV c d (ZKA c d b e n) g p o _ _ h)
theorem ZRg (q:EnvOk X)(m:x.P=X.P){id:Nat}{mb:Option (List Nat)}{k:PS->Option β}(hs:RS x s I seg l own H)(h:drawn X ops mb s k=some r)(f:∀s' I' seg' l' own' H',Go s I seg H s' I' seg' H'->k s'=some r->RS x s' I' seg' l' own' H'->JN x (Q .normal) l' own' H'):JC x (.region id ops true) Q l own H:=by
  obtain⟨p,h⟩:=ZA h;simp only[TE]at p;obtain⟨t,h1,h2⟩:=p;have e:∀{s:PS} {I:In} {seg:Nat->Own} {own:List Own} {H:Heaplet} (T:List Nat),RS x s I seg l own H->pdr X ops T k (2*ops.size+1) ops.size (Array.replicate ops.size false) [] s s=some r->(∀s' I' seg' l' own' H',Go s I seg H s' I' seg' H'->k s'=some r->RS x s' I' seg' l' own' H'->JN x (Q .normal) l' own' H')->JC x (.region id ops true) Q l own H:=by
    intro s I seg own H T hs h f;have u:DR x s s I seg s.n H I seg l own H:=⟨hs,by rw[<-hs.own];exact hs,TL _,λ_ _=>rfl,R1 _,In.Le.refl _,rfl⟩;have v:=ZKA (K:=Q .normal) q m ⟨h1,h2⟩ f _ h u (.inl ⟨rfl,rfl⟩) (Go.refl _ _ _ _);refine ZA3 ops.size rfl (by rw[m];exact t) ⟨h1,h2⟩ (ZKO _ λa i=>⟨a,?_⟩) v;have i:a<s.n:=(by simpa using i);rw[hs.own];simp[i]
  cases mb with
  | none=>
    replace h:=show JO (ownL s (mvsL (GB X s ops.toList++callA ops.toList) ops.toList++(GB X s ops.toList++callA ops.toList))) s (λs=>pdr X ops [] k (2*ops.size+1) ops.size (Array.replicate ops.size false) [] s s)=some r from h;rw[WG]at h;refine BS (js:=ownL s (mvsL (GB X s ops.toList++callA ops.toList) ops.toList++(GB X s ops.toList++callA ops.toList))) (K:=λa w=>(Code.region id ops true).wpIn (Fw x.r) 0 x.P Q a w) hs (λseg2 o H2 j b=> ?_);exact e [] b h (λs' I' seg' l' own' H' g c d=>f s' I' seg' l' own' H' (j.trans g) c d)
  | some T=>
    replace h:=show JO (ownL s (mvsL (GB X s ops.toList) ops.toList++GB X s ops.toList)) s (λs=>pdr X ops T k (2*ops.size+1) ops.size (Array.replicate ops.size false) [] s s)=some r from h;rw[WG]at h;refine BS (js:=ownL s (mvsL (GB X s ops.toList) ops.toList++GB X s ops.toList)) (K:=λa w=>(Code.region id ops true).wpIn (Fw x.r) 0 x.P Q a w) hs (λseg2 o H2 j b=> ?_);exact e T b h (λs' I' seg' l' own' H' g c d=>f s' I' seg' l' own' H' (j.trans g) c d)
end
mutual
theorem Pk{I J K:In}(r:J.H=K.H)(hn:J.n=I.n)(w:J.q=I.q)(d:J.ν=K.ν)(p:J.κ=K.κ):∀{c:CV} {u v:Value},VR I c u->VR K c v->VR J c v
  | .i n,u,v,h,k=>k
  | .n c j,u,v,h,k=>by simp only[VR]at h k|-;exact⟨by rw[w];exact h.1,by rw[p];exact k.2.1,k.2.2⟩
  | .ln j,u,v,h,k=>k
  | .bc c m _,u,v,h,k=>by simp only[VR]at h k|-;exact⟨by rw[w];exact h.1,by rw[p];exact k.2.1,k.2.2⟩
  | .w8 x,u,v,h,k=>k
  | .w32 x,u,v,h,k=>k
  | .w64 x,u,v,h,k=>k
  | .b x,u,v,h,k=>k
  | .s l,u,v,h,k=>k
  | .sl t m,u,v,h,k=>by simp only[VR]at k|-;rw[r];exact k
  | .cl t m,u,v,h,k=>by simp only[VR]at k|-;rw[r];exact k
  | .rv t a g,u,v,h,k=>by simp only[VR]at h k|-;exact⟨by rw[hn];exact h.1,by rw[d];exact k.2⟩
  | .sv a _ n,u,v,h,k=>by simp only[VR]at h k|-;exact⟨by rw[hn];exact h.1,by rw[d];exact k.2⟩
  | .nils,u,v,h,k=>k
  | .nilp,u,v,h,k=>k
  | .nili,u,v,h,k=>k
  | .ptr a o,u,v,h,k=>by simp only[VR]at h k|-;exact⟨by rw[hn];exact h.1,by rw[d];exact k.2⟩
  | .el t x o,u,v,h,k=>by simp only[VR]at k|-;unfold ElR at k|-;rw[r];exact k
  | .oel t x,u,v,h,k=>by simp only[VR]at k|-;unfold ElR at k|-;rw[r];exact k
  | .orel t a x,u,v,h,k=>by
    simp only[VR]at h k|-;rcases k with k|⟨y,e,k⟩
    . exact .inl k
    . rcases h with⟨e2,_⟩|⟨D,e2,h⟩
      . rw[e]at e2;cases e2
      . exact .inr ⟨y,e,by rw[hn];exact h.1,by rw[d];exact k.2⟩
  | .clo f l m,u,v,h,k=>by
    simp only[VR]at h k|-;obtain⟨E,F,_,h1,h2⟩:=h;obtain⟨z,A,e,B,C⟩:=k;exact⟨z,A,e,PO r hn w d p h1 B,PO r hn w d p h2 C⟩
  | .fn f,u,v,h,k=>k
  | .row a,u,v,h,k=>by simp only[VR]at h k|-;exact⟨by rw[hn];exact h.1,by rw[d];exact k.2⟩
  | .rel t a i o,u,v,h,k=>by simp only[VR]at h k|-;exact⟨by rw[hn];exact h.1,by rw[d];exact k.2⟩
  | .ag l,u,v,h,k=>by
    simp only[VR]at h k|-;obtain⟨us,_,h⟩:=h;obtain⟨vs,e,k⟩:=k;exact⟨vs,e,PO r hn w d p h k⟩
  | .tu l,u,v,h,k=>by
    simp only[VR]at h k|-;obtain⟨us,_,h⟩:=h;obtain⟨vs,e,k⟩:=k;exact⟨vs,e,PO r hn w d p h k⟩
  | .und,u,v,h,k=>k
  | .any,u,v,h,k=>k
  | .unk,u,v,h,k=>k
theorem PO{I J K:In}(d:J.H=K.H)(hn:J.n=I.n)(e:J.q=I.q)(a:J.ν=K.ν)(b:J.κ=K.κ):∀{l:List CV} {us vs:List Value},VRs I l us->VRs K l vs->VRs J l vs
  |[],us,vs,h,k=>k
  | c::l,us,vs,h,k=>by
    obtain⟨u,f,_,h1,h2⟩:=h.un;obtain⟨v,g,rfl,i,j⟩:=k.un;exact VRs.cons (Pk d hn e a b h1 i) (PO d hn e a b h2 j)
end
noncomputable def fgtL:List Nat->List (Nat×CV)->List (Nat×CV)
 |[],l=>l
 |t::D,l=>match ZG l t with|none=>fgtL D l|some _=>fgtL D ((t,.unk)::l)
def fgtO:List (Nat×Nat)->List ((Nat×Nat)×CV)->List ((Nat×Nat)×CV)
 |[],o=>o
 |p::C,o=>fgtO C ((p,.unk)::o)
theorem ZNs{β:Type}:∀(D:List Nat) (s:PS) (k:PS->Option β),fgt D s k=k ⟨s.N,fgtL D s.l,s.o,s.z,s.n,s.f,s.c,s.r⟩
  |[],s,k=>rfl
  | t::D,s,k=>by
    show(Option.rec (fgt D s k) (λ_=>fgt D ⟨s.N,(t,.unk)::s.l,s.o,s.z,s.n,s.f,s.c,s.r⟩ k) (ZG s.l t):Option β)=_;cases h:ZG s.l t with
    |none=>show fgt D s k=_;rw[ZNs D];simp only[fgtL,h]
    |some c=>show fgt D _ k=_;rw[ZNs D];simp only[fgtL,h]
def ftR:List Nat->List (Nat×RC)->List (Nat×RC)
 |[],r=>r
 |p::C,r=>ftR C ((p,.dead)::r)
theorem ZKb{β:Type}:∀(C:List Nat) (s:PS) (k:PS->Option β),fgtR C s k=k ⟨s.N,s.l,s.o,s.z,s.n,s.f,s.c,ftR C s.r⟩
 |[],s,k=>rfl
 |p::C,s,k=>ZKb C ⟨s.N,s.l,s.o,s.z,s.n,s.f,s.c,(p,.dead)::s.r⟩ k
theorem ZOj:∀(C:List Nat) (r:List (Nat×RC)),∃m,ftR C r=m++r
  |[],r=>⟨[],rfl⟩
  | p::C,r=>by
    obtain⟨m,e⟩:=ZOj C ((p,.dead)::r);exact⟨m++ [(p,.dead)],by rw[ftR,e];simp⟩
theorem ZAR:∀{C:List Nat} {l:List (Nat×RC)} {k:Nat} {c:RC},ZG (ftR C l) k=some c->c=.dead\/(k∉C/\ZG l k=some c)
  |[],l,k,c,h=>.inr ⟨by simp,h⟩
  | p ::C,l,k,c,h=>by
    rcases ZAR (show ZG (ftR C ((p,.dead)::l)) k=some c from h)with h|⟨h1,h2⟩
    . exact .inl h
    . rw[ZE]at h2;by_cases q:p=k
      . rw[TG q]at h2;cases h2;exact .inl rfl
      . rw[TM q]at h2;exact .inr ⟨λa=>(Ta.1 a).elim (λe=>q e.symm) h1,h2⟩
theorem ZOl{β:Type}:∀(C:List (Nat×Nat)) (s:PS) (k:PS->Option β),fgtC C s k=k ⟨s.N,s.l,fgtO C s.o,s.z,s.n,s.f,s.c,s.r⟩
 |[],s,k=>rfl
 |p::C,s,k=>ZOl C ⟨s.N,s.l,(p,.unk)::s.o,s.z,s.n,s.f,s.c,s.r⟩ k
theorem ZGk:∀{D:List Nat} {l:List (Nat×CV)} {t:Nat} {c:CV},ZG (fgtL D l) t=some c->c=.unk\/(t∉D/\ZG l t=some c)
  |[],l,t,c,h=>.inr ⟨by simp,h⟩
  | d ::D,l,t,c,h=>by
    unfold fgtL at h;split at h
    . rename_i b;rcases ZGk h with h|⟨h1,h2⟩
      . exact .inl h
      . refine .inr ⟨λa=> ?_,h2⟩;rcases Ta.1 a with rfl|a
        . rw[b]at h2;cases h2
        . exact h1 a
    . rcases ZGk h with h|⟨h1,h2⟩
      . exact .inl h
      . rw[ZE]at h2;by_cases q:d=t
        . rw[TG q]at h2;cases h2;exact .inl rfl
        . rw[TM q]at h2;exact .inr ⟨λa=>(Ta.1 a).elim (λe=>q e.symm) h1,h2⟩
theorem ZGj:∀{C:List (Nat×Nat)} {o:List ((Nat×Nat)×CV)} {a j:Nat} {c:CV},lkO (fgtO C o) a j=some c->c=.unk\/((a,j)∉C/\lkO o a j=some c)
  |[],o,a,j,c,h=>.inr ⟨by simp,h⟩
  | p ::C,o,a,j,c,h=>by
    rcases ZGj (show lkO (fgtO C ((p,.unk)::o)) a j=some c from h)with h|⟨h1,h2⟩
    . exact .inl h
    . rw[ZAD]at h2;by_cases q:p=(a,j)
      . rw[TG q]at h2;cases h2;exact .inl rfl
      . rw[TM q]at h2;exact .inr ⟨λb=>(Ta.1 b).elim (λe=>q e.symm) h1,h2⟩
section
variable{β:Type}{r:β}{x:Cx}{X:Env}{s s':PS}{I I':In}{seg seg':Nat->Own}{l l':Slots}{own own':List Own}{H H':Heaplet}{D:List Nat}{C:List (Nat×Nat)}{R:List Nat}
theorem RS.base (hs:RS x s I seg l own H)(ht:RS x s' I' seg' l' own' H')(b:Agr s s' D C R):
 RS x ⟨s.N,fgtL D s.l,fgtO C s.o,s.z,s.n,s.f,s.c,ftR R s.r⟩ ⟨H',I'.ν,s.n,I'.κ,s.c⟩ seg' l' ((List.range s.n).map seg') H':=by
 refine⟨hs.N,rfl,rfl,rfl,rfl,λt c e=> ?_,λa m e=> ?_,λa j c e=> ?_,λc i=> ?_,λk c e=> ?_,λk c e=> ?_,λk c j d e e2=> ?_⟩
 . rcases ZGk (show ZG (fgtL D s.l) t=some c from e)with h|⟨h1,h2⟩
   . exact .inl h
   . rcases hs.sl t c h2 with h|⟨u,_,h3⟩
     . exact .inl h
     . rcases ht.sl t c (b.l t c h2 h1)with h|⟨v,g,w⟩
       . exact .inl h
       . exact .inr ⟨v,g,Pk (I:=I) (J:=⟨H',I'.ν,s.n,I'.κ,s.c⟩) (K:=I') ht.H.symm hs.n.symm hs.q.symm rfl rfl h3 w⟩
 . obtain⟨h1,_⟩:=hs.ze a m e;obtain⟨_,h2⟩:=ht.ze a m (b.z a m h1 e);exact⟨h1,h2⟩
 . rcases ZGj (show lkO (fgtO C s.o) a j=some c from e)with h|⟨h1,h2⟩
   . exact .inl h
   . rcases hs.ce a j c h2 with h|⟨p,_,_,u,_,_,h3⟩
     . exact .inl h
     . rcases ht.ce a j c (b.o a j c p h2 h1)with h|⟨_,cur,T,v,y,A,B⟩
       . exact .inl h
       . exact .inr ⟨p,cur,T,v,y,A,Pk (I:=I) (J:=⟨H',I'.ν,s.n,I'.κ,s.c⟩) (K:=I') ht.H.symm hs.n.symm hs.q.symm rfl rfl h3 B⟩
 . exact⟨(hs.fx c i).1,(ht.fx c (b.f c i)).2⟩
 . rcases ZAR (show ZG (ftR R s.r) k=some c from e)with h|⟨h1,h2⟩
   . exact .inl h
   . rcases hs.rw k c h2 with h|⟨h3,_⟩
     . exact .inl h
     . rcases ht.rw k c (b.r k c h3 h2 h1)with h|⟨_,g⟩
       . exact .inl h
       . exact .inr ⟨h3,by rw[<-ht.H];exact g⟩
 . rcases ZAR (show ZG (ftR R s.r) k=some c from e)with h|⟨h1,h2⟩
   . exact .inl h
   . exact hs.rz k c h2
 . rcases ZAR (show ZG (ftR R s.r) k=some c from e)with h|⟨h1,h2⟩
   . exact .inl h
   . rcases ZGj (show lkO (fgtO C s.o) k j=some d from e2)with h|⟨_,h3⟩
     . exact .inr h
     . exact hs.ro k c j d h2 h3
theorem RS.learn (hs:RS x s I seg l own H){t:Nat}{c:CV}{v:Value}(h1:lk l t=some v)(h:VR I c v):RS x (s.st t c) I seg l own H:=by
 refine⟨hs.N,hs.H,hs.n,hs.q,hs.own,λa b e=> ?_,hs.ze,hs.ce,hs.fx,hs.rw,hs.rz,hs.ro⟩;change ZG ((t,c)::s.l) a=some b at e;rw[ZE]at e;by_cases q:t=a
 . subst q;rw[TG rfl]at e;cases e;exact .inr ⟨v,h1,h⟩
 . rw[TM q]at e;exact hs.sl a b e
theorem RS.learnC (hs:RS x s I seg l own H){a o n:Nat}(p:ZG s.z a=some n){m:List CV}{vs:List Value}{cur:Array Value}{T:TypeId}(t:a<s.n)(g:seg a= [((I.ν a).1,.cells cur T (0,0))])(u:∀j v,vs[j]? =some v->cur.toList[o+j]? =some v)(w:VRs I m vs):
 RS x ⟨s.N,s.l,entA a m o s.o,s.z,s.n,s.f,s.c,s.r⟩ I seg l own H:=by
 refine⟨hs.N,hs.H,hs.n,hs.q,hs.own,hs.sl,hs.ze,λb j c e=> ?_,hs.fx,hs.rw,hs.rz,λk c j d e e2=> ?_⟩;change lkO (entA a m o s.o) b j=some c at e;rw[Jm]at e;split at e
 . rename_i y;obtain⟨rfl,h1,h2⟩:=y;obtain⟨v,A,B⟩:=w.get e;exact .inr ⟨t,cur,T,v,g,by have:=u _ _ A;rwa[show o+(j-o)=j by omega]at this,B⟩
 . exact hs.ce b j c e
 . rcases hs.rz k c e with h|h3
   . exact .inl h
   have i:k≠a:=λq=>(by subst q;rw[p]at h3;cases h3);rw[show lkO (entA a m o s.o) k j=lkO s.o k j by rw[Jm,TM (λq=>i q.1)]]at e2;exact hs.ro k c j d e e2
theorem ZHy:∀(D:List Nat) (l:List (Nat×CV)),∃m,fgtL D l=m++l
  |[],l=>⟨[],rfl⟩
  | t ::D,l=>by
    unfold fgtL;split
    . exact ZHy D l
    . obtain⟨m,e⟩:=ZHy D ((t,.unk)::l);exact⟨m++ [(t,.unk)],by rw[e];simp⟩
theorem ZMK:∀(C:List (Nat×Nat)) (o:List ((Nat×Nat)×CV)),∃m,fgtO C o=m++o
  |[],o=>⟨[],rfl⟩
  | p::C,o=>by
    obtain⟨m,e⟩:=ZMK C ((p,.unk)::o);exact⟨m++ [(p,.unk)],by rw[fgtO,e];simp⟩
end
section
variable{β:Type}{r:β}{x:Cx}{X:Env}{s s':PS}{I I':In}{seg seg':Nat->Own}{l l':Slots}{own own':List Own}{H H':Heaplet}{D:List Nat}{C:List (Nat×Nat)}{R:List Nat}
theorem ZLq:∀{ts:List Nat} {k:List CV->Option β},ldT s ts k=some r->∃cs,k cs=some r/\cs.length=ts.length/\∀(i t:Nat),ts[i]? =some t->∃c,cs[i]? =some c/\ZG s.l t=some c/\c≠.unk
  |[],k,h=>⟨[],h,rfl,λi t e=>by simp at e⟩
  | t::ts,k,h=>by
    obtain⟨c,e,h⟩:=ZU (show oB (ZG s.l t) (λc=>kn c λc=>ldT s ts λr=>k (c::r))=some r from h)
    obtain⟨h0,h⟩:=ZBK h;obtain⟨cs,h,a,b⟩:=ZLq h;refine⟨c::cs,h,by simp[a],λi u q=> ?_⟩;cases i with
    |zero=>simp at q;subst q;exact⟨c,rfl,e,h0⟩
    |succ i=>obtain⟨d,f,g⟩:=b i u (by simpa using q);exact⟨d,by simpa using f,g⟩
inductive Rg (s:PS):List (Nat×Nat×Nat)->List CV->Prop
  |nil:Rg s [] []
  |cons {p ps l m z}:ZG s.z p.1=some z->p.2.1+p.2.2<=z->l.length=p.2.2->(∀(j:Nat) (c:CV),l[j]? =some c->lkO s.o p.1 (p.2.1+j)=some c)->Rg s ps m->Rg s (p::ps) (l++m)
theorem ZLr:∀{cs:List (Nat×Nat×Nat)} {k:List CV->Option β},ldC s cs k=some r->∃l,k l=some r/\Rg s cs l
  |[],k,h=>⟨[],h,.nil⟩
  | p::cs,k,h=>by
    obtain⟨z,e,h⟩:=ZU (show oB (ZG s.z p.1) (λm=>bb (Nat.ble (p.2.1+p.2.2) m) (ldU s p.1 p.2.2 p.2.1 λl=>ldC s cs λr=>k (l++r)) none)=some r from h)
    obtain⟨a,h⟩:=ZA h;obtain⟨l,h,b,c⟩:=ZHV h;obtain⟨m,h,d⟩:=ZLr h;exact⟨l++m,h,.cons e (TN a) b c d⟩
inductive Rv (seg:Nat->Own) (I:In):List (Nat×Nat×Nat)->List Value->Prop
  |nil:Rv seg I [] []
  |cons {p ps cur T us}:seg p.1= [((I.ν p.1).1,.cells cur T (0,0))]->p.2.1+p.2.2<=cur.size->Rv seg I ps us->Rv seg I (p::ps) ((cur.toList.drop p.2.1).take p.2.2++us)
theorem Rg.rv (hs:RS x s I seg l own H):∀{cs:List (Nat×Nat×Nat)} {m:List CV},Rg s cs m->∃vs,Rv seg I cs vs/\VUs I m vs
  |_,_,.nil=>⟨[],.nil,rfl⟩
  | _,_,.cons (p:=p) (l:=l0) i h a k n=>by
    obtain⟨us,h1,h2⟩:=n.rv hs;obtain⟨t,cur,T,g,b⟩:=hs.ze _ _ i;refine⟨_,.cons g (by rw[b];exact h) h1,VUs.append (Po ?_ λj c e=> ?_) h2⟩
    . rw[a,TH,TP,TR,b];omega
    . refine(hs.ce _ _ _ (k j c e)).imp id fun⟨_,d,u,v,f,o,q⟩=> ?_;rw[g]at f;simp only[SA,SD,Obj.cells.injEq,and_true,Rd]at f;obtain⟨rfl,_⟩:=f;have r:j<p.2.2:=(by rw[<-a];exact(TD.1 e).1);exact⟨v,by rw[Te,TG r,SR];exact o,q⟩
theorem Rg.same (h:SameB s s'):∀{cs:List (Nat×Nat×Nat)} {m:List CV},Rg s cs m->Rg s' cs m
 |_,_,.nil=>.nil
 |_,_,.cons b a d f g=>.cons (by rw[h.z];exact b) a d (λj c e=>by rw[h.o];exact f j c e) (g.same h)
theorem ON (u:PS)(a o:Nat)(m:List CV):Ext u ⟨u.N,u.l,entA a m o u.o,u.z,u.n,u.f,u.c,u.r⟩:=⟨rfl,⟨[],rfl⟩,Wl _ _ _ _,⟨[],rfl,by simp⟩,TL _,⟨[],rfl⟩,TL _,⟨[],rfl⟩⟩
theorem ZKN:∀{ts:List Nat} {cs:List CV} {vs:List Value} {s:PS} {k:PS->Option β},RS x s I seg l own H->VRs I cs vs->(∀(i t:Nat) (v:Value),ts[i]? =some t->vs[i]? =some v->lk l t=some v)->ZNS ts cs s k=some r->
    ∃s',k s'=some r/\RS x s' I seg l own H/\Ext s s'/\(ts= []->s'.l=s.l)
  |[],cs,vs,s,k,hs,b,a,h=>⟨s,h,hs,Pg _,λ_=>rfl⟩
  | t ::ts,cs,vs,s,k,hs,b,a,h=>by
    cases cs with
    |nil=>cases h
    | cons c cs=>
      obtain⟨v,us,rfl,h1,h2⟩:=b.un;obtain⟨n,d⟩:=Yj (show s.put t c (λs=>ZNS ts cs s k)=some r from h)
      obtain⟨s2,g,f,j,_⟩:=ZKN (hs.learn (a 0 t v rfl rfl) h1) h2 (λi m v' e1 e2=>a (i+1) m v' (by simpa using e1) (by simpa using e2)) d;exact⟨s2,g,f,(Ext.st _ _ _).trans j,λe=>by cases e⟩
theorem ZOe:∀{cs:List (Nat×Nat×Nat)} {m:List CV} {vs ws:List Value} {s:PS} {k:List CV->PS->Option β},RS x s I seg l own H->VRs I m (vs++ws)->Rv seg I cs vs->layC cs m s k=some r->∃m' s',k m' s'=some r/\RS x s' I seg l own H/\Ext s s'/\VRs I m' ws/\s'.l=s.l
  |[],m,vs,ws,s,k,hs,g,a,h=>by cases a;exact⟨m,s,h,hs,Pg _,g,rfl⟩
  | p ::cs,m,vs,ws,s,k,hs,g,a,h=>by
    cases a with
    | cons u F a=>
      rename_i cur T us;replace h:=show oB (ZG s.z p.1) (λz=>bb (Nat.ble (p.2.1+(m.take p.2.2).length) z) (ZIQ p.1 (m.take p.2.2) p.2.1 s.o λw=>layC cs (m.drop p.2.2) ⟨s.N,s.l,w,s.z,s.n,s.f,s.c,s.r⟩ k) none)=some r from h;obtain⟨z,q,h⟩:=ZU h;obtain⟨_,h⟩:=ZA h;rw[B9]at h;have t:((cur.toList.drop p.2.1).take p.2.2).length=p.2.2:=(by rw[TH,TP,TR];omega);have b:=VRs.take p.2.2 g;have d:=VRs.drop p.2.2 g;have e1:(((cur.toList.drop p.2.1).take p.2.2++us)++ws).take p.2.2=(cur.toList.drop p.2.1).take p.2.2:=(by rw[TI];exact List.take_left' t);have e2:(((cur.toList.drop p.2.1).take p.2.2++us)++ws).drop p.2.2=us++ws:=(by rw[TI];exact List.drop_left' t);rw[e1]at b;rw[e2]at d;obtain⟨y,_⟩:=hs.ze _ _ q;have i:=hs.learnC q (o:=p.2.1) y u (λj v e=>by
        rw[Te]at e;split at e
        . rwa[SR]at e
        . cases e) b
      obtain⟨m',s2,A,B,C,D,E⟩:=ZOe i d a h;exact⟨m',s2,A,B,(ON _ _ _ _).trans C,D,E⟩
theorem ZAB:∀{l:List Nat} {i j:Nat},ZG (nth l i) j=if i<=j/\j<i+l.length then some (l[j-i]?)else none
  |[],i,j=>by rw[TM (by simp only[T6];omega)];rfl
  | a ::l,i,j=>by
    rw[show nth (a::l) i=(i,some a)::nth l (i+1)from rfl,ZE,ZAB];by_cases q:i=j
    . subst q;rw[TG rfl,TG ⟨TL _,by simp⟩];simp
    . rw[TM q];by_cases b:i+1<=j/\j<i+1+l.length
      . rw[TG b,TG ⟨by omega,by simp;omega⟩,show j-i=(j-(i+1))+1 by omega,Ro]
      . rw[TM b,TM (by simp;omega)]
theorem Jf:∀{l:List Nat},ZCl l=true->l.Nodup
  |[],h=>List.nodup_nil
  | a ::l,h=>by
    have h:(Bool.rec (ZCl l) false (QF l a):Bool)=true:=h;cases b:QF l a with
    |true=>rw[b]at h;cases h
    | false=>
      rw[b]at h;exact SY.2 ⟨(λe=>by rw[Xu.2 e]at b;cases b),Jf h⟩
theorem ZOY{l:List Nat}(h:l.Nodup):InjR (nth l 100):=λi j a e1 e2=>by
 rw[ZAB]at e1 e2;split at e1
 . split at e2
   . rename_i h1 h2;have f:=TJ e1;have b:=TJ e2;obtain⟨d,g⟩:=TD.1 f;obtain⟨e,c⟩:=TD.1 b;have:=(List.getElem_inj h).1 (g.trans c.symm);omega
   . cases e2
 . cases e1
theorem ZLb{dr:List Nat}{ρ:Rho}:∀{bs:List Bp} {i:Nat},okF s s' dr ρ bs i=true->∀(j:Nat) (b:Bp),bs[j]? =some b->∀a,ZG ρ (i+j)=some (some a)->(b=.row->a<s.n->a∈dr/\VU s' a=true)/\((∃n ps,b=.cells n ps)->s.n<=a)
  |[],i,h,j,b,e,a,d=>by simp at e
  | c ::bs,i,h,j,b,e,a,d=>by
    have g:okF s s' dr ρ bs (i+1)=true/\∀a,ZG ρ i=some (some a)->(c=.row->a<s.n->a∈dr/\VU s' a=true)/\((∃n ps,c=.cells n ps)->s.n<=a):=by
      cases c with
      | row=>
        have h:Bool.and (match ZG ρ i with|some (some a)=>(Bool.rec true (Bool.and (QF dr a) (VU s' a)) (Nat.blt a s.n):Bool)|_=>true) (okF s s' dr ρ bs (i+1))=true:=h;simp only[TE]at h;refine⟨h.2,λa e1=>⟨λ_ f=> ?_,fun⟨n,ps,e2⟩=>by cases e2⟩⟩;have h1:=h.1;rw[e1]at h1;have h1:(Bool.rec true (Bool.and (QF dr a) (VU s' a)) (Nat.blt a s.n):Bool)=true:=h1;rw[show Nat.blt a s.n=true from SM f]at h1;have h1:Bool.and (QF dr a) (VU s' a)=true:=h1;simp only[TE]at h1;exact⟨Xu.1 h1.1,h1.2⟩
      | cells n ps=>
        have h:Bool.and (match ZG ρ i with|some (some a)=>Nat.ble s.n a|_=>false) (okF s s' dr ρ bs (i+1))=true:=h;simp only[TE]at h;refine⟨h.2,λa e1=>⟨λe2=>(by cases e2),λ_=> ?_⟩⟩;have h1:=h.1;rw[e1]at h1;exact TN h1
    cases j with
    |succ j=>exact ZLb g.1 j b (by simpa using e) a (by rw[show i+1+j=i+(j+1) by omega];exact d)
    |zero=>simp at e;subst e;exact g.2 a d
theorem ZFW{a:Nat}(h:VU s a=true):∃t E m,ZG s.r a=some (.own t E m):=by
 unfold VU at h;split at h
 . rename_i t E m e;exact⟨t,E,m,e⟩
 . cases h
structure Xt (s:PS) (I:In) (s':PS) (I':In):Prop where
  e:Ext s s'
  i:I.Le I'
theorem Ps (s:PS)(I:In):Xt s I s I:=⟨Pg _,In.Le.refl _⟩
theorem Xt.trans{s t u:PS}{I J K:In}(h:Xt s I t J)(k:Xt t J u K):Xt s I u K:=⟨h.e.trans k.e,h.i.trans k.i⟩
def Bh (x:Cx)(s:PS)(I:In)(D:List Nat)(C:List (Nat×Nat))(R:List Nat)(K:Kx)(y:VH (hyS K.S))(l:Slots)(o:List Own)(g:Heaplet):Prop:=
 ∀{β:Type} {k:PS->Option β} {r:β},upK s D C R K y k=some r->∃u J seg,k u=some r/\RS x u J seg l o g/\Xt s I u J/\(K.ts= []->u.l=fgtL D s.l)
open Classical in
theorem ZDc {F:List Own}{γ:Type}{q:γ}{b:PS}(hs:RS x s I seg l own H)(hb:b.n=s.n)(ht:RS x s' I' seg' l' own' H')(hν:I.Le I')(B:okT b s' D=true->okC b s' C R=true->Agr s s' D C R){K:Kx}{kp:VH (hyS K.S)->Option γ}(h:pkK b D C R s' K kp=some q):
    ∃y,kp y=some q/\∀{Kc:Act->World->Prop},(∀o g,Hle H' g->Bh x s I D C R K y l' o g->JN x Kc l' (o++F) g)->JN x Kc l' (own'++F) H':=by
  obtain⟨h0,h⟩:=ZA h;simp only[TE]at h0;have hnd:=Jf h0.1;have holt:∀a∈K.ol,a<s.n:=λa O=>by have:=ZW.1 h0.2.1 a O;rw[hb]at this;simpa using this
  have hcslt:∀p∈K.cs,p.1<s.n:=λp M=>by have:=ZW.1 h0.2.2 p M;rw[hb]at this;simpa using this
  obtain⟨cs2,h,hr⟩:=ZLr h;obtain⟨cs1,h,hl1,hc1⟩:=ZLq h;obtain⟨hv,ρ,js,h,hsub,hinj,hρ,hT⟩:=ZCn h (ZOY hnd);obtain⟨hchk,h⟩:=ZA h;simp only[TE]at hchk;obtain⟨hM,hokT,hokC⟩:=hchk;have B:=B hokT hokC;obtain⟨y,ey,h9⟩:=UX h;clear h;subst ey
  -- what the check says
  unfold okM at hM;simp only[TE]at hM;obtain⟨m1,m2,m3,m4,m5⟩:=hM;have m1:=TN m1;have hjs:∀j∈js,j<s.n->j∈R:=λj hj A=>by
    have:=ZW.1 m2 j hj;rw[hb,show Nat.blt j s.n=true from SM A]at this;exact Xu.1 this
  have hkey:∀i a,ZG ρ i=some a->i<K.S.bs.length\/(100<=i/\i<100+K.ol.length):=λi a e=>by
    have:=ZW.1 m3 _ (UN e);simp only[Bool.or_eq_true,TE]at this;exact this.imp (λh=>by simpa using h) (λh=>⟨TN h.1,by simpa using h.2⟩)
  have hold:∀i,100<=i->i<100+K.ol.length->∃a,ZG (nth K.ol 100) i=some (some a)/\ZG ρ i=some (some a)/\a<s.n/\K.ol[i-100]? =some a:=λi h1 h2=>by
    have e:ZG (nth K.ol 100) i=some (K.ol[i-100]?):=(by rw[ZAB,TG ⟨h1,h2⟩]);rw[TO (by omega)]at e;exact⟨_,e,hsub _ _ e,holt _ (Sv _),TO (by omega)⟩
  have hF:=ZLb m4;have P:∀i a,i<K.S.bs.length->ZG ρ i=some (some a)->a<s.n->a∈R/\∃t E m,ZG s'.r a=some (.own t E m):=λi a hi e A=>by
    have h1:=hF i _ (TO hi) a (by rw[Tf];exact e);cases hbs:K.S.bs[i]with
    |row=>obtain⟨g1,g2⟩:=h1.1 hbs (by rw[hb];exact A);exact⟨g1,ZFW g2⟩
    |cells n ps=>have:=h1.2 ⟨n,ps,hbs⟩;rw[hb]at this;omega
  refine⟨y,h9,λ{Kc} hK=> ?_⟩;refine Uj (js:=js) ht (λseg2 own2 H2 g2 V=> ?_);have u:=Y6 js s';obtain⟨vs2,hrv,hvu2⟩:=(hr.same u).rv V
  -- the values of the temporaries
  obtain ⟨L,hvr1,hvl⟩:∃L,VRs {I' with H:=H2} cs1 L/\∀(i t:Nat) (v:Value),K.ts[i]? =some t->L[i]? =some v->lk l' t=some v:=by
    have key:∀(ts:List Nat) (cs:List CV),cs.length=ts.length->(∀(i t:Nat),ts[i]? =some t->∃c,cs[i]? =some c/\ZG s'.l t=some c/\c≠.unk)->∃L,VRs {I' with H:=H2} cs L/\∀(i t:Nat) (v:Value),ts[i]? =some t->L[i]? =some v->lk l' t=some v:=λts=>by
      induction ts with
      | nil=>
        intro cs hl _;cases cs with
        |nil=>exact⟨[],VRs.nil,λi t v e=>by simp at e⟩
        |cons=>cases hl
      | cons t ts ih=>
        intro cs hl Z;cases cs with
        |nil=>cases hl
        | cons c cs=>
          obtain⟨L,e1,e2⟩:=ih cs (by simpa using hl) (λi t' e=>by simpa using Z (i+1) t' (by simpa using e));obtain⟨c',f1,f2,f3⟩:=Z 0 t rfl;simp at f1;subst f1;obtain⟨v,g1,g3⟩:=(V.sl t c (by rw[u.l];exact f2)).resolve_left f3;refine⟨v::L,VRs.cons g3 e1,λi t' v' Q U=> ?_⟩;cases i with
          |zero=>simp at Q U;subst Q U;exact g1
          |succ i=>exact e2 i t' v' (by simpa using Q) (by simpa using U)
    exact key _ _ hl1 hc1
  have hTS:=hT {I' with H:=H2} seg2 (vs2++L) (Rw.of V) (VUs.append hvu2 hvr1.vu);have hag2:Agr s (pubS js s') D C R:=⟨by rw[u.N];exact B.N,λt c e q=>by rw[u.l];exact B.l t c e q,λa j c q e p=>by rw[u.o];exact B.o a j c q e p,λa m q e=>by rw[u.z];exact B.z a m q e,by rw[u.n];exact B.n,λc Z=>by rw[u.f];exact B.f c Z,by rw[u.c];exact B.c,
    λk c q e p=>by rw[Gm (λhm=>p (hjs k hm q))];exact B.r k c q e p⟩
  have hbase:=hs.base V hag2;have hn2:(pubS js s').n=s'.n:=u.n
  -- what a number is Zt it
  let m:=K.S.bs.length;let W:=Wf ρ {I' with H:=H2} seg2;let mv:Nat->Prop:=λa=>∃i,i<m/\ZG ρ i=some (some a);let G:Nat->Own:=λa=>if a<s.n then(if mv a then []else seg2 a)else sgW W (a-s.n)
  let J:In:={H:=H2,ν:=λa=>if a<s.n then I'.ν a else(match W (a-s.n)with|some w=>w.1|none=>(0,.nilIface)),n:=s.n+m,κ:=λc=>if c<s.c then I'.κ c else(cnt (ofVH (hyS K.S) y))[c-s.c]?.getD 0,q:=s.c+(cnt (ofVH (hyS K.S) y)).length};have hsgf:∀i,i<m->sg (nth K.ol 100) s.n i=s.n+i:=λi hi=>by
    unfold sg;rw[ZAB,TM (by omega)]
  have hsgo:∀i a,ZG (nth K.ol 100) i=some (some a)->sg (nth K.ol 100) s.n i=a:=λi a e=>ZDV e;have hnmv:∀i a,100<=i->ZG ρ i=some (some a)->¬mv a:=λi a h1 e=>by
    rintro⟨i',hi',e'⟩;have:=hinj _ _ _ e e';omega
  have hW4:∀i w,W i=some w->sg (nth K.ol 100) s.n i<J.n/\J.ν (sg (nth K.ol 100) s.n i)=w.1/\G (sg (nth K.ol 100) s.n i)=w.2:=λi w e=>by
    have e0:=e;obtain⟨a,ea,ew⟩:∃a,ZG ρ i=some a/\w=(nuO {I' with H:=H2} a,sgO seg2 a):=by
      have e:(ZG ρ i).map (λa=>(nuO {I' with H:=H2} a,sgO seg2 a))=some w:=e;cases h1:ZG ρ i with
      |none=>rw[h1]at e;cases e
      |some a=>rw[h1]at e;exact⟨a,rfl,(TJ e).symm⟩
    rcases hkey i a ea with hi|⟨h1,h2⟩
    . rw[hsgf i hi];refine⟨by show s.n+i<s.n+K.S.bs.length;omega,?_,?_⟩
      . show(if s.n+i<s.n then _ else(match W (s.n+i-s.n)with|some w=>w.1|none=>_))=_;rw[TM (by omega),Sk,e0]
      . show(if s.n+i<s.n then _ else sgW W (s.n+i-s.n))=_;rw[TM (by omega),Sk];unfold sgW;rw[e0]
    . obtain⟨a',f1,f2,f3,_⟩:=hold i h1 h2;rw[ea]at f2;have f2:=TJ f2;subst f2;rw[hsgo i a' f1];subst ew;refine⟨by show a'<s.n+_;omega,?_,?_⟩
      . show(if a'<s.n then I'.ν a' else _)=_;rw[TG f3];rfl
      . show(if a'<s.n then(if mv a' then []else seg2 a')else _)=_;rw[TG f3,TM (hnmv i a' h1 ea)];rfl
  have hC:Cnt J s.c (cnt (ofVH (hyS K.S) y)):=λm' j e=>by
    have A:=(TD.1 e).1;refine⟨by show s.c+m'<s.c+_;omega,?_⟩;show(if s.c+m'<s.c then _ else(cnt (ofVH (hyS K.S) y))[s.c+m'-s.c]?.getD 0)=j;rw[TM (by omega),Sk,e];rfl
  have X:∀a t E mm,a<s.n->ZG s'.r a=some (.own t E mm)->ZG s.z a=none/\∀j d,lkO (fgtO C s.o) a j=some d->d=.unk:=λa t E mm A e=>by
    constructor
    . cases hz:ZG s.z a with
      |none=>rfl
      | some k=>
        have:=B.z a k A hz;rw[(ht.rz a _ e).resolve_left (by simp)]at this;cases this
    . intro j d e2;rcases ZGj e2 with h|⟨h1,h2⟩
      . exact h
      . exact(ht.ro a _ j d e (B.o a j d A h2 h1)).resolve_left (by simp)
  have hleJ:I.Le J:=⟨(by have:=hν.H;rw[ht.H]at this;exact this.trans g2.H),by rw[hs.n];exact RY _ _,λk hk=>(TG (by rw[<-hs.n];exact hk)).trans (hν.ν k hk),by rw[hs.q];exact RY _ _,λc Z=>(TG (by rw[<-hs.q];exact Z)).trans (hν.κ c Z)⟩;have hB : Bh x s I D C R K y l' ((List.range J.n).map G) H2:=by
    intro β k r Y;replace Y:=show fgt D s (λs=>fgtC C s λs=>fgtR R s λs=>s.bu (nth K.ol 100) K.S (ofVH (hyS K.S) y) λus s=>layC K.cs us s λus s=>ZNS K.ts us s k)=some r from Y;rw[ZNs,ZOl,ZKb]at Y;obtain⟨hok,cs',hs',c1,rs,bl,c2,rs',hLi,hBi,Y⟩:=J6 Y;obtain⟨ib1,ib2,ib3⟩:=InstB_ix hBi;obtain ⟨v1,hs4⟩:=RS.bu (J:=J) (seg2:=G) hbase hTS hok hLi hBi (λi a e=>by
        have e:ZG (nth K.ol 100) i=some (some a):=e;rw[ZAB]at e;split at e
        . exact holt a (TW (TJ e))
        . cases e) (ZOY hnd) rfl rfl rfl (λa O=>TG O) (λc Z=>TG Z) hC hW4
      (λa O=>by
        have O:a<s.n:=O;by_cases hm:mv a
        . right;obtain⟨i,hi,e⟩:=hm;obtain⟨g1,t,E,mm,g3⟩:=P i a hi e O;refine⟨λc ec=> ?_,.inl (X a t E mm O g3)⟩;rcases ZAR (show ZG (ftR R s.r) a=some c from ec)with h|⟨h,_⟩
          . exact h
          . exact absurd g1 h
        . left;show(if a<s.n then(if mv a then []else seg2 a)else _)=_;rw[TG O,TM hm])
      (λp M A=>by
        have A:p.1<s.n:=A;obtain⟨k',hk',hpk⟩:∃k∈rowIx K.S.vs++rowIB K.S.bs,p.1=sg (nth K.ol 100) s.n k:=by
          rcases TU.1 M with M|M
          . obtain⟨k,hk,e⟩:=InstL_ix hLi p M;exact⟨k,by simp[hk],e⟩
          . obtain⟨k,hk,e⟩:=ib1 p M;exact⟨k,by simp[hk],e⟩
        have h5:=ZW.1 m5 k' hk';simp only[Bool.or_eq_true]at h5;rcases h5 with h5|h5
        . exfalso;have h5:k'<100:=(by simpa using h5);have:sg (nth K.ol 100) s.n k'=s.n+k':=(by unfold sg;rw[ZAB,TM (by omega)]);omega
        . split at h5
          . rename_i a ea;obtain⟨t,E,mm,g3⟩:=ZFW h5;have hka:sg (nth K.ol 100) s.n k'=a:=by
              by_cases hk100:k'<100
              . exfalso;have:sg (nth K.ol 100) s.n k'=s.n+k':=(by unfold sg;rw[ZAB,TM (by omega)]);omega
              . refine ZDV ?_;rw[ZAB,TG ⟨by omega,by have:=(TD.1 ea).1;omega⟩,ea]
            rw[hpk,hka];exact X a t E mm (by rw[<-hka,<-hpk];exact A) g3
          . cases h5)
      (λp M A=>by
        exfalso;have A:p.1<s.n:=A;obtain⟨j,n,ps,e1,e2,e3⟩:=ib2 p M;have hj:=(TD.1 e1).1;have:sg (nth K.ol 100) s.n (0+j)=s.n+(0+j):=hsgf _ (by show 0+j<K.S.bs.length;omega);have e2:p.1=sg (nth K.ol 100) s.n (0+j):=e2;omega)
    have hrv4 : Rv G J K.cs vs2:=by
      have key:∀{cs:List (Nat×Nat×Nat)} {vs:List Value} {m:List CV},Rg s' cs m->Rv seg2 {I' with H:=H2} cs vs->(∀p∈cs,p.1<s.n)->Rv G J cs vs:=λ{cs}=>by
        induction cs with
        |nil=>intro vs m _ h _;cases h;exact .nil
        | cons p cs ih=>
          intro vs m hg h A;cases h with
          | cons g1 g2 hr=>
            rename_i cur T us;cases hg with
            | cons hz _ _ _ hg=>
              have M:p.1<s.n:=A p (by simp);have hnm:¬mv p.1:=by
                rintro⟨i,hi,e⟩;obtain⟨_,t,E,mm,g3⟩:=P i p.1 hi e M;rw[(ht.rz _ _ g3).resolve_left (by simp)]at hz;cases hz
              refine Rv.cons (T:=T) ?_ g2 (ih hg hr λq hq=>A q (by simp[hq]));show(if p.1<s.n then(if mv p.1 then []else seg2 p.1)else _)= [((if p.1<s.n then I'.ν p.1 else _:Nat×Value).1,_)];rw[TG M,TM hnm,TG M];exact g1
      exact key hr hrv hcslt
    obtain⟨m5,s5,Y,hs5,he5,hv5,hl5⟩:=ZOe hs4 v1 hrv4 Y;obtain⟨s6,Y,hs6,he6,hl6⟩:=ZKN hs5 hv5 hvl Y;refine⟨s6,J,G,Y,hs6,⟨?_,hleJ⟩,λets=>(hl6 ets).trans hl5⟩;refine Ext.trans (Ext.trans (Ext.trans ?_ (Ext.bu ?_)) he5) he6
    . exact⟨rfl,ZHy _ _,ZMK _ _,⟨[],rfl,by simp⟩,TL _,⟨[],rfl⟩,TL _,ZOj _ _⟩
    . have:=hs4.q;have h6:s.c+_=c2:=this;show s.c<=c2;omega
  have hfin:=hK _ _ g2.H hB;obtain ⟨Rx,_,M⟩:=ZA6 (g:=seg2) (K:=List.range (pubS js s').n) (N:=J.n) (seg:=G) (λa=>if a<s.n then(if mv a then none else some a)else(ZG ρ (a-s.n)).bind id)
    (λa b' i O hb' e1 e2=>by
      have O:a<s.n+m:=O;have hb':b'<s.n+m:=hb';by_cases Q:a<s.n
      . simp only[Q,if_true]at e1;split at e1
        . cases e1
        . rename_i hm1;have e1:=TJ e1;by_cases U:b'<s.n
          . simp only[U,if_true]at e2;split at e2
            . cases e2
            . have e2:=TJ e2;omega
          . simp only[U,if_false]at e2;exfalso;refine hm1 ⟨b'-s.n,by omega,?_⟩;cases h1:ZG ρ (b'-s.n)with
            |none=>rw[h1]at e2;cases e2
            |some o=>rw[h1]at e2;have e2:o=some i:=e2;rw[e2,e1]
      . simp only[Q,if_false]at e1;cases h1:ZG ρ (a-s.n)with
        |none=>rw[h1]at e1;cases e1
        | some o=>
          rw[h1]at e1;have e1:o=some i:=e1;subst e1;by_cases U:b'<s.n
          . simp only[U,if_true]at e2;split at e2
            . cases e2
            . rename_i hm2;have e2:=TJ e2;exact absurd ⟨a-s.n,by omega,by rw[h1,e2]⟩ hm2
          . simp only[U,if_false]at e2;cases h2:ZG ρ (b'-s.n)with
            |none=>rw[h2]at e2;cases e2
            | some o=>
              rw[h2]at e2;have e2:o=some i:=e2;subst e2;have:=hinj _ _ _ h1 h2;omega)
    (λa i O e=>by
      rw[SE,hn2];by_cases Q:a<s.n
      . simp only[Q,if_true]at e;split at e
        . cases e
        . rw[<-TJ e];exact Tn Q B.n
      . simp only[Q,if_false]at e;cases h1:ZG ρ (a-s.n)with
        |none=>rw[h1]at e;cases e
        |some o=>rw[h1]at e;have e:o=some i:=e;subst e;exact(hρ _ _ h1).2)
    (λa O=>by
      show(if a<s.n then(if mv a then []else seg2 a)else sgW W (a-s.n))=_;by_cases Q:a<s.n
      . simp only[Q,if_true];by_cases U:mv a
        . simp only[U,if_true]
        . simp only[U,if_false]
      . simp only [Q,if_false];unfold sgW;cases h1:ZG ρ (a-s.n)with
        | none => have:W (a-s.n)=none:=by show(ZG ρ (a-s.n)).map _=none;rw[h1];rfl
                  rw[this];rfl
        | some o=>
          have:W (a-s.n)=some (nuO {I' with H:=H2} o,sgO seg2 o):=Wf_of h1;rw[this];cases o<;>rfl)
  refine λa w hh=>hfin a w (ZJR (R:=(Rx.map seg2).flatten) hh ?_);rw[Ti,Ti,V.own,TI];refine(M.append_right F.flatten).trans ?_;rw[TI];exact RQ _ Ts
theorem ZQw{d:Type}{q:d}{b:PS}(hs:RS x s I seg l own H)(hb:b.n=s.n)(ht:RS x s' I' seg' l' own' H')(a:I.Le I')(c:okT b s' D=true->okC b s' C R=true->Agr s s' D C R){K:Kx}{k:VH (hyS K.S)->Option d}(h:pkK b D C R s' K k=some q):
 ∃y,k y=some q/\∀{Kc:Act->World->Prop},(∀o g,Bh x s I D C R K y l' o g->JN x Kc l' o g)->JN x Kc l' own' H':=by
 obtain⟨y,h1,h2⟩:=ZDc (F:=[]) hs hb ht a c h;refine⟨y,h1,λ{Kc} e=> ?_⟩;have:=h2 (Kc:=Kc) (λo g _ hb=>by rw[Tt];exact e o g hb);rwa[Tt]at this
end
def exX:Ex->Exit
 | .norm=>.normal
 | .exit id=>.exit id
 | .ret=>.ret
theorem P6 (s:PS)(D:List Nat)(C:List (Nat×Nat))(R:List Nat):Agr s s D C R:=⟨rfl,λ_ _ h _=>h,λ_ _ _ _ h _=>h,λ_ _ _ h=>h,TL _,λ_ h=>h,TL _,λ_ _ _ h _=>h⟩
theorem ZMM{a b:Ex}(h:eqE a b=true):a=b:=by
 cases a<;>cases b<;>first|rfl|(cases h;done)|exact congrArg Ex.exit (TB h)
section
variable{β:Type}{r:β}{x:Cx}{X:Env}{Z:Hints}{s s' b:PS}{I I':In}{seg seg':Nat->Own}{l l':Slots}{own own':List Own}{H H':Heaplet}{D:List Nat}{C:List (Nat×Nat)}{R:List Nat}
variable{Q:Exit->Act->World->Prop}
def Kc (x:Cx)(Q:Exit->Act->World->Prop)(s:PS)(I:In)(k:Ex->PS->Option β)(r:β):Prop:=
 ∀e s' I' seg' l' own' H',Xt s I s' I'->k e s'=some r->RS x s' I' seg' l' own' H'->JN x (Q (exX e)) l' own' H'
theorem Kc.ext{k:Ex->PS->Option β}(h:Kc x Q s I k r)(e:Xt s I s' I'):Kc x Q s' I' k r:=λa t I' seg' l' own' H' h1 b hs=>h a t I' seg' l' own' H' (e.trans h1) b hs
def BhE (x:Cx)(s:PS)(I:In)(D:List Nat)(C:List (Nat×Nat))(R:List Nat)(e:Ex)(ks:List Kx)(y:KT ks)(l:Slots)(o:List Own)(g:Heaplet):Prop:=
 ∀{β:Type} {k:Ex->PS->Option β} {r:β},elK s D C R k ks y=some r->∃u J seg,k e u=some r/\RS x u J seg l o g/\Xt s I u J/\((∀K∈ks,K.ts= [])->u.l=fgtL D s.l)
theorem ZGg{A:Type}{q:A}{b:PS}(hs:RS x s I seg l own H)(hb:b=s)(ht:RS x s' I' seg' l' own' H')(c:I.Le I')(d:okT b s' D=true->okC b s' C R=true->Agr s s' D C R){e:Ex}:
    ∀ {ks:List Kx} {a:KT ks->Option A},inK b D C R e s' ks a=some q->
      ∃y,a y=some q/\∀{K:Act->World->Prop},(∀o g,Hle H' g->BhE x s I D C R e ks y l' o g->JN x K l' o g)->JN x K l' own' H'
  |[],a,h=>by cases h
  | [p],a,h=>by
    have h:(Bool.rec none (pkK b D C R s' p a) (eqE e p.e):Option A)=some q:=h;cases f:eqE e p.e with
    |false=>rw[f]at h;cases h
    | true=>
      rw[f]at h;obtain⟨y,h1,h2⟩:=ZDc (F:=[]) hs (by rw[hb]) ht c d (show pkK b D C R s' p a=some q from h)
      exact⟨y,h1,λ{K} i=>by rw[<-Tt own'];exact h2 (λo g j m=>by rw[Tt];exact i o g j (λ{β k r} n=>by rw[ZMM f];obtain⟨u,J,sg,t,v,w,z⟩:=m (show upK s D C R p y (k p.e)=some r from n);exact⟨u,J,sg,t,v,w,λe=>z (e p (by simp))⟩))⟩
  | p ::B::ks,a,h=>by
    have h:(Bool.rec (inK b D C R e s' (B::ks) λx=>a (.inr x)) (pkK b D C R s' p λx=>a (.inl x)) (eqE e p.e):Option A)=some q:=h;cases f:eqE e p.e with
    | false=>
      rw[f]at h;obtain⟨y,h1,h2⟩:=ZGg hs hb ht c d (show inK b D C R e s' (B::ks) (λx=>a (.inr x))=some q from h)
      exact⟨.inr y,h1,λ{K} i=>h2 (λo g j m=>i o g j (λ{β k r} n=>by obtain⟨u,J,sg,t,v,w,z⟩:=m (show elK s D C R k (B::ks) y=some r from n);exact⟨u,J,sg,t,v,w,λe=>z (λK i=>e K (Sl _ i))⟩))⟩
    | true=>
      rw[f]at h;obtain⟨y,h1,h2⟩:=ZDc (F:=[]) hs (by rw[hb]) ht c d (show pkK b D C R s' p (λx=>a (.inl x))=some q from h)
      exact⟨.inl y,h1,λ{K} i=>by rw[<-Tt own'];exact h2 (λo g j m=>by rw[Tt];exact i o g j (λ{β k r} n=>by rw[ZMM f];obtain⟨u,J,sg,t,v,w,z⟩:=m (show upK s D C R p y (k p.e)=some r from n);exact⟨u,J,sg,t,v,w,λe=>z (e p (by simp))⟩))⟩
theorem ZNl{d:Type}{q:d}{b:PS}(hs:RS x s I seg l own H)(hb:b=s)(ht:RS x s' I' seg' l' own' H')(a:I.Le I')(c:okT b s' D=true->okC b s' C R=true->Agr s s' D C R){e:Ex}{ks:List Kx}{k:KT ks->Option d}(h:inK b D C R e s' ks k=some q):
 ∃y,k y=some q/\∀{K:Act->World->Prop},(∀o g,BhE x s I D C R e ks y l' o g->JN x K l' o g)->JN x K l' own' H':=by
 obtain⟨y,h1,h2⟩:=ZGg hs hb ht a c h;exact⟨y,h1,λf=>h2 λo g _ i=>f o g i⟩
theorem Zt{k:Ex->PS->Option β}{o:List Own}{g:Heaplet}(a:Kc x Q s I k r){e:Ex}{A:PS->Prop}(h:∃u J seg,k e u=some r/\RS x u J seg l' o g/\Xt s I u J/\A u):JN x (Q (exX e)) l' o g:=by
 obtain⟨u,J,sg,h1,h2,h3,_⟩:=h;exact a e u J sg l' o g h3 h1 h2
theorem ZH7{c:Code}{D:List Nat}{C:Cut}{k:Ex->PS->Option β}{run:(a:Type)->(Ex->PS->Option a)->Option a}(hs:RS x s I seg l own H)
 (b:∀{a:Type} {q:a} {d:Ex->PS->Option a},run a d=some q->∀{Q:Exit->Act->World->Prop},Kc x Q s I d q->JC x c Q l own H)(h:cutAt s D C run k=some r)(j:Kc x Q s I k r):JC x c Q l own H:=by
 obtain⟨t,h1,h2⟩:=Zb (show Option.bind (run (KT C.ks) λe s'=>inK s (D++tsK C.ks) C.dc C.dr e s' C.ks some) (elK s (D++tsK C.ks) C.dc C.dr k C.ks)=some r from h)
 refine b h1 (λe s' I' seg' l' own' H' f hi ht=> ?_);obtain⟨y,h3,m⟩:=ZNl hs rfl ht f.i (Agr.ext f.e) hi;cases h3;exact m (λo g n=>Zt j (n h2))
def dd:Slots->Slots
 |[]=> []
 |p::l=>p::(dd l).filter λq=> !Nat.beq p.1 q.1
theorem ZJW (k i:Nat):∀l:Slots,lk (l.filter λq=> !Nat.beq k q.1) i=if k=i then none else lk l i
  |[]=>by simp[lk]
  | p ::l=>by
    have ih:=ZJW k i l;by_cases h:k=p.1
    . rw[List.filter_cons_of_neg (by rw[<-h];simp),ih];by_cases q:k=i
      . rw[TG q,TG q]
      . rw[TM q,TM q];have:Nat.beq p.1 i=false:=V7 (by rw[<-h];exact q);simp[lk,this]
    . rw[List.filter_cons_of_pos (by rw[V7 h];rfl)];simp only[lk,ih];cases hb:Nat.beq p.1 i with
      | true=>
        have:p.1=i:=TB hb;subst this;simp[h]
      |false=>simp
theorem ZRj:∀(l:Slots) (i:Nat),lk (dd l) i=lk l i
  |[],i=>rfl
  | p::l,i=>by
    simp only[dd,lk,ZJW,ZRj l i];cases hb:Nat.beq p.1 i with
    |true=>rfl
    |false=>rw[TM (by intro e;rw[e]at hb;simp at hb)]
theorem ZN0:∀(l:Slots) (p:Nat×Value),p∈dd l->lk l p.1=some p.2
  |[],p,h=>by cases h
  | q ::l,p,h=>by
    rcases Ta.1 h with rfl|h
    . simp[lk]
    . obtain⟨h1,h2⟩:=List.mem_filter.1 h;have:=ZN0 l p h1;have hb:Nat.beq q.1 p.1=false:=(by simpa using h2);simp[lk,hb,this]
theorem RS.lk{a:Slots}(hs:RS x s I seg l own H)(h:∀i,Go.Ow.lk a i=Go.Ow.lk l i):RS x s I seg a own H:=
 ⟨hs.N,hs.H,hs.n,hs.q,hs.own,λt c e=>(hs.sl t c e).imp id fun⟨v,h1,h2⟩=>⟨v,by rw[h];exact h1,h2⟩,hs.ze,hs.ce,hs.fx,hs.rw,hs.rz,hs.ro⟩
theorem sub_self:∀{l L:Slots},(∀p∈l,lk L p.1=some p.2)->Sub l L
 |[],L,h=>trivial
 |p::l,L,h=>⟨h p (by simp),sub_self λq a=>h q (by simp[a])⟩
theorem ZSr{c:Code}{D:List Nat}{L:Lp}{k:Ex->PS->Option β}{body:PS->(Ex->PS->Option (VH (hyS L.h.S) ⊕ KT L.ks))->Option (VH (hyS L.h.S) ⊕ KT L.ks)}(hs:RS x s I seg l own H)
    (A:∀{s1:PS} {I1:In} {C:Nat->Own} {M:Slots} {j:List Own} {H1:Heaplet} {q:VH (hyS L.h.S) ⊕ KT L.ks} {T:Ex->PS->Option (VH (hyS L.h.S) ⊕ KT L.ks)},RS x s1 I1 C M j H1->body s1 T=some q->∀{Q:Exit->Act->World->Prop},Kc x Q s1 I1 T q->JC x c Q M j H1)
    (h:ZKL s D L body k=some r)(U:Kc x Q s I k r):JC x (.loop c) Q l own H:=by
  unfold ZKL at h;obtain⟨d,Y⟩:∃d,d=D++L.h.ts++tsK L.ks:=⟨_,rfl⟩;rw[<-Y]at h;obtain⟨B,V⟩:∃B:VH (hyS L.h.S)->Option (VH (hyS L.h.S) ⊕ KT L.ks),B=λx=>upK s d L.dc L.dr L.h x λs1=>body s1 λe s'=>match e with| .norm=>pkK s d L.dc L.dr s' L.h λy=>some (.inl y)|e=>inK s d L.dc L.dr e s' L.ks λy=>some (.inr y):=⟨_,rfl⟩
  have h:pkK s d L.dc L.dr s L.h (λx=>Option.bind (loop B x) (elK s d L.dc L.dr k L.ks))=some r:=by rw[V];exact h
  obtain⟨Z,h1,h2⟩:=ZQw hs rfl hs (In.Le.refl _) (λ_ _=>P6 s d L.dc L.dr) h;obtain⟨t,h3,W⟩:=Zb h1;refine h2 (Kc:=λa w=>(Code.loop c).wpIn (Fw x.r) 0 x.P Q a w) (λo0 g0 N=> ?_);refine ZIV (λn l o g=>∃y,Go.Ow.run B n y=some t/\(∀p∈l,True)/\Bh x s I d L.dc L.dr L.h y l o g) FUEL (l0:=dd l) ?_ ⟨Z,h3,λ_ _=>trivial,λ{β k r} G=> ?_⟩ (sub_self (ZN0 l)) ?_
  . rintro l o g ⟨_,h,_⟩;exact ZLJ h
  . obtain⟨u,J,sg,O,R,v⟩:=N G;exact⟨u,J,sg,O,R.lk (ZRj l),v⟩
  . rintro n M o g ⟨y,hr,-,hb⟩;obtain⟨q,G,b⟩:=ZDW hr;rw[V]at G;obtain⟨u,J,sg,O,R,v,_⟩:=hb G;refine A R O (λe s' I' seg' l' own' H' K hi ht=> ?_);have m:okT s s' d=true->okC s s' L.dc L.dr=true->Agr s s' d L.dc L.dr:=Agr.ext (v.trans K).e;cases e with
    | norm=>
      obtain⟨z,E,F⟩:=ZQw hs rfl ht (v.trans K).i m hi;cases E;exact F (λo' X f a w hh=>⟨l',_,_,⟨z,b,λ_ _=>trivial,f⟩,hh⟩)
    | exit id=>
      obtain⟨z,E,F⟩:=ZNl hs rfl ht (v.trans K).i m hi;cases E;have b:z=t:=b;subst b;exact F (λo' X f=>Zt (e:=.exit id) U (f W))
    | ret=>
      obtain⟨z,E,F⟩:=ZNl hs rfl ht (v.trans K).i m hi;cases E;have b:z=t:=b;subst b;exact F (λo' X f=>Zt (e:=.ret) U (f W))
theorem ZPJ{c:Code}{run:(β:Type)->PS->(Ex->PS->Option β)->Option β}{n:Nat}{k:Ex->PS->Option β}(hs:RS x s I seg l own H)
 (i:∀{s1:PS} {I1:In} {b:Nat->Own} {j:Slots} {d:List Own} {H1:Heaplet} {q:Ex->PS->Option β},RS x s1 I1 b j d H1->run β s1 q=some r->∀{Q:Exit->Act->World->Prop},Kc x Q s1 I1 q r->JC x c Q j d H1)
 (h:ZGw run n s k=some r)(t:Kc x Q s I k r):JC x (.loop c) Q l own H:=by
 refine ZIV (λn l o g=>∃s1 I1 b,RS x s1 I1 b l o g/\ZGw run n s1 k=some r/\Xt s I s1 I1) n (l0:=dd l) ?_ ⟨s,I,seg,hs.lk (ZRj l),h,Ps _ _⟩ (sub_self (ZN0 l)) ?_
 . rintro l o g ⟨_,_,_,_,h,_⟩;cases h
 . rintro n j o g ⟨s1,I1,b,m,h,p⟩;refine i m (show run β s1 (λe s'=>match e with| .norm=>ZGw run n s' k|e=>k e s')=some r from h) (λe s' I' seg' l' own' H' f hi ht=> ?_);cases e with
   |norm=>exact λa w u=>⟨l',own',H',⟨s',I',seg',ht,hi,p.trans f⟩,u⟩
   |exit id=>exact t (.exit id) s' I' seg' l' own' H' (p.trans f) hi ht
   |ret=>exact t .ret s' I' seg' l' own' H' (p.trans f) hi ht
theorem ZED (D:EnvOk X)(E:x.P=X.P):∀{c:Code} {β:Type} {r:β} {s:PS} {k:Ex->PS->Option β} {I:In} {seg:Nat->Own} {l:Slots} {own:List Own} {H:Heaplet},code X Z c β s k=some r->RS x s I seg l own H->∀{Q:Exit->Act->World->Prop},Kc x Q s I k r->JC x c Q l own H:=by
  intro c;induction c with
  |skip=>intro β r s k I seg l own H h hs Q d;exact JC.skip (d .norm s I seg l own H (Ps _ _) h hs)
  |ret=>intro β r s k I seg l own H h hs Q d;exact ZIU (d .ret s I seg l own H (Ps _ _) h hs)
  |exit id=>intro β r s k I seg l own H h hs Q d;exact ZEV (d (.exit id) s I seg l own H (Ps _ _) h hs)
  | region id ops dr=>
    intro β r s k I seg l own H h hs Q d;have h:(Bool.rec (match ZG Z.cut (4*id)with
      |some C=>cutAt s (dstL ops.toList) (C.at s) (λ_ k=>pops X ops.toList ops.toList s (k .norm)) k
      |none=>pops X ops.toList ops.toList s (k .norm)) (match ZG Z.cut (4*id)with
      |some C=>cutAt s (dstL ops.toList) (C.at s) (λ_ k=>drawn X ops (ZG Z.mb id) s (k .norm)) k
      |none=>drawn X ops (ZG Z.mb id) s (k .norm)) dr:Option β)=some r:=h
    cases dr with
    | true=>
      have base:∀{g:Type} {q:g} {m:Ex->PS->Option g},drawn X ops (ZG Z.mb id) s (m .norm)=some q->∀{Q:Exit->Act->World->Prop},Kc x Q s I m q->JC x (.region id ops true) Q l own H:=λh Q d=>
        ZRg D E hs h (λs' I' seg' l' own' H' p f i=>d .norm s' I' seg' l' own' H' ⟨p.e,p.I⟩ f i)
      have h:(match ZG Z.cut (4*id)with
        |some C=>cutAt s (dstL ops.toList) (C.at s) (λ_ k=>drawn X ops (ZG Z.mb id) s (k .norm)) k
        |none=>drawn X ops (ZG Z.mb id) s (k .norm))=some r:=h
      split at h
      . exact ZH7 hs base h d
      . exact base h d
    | false=>
      have base:∀{g:Type} {q:g} {m:Ex->PS->Option g},pops X ops.toList ops.toList s (m .norm)=some q->∀{Q:Exit->Act->World->Prop},Kc x Q s I m q->JC x (.region id ops false) Q l own H:=λh Q d=>
        Q2 (ZOS D E hs h (λs' I' seg' l' own' H' p f i=>d .norm s' I' seg' l' own' H' ⟨p.e,p.I⟩ f i))
      have h:(match ZG Z.cut (4*id)with
        |some C=>cutAt s (dstL ops.toList) (C.at s) (λ_ k=>pops X ops.toList ops.toList s (k .norm)) k
        |none=>pops X ops.toList ops.toList s (k .norm))=some r:=h
      split at h
      . exact ZH7 hs base h d
      . exact base h d
  | seq a b u w=>
    intro β r s k I seg l own H h hs Q d;have base:∀{g:Type} {q:g} {m:Ex->PS->Option g},code X Z a g s (λe s'=>match e with| .norm=>code X Z b g s' m|e=>m e s')=some q->∀{Q:Exit->Act->World->Prop},Kc x Q s I m q->JC x (.seq a b) Q l own H:=λ{g q m} h Q d=>
      ZK6 (u h hs (λe s' I' seg' l' own' H' p f i=>by
        cases e with
        |norm=>exact J8 (w f i (d.ext p))
        |exit id=>exact ZA1 (d (.exit id) s' I' seg' l' own' H' p f i)
        |ret=>exact ZA2 (d .ret s' I' seg' l' own' H' p f i)))
    have h:(match ZG Z.cut (4*keyR a+3)with
      |some C=>cutAt s (dstC a++dstC b) (C.at s) (λg k=>code X Z a g s λe s'=>match e with| .norm=>code X Z b g s' k|e=>k e s') k
      |none=>code X Z a β s λe s'=>match e with| .norm=>code X Z b β s' k|e=>k e s')=some r:=h
    split at h
    . exact ZH7 hs base h d
    . exact base h d
  | cond o a b u w=>
    intro β r s k I seg l own H h hs Q d;cases o with
    | tmp t =>
      obtain⟨c,e1,h⟩:=ZU (show oB (ZG s.l t) (λv=>oBo v λe=>(match ZG Z.cut (4*(t+1000*(keyR a+1000*keyR b))+1)with
        |some C=>cutAt s (t::(dstC a++dstC b)) (C.at s) (λg k=>cond e (flag s t v true λs=>code X Z a g s k) (flag s t v false λs=>code X Z b g s k)) k
        |none=>cond e (flag s t v true λs=>code X Z a β s k) (flag s t v false λs=>code X Z b β s k)))=some r from h)
      rcases hs.sl _ _ e1 with rfl|⟨v,F,B⟩
      . cases h
      . obtain⟨e,hb,h⟩:=Gu h;have G:=hb.le _ _ B;simp only[VR]at G;subst G;have base:∀{g:Type} {q:g} {m:Ex->PS->Option g},cond e (flag s t c true λs=>code X Z a g s m) (flag s t c false λs=>code X Z b g s m)=some q->∀{Q:Exit->Act->World->Prop},Kc x Q s I m q->JC x (.cond (.tmp t) a b) Q l own H:=by
          intro g q m h Q d;rcases G8 h with⟨p,h⟩|⟨p,h⟩
          . rw[ZBN]at h;exact JC.cond F (λ_=>u h (hs.flag B hb.le p) (d.ext ⟨Ext.flag _ _ _ _,In.Le.refl _⟩)) (λq=>by rw[p]at q;cases q)
          . rw[ZBN]at h;exact JC.cond F (λq=>by rw[p]at q;cases q) (λ_=>w h (hs.flag B hb.le p) (d.ext ⟨Ext.flag _ _ _ _,In.Le.refl _⟩))
        split at h
        . exact ZH7 hs base h d
        . exact base h d
    | const v=>
      cases v with
      | bool e=>
        cases e with
        |true=>exact ZM1 rfl (u (show code X Z a β s k=some r from h) hs d)
        |false=>exact ZM2 rfl (w (show code X Z b β s k=some r from h) hs d)
      |_=>cases h
    |_=>cases h
  | block id b ih=>
    intro β r s k I seg l own H h hs Q d;have base:∀{g:Type} {q:g} {m:Ex->PS->Option g},code X Z b g s (λe s'=>match e with| .exit j=>Bool.rec (m e s') (m .norm s') (Nat.beq j id)|e=>m e s')=some q->∀{Q:Exit->Act->World->Prop},Kc x Q s I m q->JC x (.block id b) Q l own H:=λ{g q m} h Q d=>
      JC.block (ih h hs (λe s' I' seg' l' own' H' p f i=>by
        cases e with
        |norm=>exact DD (d .norm s' I' seg' l' own' H' p f i)
        |ret=>exact ZK3 (d .ret s' I' seg' l' own' H' p f i)
        | exit j=>
          have f:(Bool.rec (m (.exit j) s') (m .norm s') (Nat.beq j id):Option g)=some q:=f;cases A:Nat.beq j id with
          | true=>
            rw[A]at f;cases TB A;exact J9 (d .norm s' I' seg' l' own' H' p f i)
          | false=>
            rw[A]at f;exact DC A (d (.exit j) s' I' seg' l' own' H' p f i)))
    have h:(match ZG Z.cut (4*id+2)with
      |some C=>cutAt s (dstC b) (C.at s) (λg k=>code X Z b g s λe s'=>match e with| .exit j=>Bool.rec (k e s') (k .norm s') (Nat.beq j id)|e=>k e s') k
      |none=>code X Z b β s λe s'=>match e with| .exit j=>Bool.rec (k e s') (k .norm s') (Nat.beq j id)|e=>k e s')=some r:=h
    split at h
    . exact ZH7 hs base h d
    . exact base h d
  | loop b ih=>
    intro β r s k I seg l own H h hs Q d;have h:(match lkL s Z.lp (keyR b)with
      |some L=>ZKL s (dstC b) (L.at s) (code X Z b _) k
      |none=>(match ZG Z.un (keyR b)with|some n=>ZGw (code X Z b) n s k|none=>none))=some r:=h
    split at h
    . exact ZSr hs (λy h1 Q z=>ih h1 y z) h d
    . split at h
      . exact ZPJ hs (λy h1 Q z=>ih h1 y z) h d
      . cases h
  |_=>intro β r s k I seg l own H h hs Q d;cases h
theorem ZEP:∀{cs:List CV} {vs:List Value} {k t:Nat} {c:CV},VRs I cs vs->ZG (argsL cs k) t=some c->∃v,Go.Ow.lk ((List.range' k vs.length).zip vs) t=some v/\VR I c v
  |[],vs,k,t,c,b,h=>by cases h
  | a ::cs,vs,k,t,c,b,h=>by
    obtain⟨v,us,rfl,h1,h2⟩:=b.un;change ZG ((k,a)::argsL cs (k+1)) t=some c at h;rw[ZE]at h;simp only[TZ,S6,RO,Go.Ow.lk];by_cases q:k=t
    . rw[TG q]at h;cases h;rw[show Nat.beq k t=true from by simpa using q];exact⟨v,rfl,h1⟩
    . rw[TM q]at h;rw[V7 q];exact ZEP h2 h
theorem ZJq:∀(vs:List Value) (k:Nat) (p:Nat×Value),p∈(List.range' k vs.length).zip vs->k<=p.1/\Go.Ow.lk ((List.range' k vs.length).zip vs) p.1=some p.2
  |[],k,p,h=>by simp at h
  | v ::vs,k,p,h=>by
    simp only[TZ,S6,RO,Ta]at h|-;rcases h with rfl|h
    . exact⟨TL _,by simp[Go.Ow.lk]⟩
    . obtain⟨h1,h2⟩:=ZJq vs (k+1) p h;refine⟨by omega,?_⟩;simp only[Go.Ow.lk];rw[V7 (by omega)];exact h2
theorem ZDY (i:x.P=X.P)(hs:RS x s I seg l own H):∀{d:List ResultVar} {k:List CV->Option β},Gk X.P s d k=some r->∃cs us,Res x.P l own d us/\VRs I cs us/\k cs=some r
  |[],k,h=>⟨[],[],rfl,VRs.nil,h⟩
  | .tmp t::d,k,h=>by
    obtain⟨c,e,h⟩:=ZU (show oB (ZG s.l t) (λc=>kn c λc=>Gk X.P s d λr=>k (c::r))=some r from h)
    obtain⟨h0,h⟩:=ZBK h;obtain⟨v,e1,e2⟩:=(hs.sl _ _ e).resolve_left h0;obtain⟨cs,us,j,p,h⟩:=ZDY i hs h;exact⟨c::cs,v::us,Yq e1 j,VRs.cons e2 p,h⟩
  | .cell t T ::d,k,h=>by
    obtain⟨c,e,h⟩:=ZU (show oB (ZG s.l t) (λc=>(match c with| .ptr a o=>bb (Nat.beq o 0) (oB (ZG s.z a) λm=>bb (match ZC X.P T with|some (true,n)=>Nat.beq n m|some (false,_)=>true|none=>false) (ldO X.P s T a 0 λc=>Gk X.P s d λr=>k (c::r)) none) none|_=>none))=some r from h)
    cases c with
    | ptr a o =>
      obtain⟨D,h⟩:=ZA h;cases TB D;obtain⟨m,E,h⟩:=ZU h;obtain⟨g,h⟩:=ZA h;obtain⟨v,e1,e2⟩:=(hs.sl _ _ e).resolve_left (by simp);simp only[VR]at e2;obtain⟨_,rfl⟩:=e2;obtain⟨F,cur,G,u,y⟩:=hs.ze _ _ E;have hi:own[a]? =some [((I.ν a).1,Obj.cells cur G (0,0))]:=(by rw[Yi hs F,u]);unfold ldO at h;split at h
      . rename_i n b;obtain⟨c,e3,h⟩:=ZU h;obtain⟨h0,h⟩:=ZBK h;obtain⟨_,q,_,w,f,A,C⟩:=(hs.ce _ _ _ e3).resolve_left h0;rw[u]at f;simp only[SA,SD,Obj.cells.injEq,and_true,Rd]at f;obtain⟨rfl,_⟩:=f;obtain⟨cs,us,j,p,h⟩:=ZDY i hs h;exact⟨c::cs,w::us,ZP0 a e1 hi (by rw[i];exact b) A j,VRs.cons C p,h⟩
      . rename_i n b;rw[b]at g;have g:=TB g;obtain⟨cl,h,J,K⟩:=ZDi hs h;obtain⟨cs,us,j,p,h⟩:=ZDY i hs (show Gk X.P s d (λr=>k (.ag cl::r))=some r from h)
        have B:VR I (.ag cl) (.agg cur):=by
          simp only[VR];rcases K with rfl|⟨_,q,_,f,A,C⟩
          . cases cl with
            | nil=>
              refine⟨[],?_,VRs.nil⟩;have:cur= #[]:=Array.eq_empty_of_size_eq_zero (by rw[y,<-g]);rw[this]
            |cons=>cases J
          . rw[u]at f;simp only[SA,SD,Obj.cells.injEq,and_true,Rd]at f;obtain⟨rfl,_⟩:=f;refine⟨_,?_,A⟩;apply congrArg;apply RG.1;rw[List.drop_zero,Tg (by rw[TR,y,g];exact TL _),Tj]
        refine⟨.ag cl::cs,.agg cur::us,ZBU a e1 hi ?_ j,VRs.cons B p,h⟩;rw[i,b,TR,y,g]
      . cases h
    |_=>cases h
theorem ZJE{P:Program}{s t:PS}(h:SameB s t){a:List ResultVar}{k:List CV->Option β}:Gk P t a k=Gk P s a k:=by
 obtain⟨N,l,o,z,n,f,c,r⟩:=s;obtain⟨i,l',o',j,m,p,q,u⟩:=t;obtain⟨h1,h2,h3,b,d,e,g⟩:=h;simp only at h1 h2 h3 b d e g;subst h1 h2 h3 b d e g;rfl
theorem ZC4:∀{n i:Nat},ZG (idR n) i=if i<n then some (some i)else none
  |0,i=>rfl
  | n +1,i=>by
    rw[show idR (n+1)=(n,some n)::idR n from rfl,ZE,ZC4];by_cases q:n=i
    . subst q;rw[TG rfl,TG (SN _)]
    . rw[TM q];by_cases a:i<n
      . rw[TG a,TG (by omega)]
      . rw[TM a,TM (by omega)]
theorem ZOZ{i n:Nat}:∀{l:List (Nat×CV)} {k:Nat} {c:CV},ZG (mvl i n l) k=some c->∃d,ZG l k=some d/\c=mvC i n d
  | p ::l,k,c,h=>by
    have h:ZG ((p.1,mvC i n p.2)::mvl i n l) k=some c:=h;rw[ZE]at h;rw[ZE];split at h
    . rename_i q;cases h;rw[TG q];exact⟨_,rfl,rfl⟩
    . rename_i q;rw[TM q];exact ZOZ h
theorem ZGb{i n:Nat}:∀{l:List ((Nat×Nat)×CV)} {a o:Nat} {c:CV},lkO (mvl i n l) a o=some c->∃d,lkO l a o=some d/\c=mvC i n d
  | p ::l,a,o,c,h=>by
    have h:(Bool.rec (lkO (mvl i n l) a o) (Bool.rec (lkO (mvl i n l) a o) (some (mvC i n p.2)) (Nat.beq p.1.2 o)) (Nat.beq p.1.1 a):Option CV)=some c:=h;show∃d,(Bool.rec (lkO l a o) (Bool.rec (lkO l a o) (some p.2) (Nat.beq p.1.2 o)) (Nat.beq p.1.1 a):Option CV)=some d/\c=mvC i n d;cases h1:Nat.beq p.1.1 a with
    |false=>rw[h1]at h;exact ZGb h
    | true=>
      rw[h1]at h;cases h2:Nat.beq p.1.2 o with
      |false=>rw[h2]at h;exact ZGb h
      |true=>rw[h2]at h;cases h;exact⟨_,rfl,rfl⟩
noncomputable def mvS (s:PS) (i:Nat) (t:Ty) (E:Nat) (m:List (den t)):PS:=⟨s.N,mvl i s.n s.l,mvl i s.n s.o,s.z,s.n+1,s.f,s.c,(s.n,.own t E m)::(i,.dead)::s.r⟩
theorem RS.mv{i:Nat}{t:Ty}{E:Nat}{m:List (den t)}(hs:RS x s I seg l own H)(e:ZG s.r i=some (.own t E m)):
    RS x (mvS s i t E m) {I with ν:=upN I.ν s.n (I.ν i),n:=s.n+1} (upN (upN seg i []) s.n (seg i)) l ((List.range (s.n+1)).map (upN (upN seg i []) s.n (seg i))) H:=by
  obtain⟨hi,D⟩:=(hs.rw _ _ e).resolve_left (by simp);have u:ZG s.z i=none:=(hs.rz _ _ e).resolve_left (by simp);have f:∀a,a<s.n->upN I.ν s.n (I.ν i) a=I.ν a:=λa A=>ZY (St A);have g:∀a,a<s.n->a≠i->upN (upN seg i []) s.n (seg i) a=seg a:=λa A b=>by rw[ZY (St A),ZY b]
  have w:I.Le {I with ν:=upN I.ν s.n (I.ν i),n:=s.n+1}:=⟨R1 _,by show I.n<=s.n+1;rw[hs.n];omega,λk F=>f k (by rw[<-hs.n];exact F),TL _,λ_ _=>rfl⟩;have y:∀{c:CV} {v:Value},(c=.unk\/VR I c v)->(mvC i s.n c=.unk\/VR {I with ν:=upN I.ν s.n (I.ν i),n:=s.n+1} (mvC i s.n c) v):=λ{c v} h=>by
    cases c with
    | row j=>
      have B:=h.resolve_left (by simp)
      right;show VR _ (Bool.rec (.row j) (.row s.n) (Nat.beq j i):CV) v;cases G:Nat.beq j i with
      |false=>exact B.mono w
      | true=>
        have:=TB G;subst this;simp only[VR]at B|-;refine⟨SN _,?_⟩;rw[show upN I.ν s.n (I.ν j) s.n=I.ν j from Ze _ _ _];exact B.2
    |_=>exact h.imp id λh=>h.mono w
  refine⟨hs.N,hs.H,rfl,hs.q,rfl,λt c e2=> ?_,λa k e2=> ?_,λa o c e2=> ?_,hs.fx,λk c e2=> ?_,λk c e2=> ?_,λk c j d e2 e3=> ?_⟩
  . obtain⟨d,p,rfl⟩:=ZOZ (show ZG (mvl i s.n s.l) t=some c from e2)
    rcases hs.sl t d p with h|⟨v,h1,h2⟩
    . exact .inl (by rw[h];rfl)
    . exact(y (.inr h2)).imp id λh=>⟨v,h1,h⟩
  . obtain⟨h1,h2⟩:=hs.ze a k e2;have b:a≠i:=λq=>(by subst q;rw[show ZG s.z a=some k from e2]at u;cases u);refine⟨Sc h1,?_⟩;rw[g a h1 b];show∃cur T,seg a= [((upN I.ν s.n (I.ν i) a).1,_)]/\_;rw[f a h1];exact h2
  . obtain⟨d,p,rfl⟩:=ZGb (show lkO (mvl i s.n s.o) a o=some c from e2)
    rcases hs.ce a o d p with h|⟨h1,cur,T,v,h2,h3,J⟩
    . exact .inl (by rw[h];rfl)
    . by_cases b:a=i
      . subst b;rcases hs.ro _ _ _ _ e p with h|h
        . cases h
        . exact .inl (by rw[h];rfl)
      . refine(y (.inr J)).imp id λh=>⟨Sc h1,cur,T,v,?_,h3,h⟩;rw[g a h1 b];show seg a= [((upN I.ν s.n (I.ν i) a).1,_)];rw[f a h1];exact h2
  . change ZG ((s.n,RC.own t E m)::(i,RC.dead)::s.r) k=some c at e2;rw[ZE]at e2;split at e2
    . rename_i q;have q:s.n=k:=q;subst q;cases e2;refine .inr ⟨SN _,?_⟩;rw[Ze];show RwOk I.H (upN I.ν s.n (I.ν i) s.n).2 _ _;rw[Ze];exact D
    . rename_i q;rw[ZE]at e2;split at e2
      . cases e2;exact .inl rfl
      . rename_i C;have C:¬i=k:=C;refine(hs.rw k c e2).imp id fun⟨h1,h2⟩=>⟨Sc h1,?_⟩;rw[g k h1 (λh=>C h.symm)];show RwOk I.H (upN I.ν s.n (I.ν i) k).2 _ _;rw[f k h1];exact h2
  . change ZG ((s.n,RC.own t E m)::(i,RC.dead)::s.r) k=some c at e2;rw[ZE]at e2;split at e2
    . rename_i q;have q:s.n=k:=q;subst q
      right;show ZG s.z s.n=none;cases h:ZG s.z s.n with
      |none=>rfl
      |some m=>have:=(hs.ze _ m h).1;omega
    . rw[ZE]at e2;split at e2
      . cases e2;exact .inl rfl
      . exact hs.rz k c e2
  . change ZG ((s.n,RC.own t E m)::(i,RC.dead)::s.r) k=some c at e2;obtain⟨K,p,rfl⟩:=ZGb (show lkO (mvl i s.n s.o) k j=some d from e3)
    rw[ZE]at e2;split at e2
    . rename_i q;have q:s.n=k:=q;subst q;rcases hs.ce _ _ _ p with h|⟨h1,_⟩
      . exact .inr (by rw[h];rfl)
      . omega
    . rw[ZE]at e2;split at e2
      . cases e2;exact .inl rfl
      . exact(hs.ro k c j K e2 p).imp id λh=>by rw[h];rfl
theorem ZSo{n i:Nat}{seg:Nat->Own}(hi:i<n):(((List.range n).map seg).flatten).Perm (((List.range (n+1)).map (upN (upN seg i []) n (seg i))).flatten):=by
 have h1:(List.range n).map (upN (upN seg i []) n (seg i))=((List.range n).map seg).set i []:=by
  apply Tp;intro j;rw[T5];simp only[Sb];by_cases h:j<n
  . rw[Rm h];simp only[RB];rw[ZY (St h)];by_cases q:i=j
    . subst q;simp[Ze,hi]
    . rw[TM q,ZY (Ne.symm q)]
  . have:(List.range n)[j]? =none:=(by simp;omega);rw[this];by_cases q:i=j
    . omega
    . rw[TM q];rfl
 rw[List.range_succ,Su,h1];have h2:(List.map (upN (upN seg i []) n (seg i)) [n])= [seg i]:=by show [upN _ n (seg i) n]=_;rw[Ze]
 rw[h2];have h3:=Gp (own:=(List.range n).map seg) (j:=i) (K:=seg i) (by simpa using hi);have a:((List.range n).map seg).set i (seg i)=(List.range n).map seg:=by
  apply Tp;intro j;rw[T5];by_cases q:i=j
  . subst q;simp[hi]
  . rw[TM q]
 rw[a]at h3;exact h3
theorem ZGc{F:List Own}{C:Act->World->Prop}{B:Nat}:∀{js:List Nat} {s:PS} {I:In} {seg:Nat->Own} {own:List Own} {k:PS->Option β},RS x s I seg l own H->B<=s.n->mvJ js s k=some r->
    (∀s1 I1 b o,(∀a,a<B->I1.ν a=I.ν a)->RS x s1 I1 b l o H->k s1=some r->JN x C l (o++F) H)->JN x C l (own++F) H
  |[],s,I,seg,own,k,hs,d,h,c=>c s I seg own (λ_ _=>rfl) hs h
  | i ::js,s,I,seg,own,k,hs,d,h,c=>by
    replace h:=show(match ZG s.r i with
      |some (.own t E m)=>mvJ js (mvS s i t E m) k
      |_=>mvJ js s k)=some r from h
    split at h
    . rename_i t E m e;have hi:=((hs.rw _ _ e).resolve_left (by simp)).1;have f:=hs.mv e;have:=ZGc (F:=F) f (show B<=s.n+1 by omega) h (λs1 I1 b o h1 h2 h3=>c s1 I1 b o (λa g=>by rw[h1 a g];exact ZY (by omega)) h2 h3);intro a w j;refine this a w (hperm j ?_);rw[hs.own,Ti,Ti];exact(ZSo hi).append_right _
    . exact ZGc hs d h c
theorem ZQ3{C:Act->World->Prop}{B:Nat}{js:List Nat}{k:PS->Option β}(hs:RS x s I seg l own H)(c:B<=s.n)(h:mvJ js s k=some r)
 (d:∀s1 I1 b o,(∀a,a<B->I1.ν a=I.ν a)->RS x s1 I1 b l o H->k s1=some r->JN x C l o H):JN x C l own H:=by
 have:=ZGc (F:=[]) (C:=C) hs c h (λs1 I1 b o h1 h2 h3=>by rw[Tt];exact d s1 I1 b o h1 h2 h3);rwa[Tt]at this
theorem ZRe{fn:Func}{i o:Sp}{y:VH (hyS o)}{w:World}{W:Wt}{l':Slots}{A:Exit}{I1:In}{s:Nat->Own}{c:List Own}{H1:Heaplet}{s1:PS}(f:∀k w,W k=some w->k<i.bs.length)(B:∀k w,W k=some w->I1.ν k=w.1)
    (C:RS {P:=X.P,r:=none,n:=fn.ntmps,w0:=w,H0:=H,S:=ids ((List.range i.bs.length).map (sgW W)).flatten,ds:=[]} s1 I1 s l' c H1)(D:A=.ret\/A=.normal)
    (T:oB (Gk X.P s1 fn.results.toList some) (λl=>mtS s1 o l (idR i.bs.length) λhs ρ js=>bb (allB (λp=>Nat.blt p.1 o.bs.length) ρ) (toVH (hyS o) hs some) none)=some y):
    JN {P:=X.P,r:=none,n:=fn.ntmps,w0:=w,H0:=H,S:=ids ((List.range i.bs.length).map (sgW W)).flatten,ds:=[]} (Ret {P:=X.P,r:=none,n:=fn.ntmps,w0:=w,H0:=H,S:=ids ((List.range i.bs.length).map (sgW W)).flatten,ds:=[]} fn (λu K' H'=>∃us v,(∀k w,v k=some w->k<o.bs.length)/\(∀k w,W k=some w->∃Q,v k=some Q/\Q.1=w.1)/\u=Ow.pack us/\TellsS H' v o (ofVH (hyS o) y) us/\K'=(List.range o.bs.length).map (sgW v)) A) l' c H1:=by
  obtain⟨U,E,m⟩:=ZU T;obtain⟨hv,ρ,js,m,q,t,F,G⟩:=ZCn m (λi j a e1 e2=>by
    rw[ZC4]at e1 e2;split at e1
    . split at e2
      . have e1:=TJ (TJ e1);have e2:=TJ (TJ e2);omega
      . cases e2
    . cases e1)
  obtain⟨h,m⟩:=ZA m;have h:∀k a,ZG ρ k=some a->k<o.bs.length:=λk a e=>by simpa using ZW.1 h _ (UN e)
  obtain⟨y',V,I⟩:=UX m;cases I;subst V;have J:∀k,k<i.bs.length->ZG ρ k=some (some k):=λk L=>q _ _ (by rw[ZC4,TG L]);refine BS (js:=js) C (λseg2 R H2 g2 d=> ?_);obtain⟨Y,us,Z,f2,f3⟩:=ZDY (x:={P:=X.P,r:=none,n:=fn.ntmps,w0:=w,H0:=H,S:=ids ((List.range i.bs.length).map (sgW W)).flatten,ds:=[]}) rfl d (by rw[ZJE (Y6 js s1)];exact E);cases f3;have M:=G {I1 with H:=H2} seg2 us (Rw.of d) f2.vu;have O:∀k w,Wf ρ {I1 with H:=H2} seg2 k=some w->k<o.bs.length:=λk w e=>by
    unfold Wf at e;cases e2:ZG ρ k with
    |none=>rw[e2]at e;cases e
    |some a=>exact h k a e2
  obtain ⟨Rx,_,hp⟩:=ZA6 (g:=seg2) (K:=List.range (pubS js s1).n) (N:=o.bs.length) (seg:=sgW (Wf ρ {I1 with H:=H2} seg2)) (λk=>(ZG ρ k).bind id)
    (λa b z _ _ e1 e2=>by
      cases h1:ZG ρ a with
      |none=>rw[h1]at e1;cases e1
      | some o1=>cases h2:ZG ρ b with
        |none=>rw[h2]at e2;cases e2
        | some o2=>
          rw[h1]at e1;rw[h2]at e2;have e1:o1=some z:=e1;have e2:o2=some z:=e2;subst e1 e2;exact t _ _ _ h1 h2)
    (λa z _ e=>by
      cases h1:ZG ρ a with
      |none=>rw[h1]at e;cases e
      |some o=>rw[h1]at e;have e:o=some z:=e;subst e;rw[SE,(Y6 js s1).n];exact(F _ _ h1).2)
    (λk _=>by
      unfold sgW Wf;cases ZG ρ k with
      |none=>rfl
      |some a=>cases a<;>rfl)
  refine Yc (K:=(List.range o.bs.length).map (sgW (Wf ρ {I1 with H:=H2} seg2))) (rst:=Rx.map seg2) D (by simp) rfl Z (by rw[d.own];exact hp) ⟨us,_,O,λk w e=> ?_,rfl,M,rfl⟩;have L:=f k w e;refine⟨_,Wf_of (J k L),?_⟩;exact B k w e
def Enter (P:Program)(f:Nat)(DO:Array Value->List Own->Heaplet->(Value->List Own->Heaplet->Prop)->Prop):Prop:=
  ∀ {fn:Func} {c:Code} {vs:List Value} {K:List Own} {H:Heaplet} {R:Value->List Own->Heaplet->Prop},P.funcs[f]? =some fn->fn.body=some c->Nat.ble vs.length fn.ntmps=true->
    (∀w,JC {P:=P,r:=none,n:=fn.ntmps,w0:=w,H0:=H,S:=ids K.flatten,ds:=[]} c (Ret {P:=P,r:=none,n:=fn.ntmps,w0:=w,H0:=H,S:=ids K.flatten,ds:=[]} fn R) ((List.range' 0 vs.length).zip vs) K H)->DO vs.toArray K H R
theorem ZNt{P:Program}{f:Nat}:Enter P f (Does P f):=λ{fn c vs K H R} a b hn h=>Does.enter (l:=(List.range' 0 vs.length).zip vs) a b hn (sub_self λp d=>(ZJq vs 0 p d).2) h
theorem ZOk{DO:Array Value->List Own->Heaplet->(Value->List Own->Heaplet->Prop)->Prop}{f:Nat}(Q:Enter X.P f DO)(hX:EnvOk X){i o:Sp}:FnOkG DO i o (fnV X Z f i o):=by
 intro H W vs z y C hT h;obtain⟨fn,hf,h⟩:=ZU (show oB X.P.funcs[f]? (λfn=>oB fn.body λc=>PS.bu ⟨fn.ntmps,[],[],[],0,[],0,[]⟩ [] i (ofVH (hyS i) z) λus s=>QD (argsL us 0) λl=>bb (Nat.ble l.length fn.ntmps) (code X Z c (VH (hyS o)) ⟨s.N,l,s.o,s.z,s.n,s.f,s.c,s.r⟩ λe s=>match e with
  | .exit _=>none
  |_=>JO Z.pb s λs=>mvJ Z.mv s λs=>oB (Gk X.P s fn.results.toList some) λl=>mtS s o l (idR i.bs.length) λhs ρ js=>bb (allB (λp=>Nat.blt p.1 o.bs.length) ρ) (toVH (hyS o) hs some) none) none)=some y from h)
 obtain⟨c,R,h⟩:=ZU h;obtain⟨hok,cs,T,c1,F,G,I,g,hLi,hBi,h⟩:=J6 h;rw[XS]at h;obtain⟨hn,h⟩:=ZA h;have U:∀(cs:List CV) (k:Nat),(argsL cs k).length=cs.length:=λcs=>by
  induction cs with
  |nil=>intro k;rfl
  |cons a cs ih=>intro k;show(argsL cs (k+1)).length+1=_;rw[ih];rfl
 rw[U]at hn;let s0:PS:=⟨fn.ntmps,[],[],[],0,[],0,[]⟩;let J:In:={H:=H,ν:=λa=>match W a with|some w=>w.1|none=>(0,.nilIface),n:=0+i.bs.length,κ:=λc=>(cnt (ofVH (hyS i) z))[c]?.getD 0,q:=0+(cnt (ofVH (hyS i) z)).length};have hC:Cnt J 0 (cnt (ofVH (hyS i) z)):=λm j e=>by
  have D:=(TD.1 e).1;refine⟨by show 0+m<0+_;omega,?_⟩;show(cnt (ofVH (hyS i) z))[0+m]?.getD 0=j;rw[Tf,e];rfl
 have hsg:∀k,sg ([]:Rho) 0 k=k:=λk=>Tf k;have hW4:∀k w,W k=some w->sg ([]:Rho) 0 k<J.n/\J.ν (sg ([]:Rho) 0 k)=w.1/\sgW W (sg ([]:Rho) 0 k)=w.2:=λk w e=>by
  rw[hsg];refine⟨by show k<0+i.bs.length;have:=C k w e;omega,?_,?_⟩
  . show(match W k with|some w=>w.1|none=>_)=_;rw[e]
  . unfold sgW;rw[e]
 have base:∀(x:Cx) (l:Slots),x.n=fn.ntmps->RS x s0 ⟨H,λ_=>(0,.nilIface),0,λ_=>0,0⟩ (λ_=> []) l [] H:=λx l hx=>
  ⟨hx.symm,rfl,rfl,rfl,rfl,λt c e=>(by cases e),λa m e=>(by cases e),λa o c e=>(by cases e),λc R=>(by cases R),λk c e=>(by cases e),λk c e=>(by cases e),λk c o d e=>(by cases e)⟩
 have entry:∀(x:Cx) (l:Slots),x.n=fn.ntmps->VRs J cs vs/\RS x (buS s0 i G I (F++g)) J (sgW W) l ((List.range J.n).map (sgW W)) H:=λx l hx=>
  RS.bu (J:=J) (seg2:=sgW W) (base x l hx) hT hok hLi hBi (λi a e=>by cases e) (λi j a e=>by cases e) rfl rfl rfl (λa ha=>absurd ha (Tl _)) (λc R=>absurd R (Tl _)) hC hW4 (λa ha=>absurd ha (Tl _)) (λp hp D=>absurd D (Tl _)) (λp hp D=>absurd D (Tl _))
 have hJn:J.n=i.bs.length:=Tf _;have V:=(entry {P:=X.P,r:=none,n:=fn.ntmps,w0:=default,H0:=H,S:=[],ds:=[]} [] rfl).1;rw[V.length]at hn;refine Q hf R hn (λw=> ?_);obtain⟨_,b⟩:=entry {P:=X.P,r:=none,n:=fn.ntmps,w0:=w,H0:=H,S:=ids ((List.range i.bs.length).map (sgW W)).flatten,ds:=[]} ((List.range' 0 vs.length).zip vs) rfl;rw[hJn]at b;have M:RS {P:=X.P,r:=none,n:=fn.ntmps,w0:=w,H0:=H,S:=ids ((List.range i.bs.length).map (sgW W)).flatten,ds:=[]} ⟨(buS s0 i G I (F++g)).N,argsL cs 0,(buS s0 i G I (F++g)).o,(buS s0 i G I (F++g)).z,(buS s0 i G I (F++g)).n,(buS s0 i G I (F++g)).f,(buS s0 i G I (F++g)).c,(buS s0 i G I (F++g)).r⟩ J (sgW W) ((List.range' 0 vs.length).zip vs) ((List.range i.bs.length).map (sgW W)) H:=
  ⟨b.N,b.H,b.n,b.q,b.own,λt c e=>.inr (ZEP V e),b.ze,b.ce,b.fx,b.rw,b.rz,b.ro⟩
 refine ZED hX rfl h M ?_;intro e s' I' seg' l' own' H' he Y T;have fin:∀{K:Exit} (I1:In) (A:Nat->Own) (v:List Own) (H1:Heaplet) (s1:PS),(∀k,k<i.bs.length->I1.ν k=I'.ν k)->RS {P:=X.P,r:=none,n:=fn.ntmps,w0:=w,H0:=H,S:=ids ((List.range i.bs.length).map (sgW W)).flatten,ds:=[]} s1 I1 A l' v H1->K=.ret\/K=.normal->oB (Gk X.P s1 fn.results.toList some) (λl=>mtS s1 o l (idR i.bs.length) λhs ρ js=>bb (allB (λp=>Nat.blt p.1 o.bs.length) ρ) (toVH (hyS o) hs some) none)=some y->
  JN {P:=X.P,r:=none,n:=fn.ntmps,w0:=w,H0:=H,S:=ids ((List.range i.bs.length).map (sgW W)).flatten,ds:=[]} (Ret {P:=X.P,r:=none,n:=fn.ntmps,w0:=w,H0:=H,S:=ids ((List.range i.bs.length).map (sgW W)).flatten,ds:=[]} fn (λu K' H'=>∃us E,(∀k w,E k=some w->k<o.bs.length)/\(∀k w,W k=some w->∃w',E k=some w'/\w'.1=w.1)/\u=Ow.pack us/\TellsS H' E o (ofVH (hyS o) y) us/\K'=(List.range o.bs.length).map (sgW E)) K) l' v H1:=λI1 A v H1 s1 hν M O hr=>ZRe C (λk w e=>by
  have Y:=C k w e;rw[hν k Y,he.i.ν k (by show k<0+i.bs.length;omega)];show(match W k with|some w=>w.1|none=>_)=_;rw[e]) M O hr
 have hnn:i.bs.length<=s'.n:=by have:=he.e.n;show _<=_;exact TQ (by show i.bs.length<=0+i.bs.length;omega) this
 have L:∀{K:Exit},K=.ret\/K=.normal->JO Z.pb s' (λs=>mvJ Z.mv s λs1=>oB (Gk X.P s1 fn.results.toList some) (λl=>mtS s1 o l (idR i.bs.length) λhs ρ js=>bb (allB (λp=>Nat.blt p.1 o.bs.length) ρ) (toVH (hyS o) hs some) none))=some y->
  JN {P:=X.P,r:=none,n:=fn.ntmps,w0:=w,H0:=H,S:=ids ((List.range i.bs.length).map (sgW W)).flatten,ds:=[]} (Ret {P:=X.P,r:=none,n:=fn.ntmps,w0:=w,H0:=H,S:=ids ((List.range i.bs.length).map (sgW W)).flatten,ds:=[]} fn (λu K' H'=>∃us E,(∀k w,E k=some w->k<o.bs.length)/\(∀k w,W k=some w->∃w',E k=some w'/\w'.1=w.1)/\u=Ow.pack us/\TellsS H' E o (ofVH (hyS o) y) us/\K'=(List.range o.bs.length).map (sgW E)) K) l' own' H':=by
  intro K O hr;rw[WG]at hr;refine BS (js:=Z.pb) T (λseg2 own2 H2 g2 hs2=> ?_);exact ZQ3 (B:=i.bs.length) hs2 (by rw[(Y6 Z.pb s').n];exact hnn) hr (λs1 I1 A v h1 h2 h3=>fin I1 A v H2 s1 h1 h2 O h3)
 cases e with
 |norm=>exact L (.inr rfl) Y
 |ret=>exact L (.inl rfl) Y
 |exit id=>cases Y
theorem ZUy (h:EnvOk X){f:Nat}{i o:Sp}:FnOk X.P f i o (fnV X Z f i o):=ZOk ZNt h
end
end Go.Pv
namespace Go.Ow
open Go.RowKit
variable{x:Cx}{ops:Array Oper}{Q:Exit->Act->World->Prop}{rest:List Oper}{l:Slots}{own:List Own}{H HF:Heaplet}
variable{ty:TypeId}{d:Nat}{pos:String}{aft:Array Edge}
theorem ZOE {α σ τ:Type}(hr:x.r=none){g:Operand}{ps:Array Tmp}{assign body:Code}{gf:FuncId}{cap:Array Value}{RA:Heaplet->Array Value->α->Prop}
    (bd:α->σ->Option (σ ⊕ τ))(s0:σ)(tt:σ ⊕ τ)(I:σ->List Own->Heaplet->Prop)(X:τ->Code->List Own->Heaplet->Prop)(M:List Own->Heaplet->Prop)(mine m:List Own)
    (hg:evo l g=some (.func (.func gf) #[] cap))(he:Enters x.P gf)(hown:own=mine++m)
    (hit:∀(d:Nat) (I':σ->Own->Heaplet->Prop) (X':τ->Own->Heaplet->Prop) (O:Own),YSpecG x.P d RA bd I' X'->IX I' X' (.inl s0) O H->
      Does x.P gf (#[.func (.yield d) #[] #[]]++cap) (mine++ [O]) H (λu K' H'=>∃m' O',K'=m'++ [O']/\M m' H'/\IX I' X' tt O' H'))
    (hps:∀H args y,RA H args y->args.size=ps.size) (hlt:ps.toList.all (λp=>Nat.blt p x.n)=true)
    (h0:I s0 m H)
    (hround:∀(d:Nat) (y:α) (s:σ) (args:Array Value) (o:List Own) (H1 H':Heaplet) (out:σ ⊕ τ),Hle H1 H'->I s o H1->RA H' args y->bd y s=some out->∃J:Slots->List Own->Heaplet->Prop,
      (∀wb,x.w0.heap.size<=wb.heap.size->JC {x with r:=some d,w0:=wb,H0:=H',S:=ids o.flatten,ds:=[]} assign
        (Exit.then (λa w=>∃Y z H2,J Y z H2/\Holds {x with r:=some d,w0:=wb,H0:=H',S:=ids o.flatten,ds:=[]} Y z H2 a w) (λ_ _ _=>False)) ((ps.toList.zip args.toList).reverse++l) o H')/\
      (∀wb Y Z H2,J Y Z H2->x.w0.heap.size<=wb.heap.size->JC {x with r:=some d,w0:=wb,H0:=H2,S:=ids Z.flatten,ds:=[]} body (RoundS I X out wb H2 (ids Z.flatten)) Y Z H2))
    (hdone:∀(D:Nat) (s:σ) (m' o:List Own) (H1 H':Heaplet),x.w0.heap.size<=D->tt=.inl s->M m' H'->Hle H1 H'->I s o H1->Hle H H'->JN {x with ds:=mark D::x.ds} (Q .normal) l ([(D,.deferred (some []))]::(m'++o)) H')
    (hstop:∀(D:Nat) (c:Code) (e:τ) (m' o:List Own) (H1 H':Heaplet),x.w0.heap.size<=D->tt=.inr e->M m' H'->Hle H1 H'->X e c o H1->Hle H H'->JC {x with ds:=mark D::x.ds} c Q l ([(D,.deferred (some []))]::(m'++o)) H'):
    JC x (.rangeFunc g ps assign body) Q l own H:=λa w N=>by
  have hFw:Fw x.r=Fence.wide:=by rw[hr];rfl
  rw[hFw];refine wpIn_rangeFunc ?_;intro fn hfn
  -- the two blocks
  obtain⟨b,h⟩:∃b:LoopState->Option Code->Loop,b=λst pe=>{state:=st,pending:=pe,fn,tmps:=a.tmps,params:=ps,assign,body,defers:=w.heap.size}:=⟨_,rfl⟩;have hm1:=N.mem.go0 (K':=[[(w.heap.size,.deferred (some []))]]) (by simpa using Mem.alloc N.mem.agr (.deferred (some [])));have hm2:=hm1.go0 (K':=[[((w.alloc (.deferred (some []))).heap.size,.loop (b .ready none))]]) (by simpa using Mem.alloc hm1.agr (.loop (b .ready none)));have hsz:(w.alloc (.deferred (some []))).heap.size=w.heap.size+1:=by simp
  rw[hsz]at hm2;obtain⟨W,hW⟩:∃W,W=(w.alloc (.deferred (some []))).alloc (.loop (b .ready none)):=⟨_,rfl⟩;rw[<-hW]at hm2;let D:=w.heap.size;let d:=w.heap.size+1;have hD:D≠d:=by simp[D,d]
  -- the invariant with its two blocks of book-keeping
  let tail:LoopState->Option Code->Own:=λst pe=> [(d,Obj.loop (b st pe)),(D,Obj.deferred (some []))];let I':σ->Own->Heaplet->Prop:=λs O H'=>∃o:List Own,O=tail .ready none++o.flatten/\I s o H';let X':τ->Own->Heaplet->Prop:=λe O H'=>∃(o:List Own) (c:Code),O=tail .done (some c)++o.flatten/\X e c o H';refine⟨d,[mark D],W,{target:=.fn (.func gf) cap,args:=#[.func (.yield d) #[] #[]]},W,gf,#[.func (.yield d) #[] #[]]++cap,W,?_,?_,λ_ _=>trivial,?_,λe=>by simp[Fence.wide]at e,?_⟩
  . rw[hW,h];exact run_enterLoop_outer _ _ _ _ _
  . have e1:=ZI N hg;simp only[resolve,e1];simp[go_sem,Act.eval,Deferred.ofValue,d]
  . simp only[invoke];exact he _ _
  . have hY : YSpecG x.P d RA bd I' X':=by
      rintro y s args O H' C out ⟨H1',V,o,rfl,hI⟩ hy hbd hag R;have hsize:=hps _ _ _ hy;have U:C.heap[d]? =some (.loop (b .ready none)):=R.here (d,Obj.loop (b .ready none)) (by simp[tail]);have hapr:∀k,H' d k=none:=λk=>R.apart (d,Obj.loop (b .ready none)) (by simp[tail]) k;have hyld:=run_yield (P:=x.P) (args:=args) U (by rw[h];exact hsize);rw[h]at hyld;refine⟨fn,_,assign,body,hyld,?_⟩;obtain⟨J,hA,hB⟩:=hround d y s args o H1' H' out V hI hy hbd;refine roundIn_of_wpIn (F:=Fence.wide) trivial ?_;have hput:=puts_holds (x:=x) (own:=own) (H:=H) (w:=w) x.n ps.toList args.toList a.tmps l N.size hlt N.slots;have hfold:((ps.zip args).foldl (λt (p,v)=>t.setIfInBounds p v) a.tmps)=((ps.toList.zip args.toList).foldl (λt (p,v)=>t.setIfInBounds p v) a.tmps):=by
        rw[<-Array.foldl_toList];simp
      have hok2:OwnOk H' o.flatten C:=by
        exact Pb R
      have hmo:Mem C H' (ids o.flatten) o.flatten H' C:=Mem.same hag hok2;refine wpIn_mono (Q:=Exit.then (λa w=>∃Y z H2,J Y z H2/\Holds {x with r:=some d,w0:=C,H0:=H',S:=ids o.flatten,ds:=[]} Y z H2 a w) (λ_ _ _=>False)) ?_ ?_
      . rw[hfold];have hDs:D<C.heap.size:=(Th.1 (R.here (D,Obj.deferred (some [])) (by simp[tail]))).1;exact hA C (TQ N.mem.kept.size (Nat.le_of_lt hDs)) {tmps:=_,defers:=[]} C ⟨hput.1,rfl,hput.2,hmo⟩
      . rintro e a1 w2 f;cases e with
        | normal=>
          obtain⟨Y,Z,H2,hJ1,f⟩:∃Y z H2,J Y z H2/\Holds {x with r:=some d,w0:=C,H0:=H',S:=ids o.flatten,ds:=[]} Y z H2 a1 w2:=f
          -- the assignments have turned nothing of the book-keeping
          have hlt1:d<C.heap.size:=(Th.1 U).1;have hnd:=R.nodup;have hlro:d∉ids o.flatten:=λhmem=>by
            simp only[tail,ids,Su,RK]at hnd;exact hnd.2.2 d (by simp) d hmem rfl
          have hDo:D∉ids o.flatten:=λhmem=>by
            simp only[tail,ids,Su,RK]at hnd;exact hnd.2.2 D (by simp) D hmem rfl
          have hr2:w2.heap[d]? =some (.loop (b .ready none)):=by rw[f.mem.kept.block d hlt1 hlro];exact U
          -- the whole memory at the round's begin,seen from C
          have hmw1:Mem C H' (ids (tail .ready none++o.flatten)) (tail .ready none++o.flatten) H' C:=Mem.same hag R;have hmw2:Mem C H' (ids (tail .ready none++o.flatten)) (Z.flatten++(tail .ready none)) H2 w2:=
            hmw1.go (K:=o.flatten) (rst:=(tail .ready none)) Ts f.mem
          have hapr2:∀k,H2 d k=none:=λk=>hmw2.ok.apart (d,Obj.loop (b .ready none)) (by simp[tail]) k;have hbr:=run_beginRound (P:=x.P) hr2 (by rw[h]);refine⟨_,hbr,?_⟩;have hmw3:Mem C H' (ids (tail .ready none++o.flatten)) ([(d,Obj.loop {b .ready none with state:=.busy})]++(([(D,Obj.deferred (some []))]:Own)++Z.flatten)) H2 (w2.putObj d (.loop {b .ready none with state:=.busy})):=by
            refine hmw2.go (K:=[(d,Obj.loop (b .ready none))]) (rst:=[(D,Obj.deferred (some []))]++Z.flatten) ?_ ?_
            . simp only[tail];refine List.perm_append_comm.trans ?_;simp
            . exact Mem.putObj f.mem.agr hr2 hapr2 _
          have hDs:D<C.heap.size:=(Th.1 (R.here (D,Obj.deferred (some [])) (by simp[tail]))).1;have hsz2:x.w0.heap.size<=(w2.putObj d (.loop {b .ready none with state:=.busy})).heap.size:=by
            have h1:=N.mem.kept.size;have h2:C.heap.size<=w2.heap.size:=f.mem.kept.size;have h5:w.heap.size<C.heap.size:=hDs;exact TQ (TQ h1 (TQ (Nat.le_of_lt h5) h2)) (by simp)
          refine wpIn_mono (hB (w2.putObj d (.loop {b .ready none with state:=.busy})) Y Z H2 hJ1 hsz2 a1 _ ⟨f.size,f.ds,f.slots,Mem.same hmw3.agr ?_⟩) ?_
          . exact Pb (Pb hmw3.ok)
          . -- the round's end
            have fin:∀(j:Option Code) (z:List Own) (H1:Heaplet) (w3:World),Mem (w2.putObj d (.loop {b .ready none with state:=.busy})) H2 (ids Z.flatten) z.flatten H1 w3->
                (Instr.endRound d j).run x.P w3=.ok (.bool j.isNone) (w3.putObj d (.loop (b (if j.isNone then .ready else .done) j)))/\
                Mem C H' (ids (tail .ready none++o.flatten)) (tail (if j.isNone then .ready else .done) j++z.flatten) H1 (w3.putObj d (.loop (b (if j.isNone then .ready else .done) j))):=by
              intro j z H1 w3 B;have i:Mem C H' (ids (tail .ready none++o.flatten)) (z.flatten++([(d,Obj.loop {b .ready none with state:=.busy})]++ [(D,Obj.deferred (some []))])) H1 w3:=by
                refine hmw3.go (K:=Z.flatten) (rst:=[(d,Obj.loop {b .ready none with state:=.busy})]++ [(D,Obj.deferred (some []))]) ?_ B;rw[<-TI];exact Ts
              have G:w3.heap[d]? =some (.loop {b .ready none with state:=.busy}):=i.ok.here (d,Obj.loop {b .ready none with state:=.busy}) (by simp);have L:∀k,H1 d k=none:=λk=>i.ok.apart (d,Obj.loop {b .ready none with state:=.busy}) (by simp) k;have q:=run_endRound (P:=x.P) j G;rw[h]at q|-;refine⟨q,?_⟩;have:=i.go (K:=[(d,Obj.loop {b .ready none with state:=.busy})]) (rst:=z.flatten++ [(D,Obj.deferred (some []))]) (by
                refine(Ts (l₁:=z.flatten)).trans ?_;rw[TI];exact RQ _ Ts) (Mem.putObj i.agr G L (.loop {b .ready none with state:=if j.isNone then .ready else .done,pending:=j}))
              rw[h]at this;refine Mem.perm this ?_;simp only[tail,h];exact RQ [_] (Ts (l₁:=z.flatten) (l₂:=[(D,Obj.deferred (some []))]))
            rintro e2 a3 w3 hp;cases e2 with
            | normal=>
              obtain⟨s',z,H1,rfl,B,hI1⟩:=hp;obtain⟨q,A⟩:=fin none z H1 w3 B;exact⟨_,_,q,_,H1,rfl,A,H1,R1 _,z,rfl,hI1⟩
            | ret=>
              obtain⟨t,z,H1,rfl,B,hX1⟩:=hp;obtain⟨q,A⟩:=fin (some .ret) z H1 w3 B;exact⟨_,_,q,_,H1,rfl,A,H1,R1 _,z,.ret,rfl,hX1⟩
            | exit id=>
              obtain⟨t,z,H1,rfl,B,hX1⟩:=hp;obtain⟨q,A⟩:=fin (some (.exit id)) z H1 w3 B;exact⟨_,_,q,_,H1,rfl,A,H1,R1 _,z,.exit id,rfl,hX1⟩
            |goto t=>exact hp.elim
            |panic ch=>exact hp.elim
            |outgrown=>exact hp.elim
        |exit id=>exact f.elim
        |goto t=>exact f.elim
        |ret=>exact f.elim
        |panic ch=>exact f.elim
        |outgrown=>exact f.elim
    -- the iterator
    have hD0:=hit d I' X' (tail .ready none++m.flatten) hY ⟨H,R1 _,m,rfl,h0⟩;have hmW:Mem x.w0 x.H0 x.S (mine++ [tail .ready none++m.flatten]).flatten H W:=by
      refine(show Mem x.w0 x.H0 x.S (tail .ready none++own.flatten) H W by simpa[tail,D,d]using hm2).perm ?_;rw[hown];simp only[Ti,Td,Rj,Tt];exact(TI (tail .ready none) mine.flatten m.flatten)▸(List.Perm.append_right m.flatten (Ts (l₁:=tail .ready none) (l₂:=mine.flatten))).trans (by rw[TI])
    refine CallsIn.mono (hD0 W hmW.agr hmW.ok) ?_;rintro e w3 ⟨v,K',H',rfl,⟨m',O',rfl,hM,E⟩,B⟩;have hle:Hle H H':=B.le;have hm4':Mem x.w0 x.H0 x.S (m'++ [O']).flatten H' w3:=by
      have:=hmW.go (K:=(mine++ [tail .ready none++m.flatten]).flatten) (rst:=[]) (by simp) B;simpa using this
    obtain⟨H1,V,E⟩:=E;have hmk:∀(T o:Own),O'=T++o->Mem x.w0 x.H0 x.S (T++(m'.flatten++o)) H' w3:=λT o e=>by
      refine hm4'.perm ?_;rw[e];simp only[Ti,Td,Rj,Tt];rw[<-TI,<-TI];exact List.Perm.append_right o Ts
    cases tt with
    | inl s=>
      obtain⟨o,hO,hI⟩:=E;have i:=hmk _ _ hO;have G:w3.heap[d]? =some (.loop (b .ready none)):=i.ok.here (d,Obj.loop (b .ready none)) (by simp[tail]);have L:∀k,H' d k=none:=λk=>i.ok.apart (d,Obj.loop (b .ready none)) (by simp[tail]) k;refine⟨none,_,by have:=run_endLoop (P:=x.P) G (by rw[h];simp);rw[h]at this;exact this,?_⟩;have A:=i.go (K:=[(d,Obj.loop (b .ready none))]) (rst:=[(D,Obj.deferred (some []))]++(m'.flatten++o.flatten)) (by simp[tail]) (Mem.putObj i.agr G L (.loop {b .ready none with state:=.exhausted}));rw[h]at A;have hDn:x.w0.heap.size<=D:=N.mem.kept.size;refine hdone D s m' o H1 H' hDn rfl hM V hI hle _ _ ⟨N.size,by simp[N.ds],N.slots,?_⟩;have hs:([(D,Obj.deferred (some []))]++(m'.flatten++o.flatten)).Sublist ([(d,Obj.loop {b .ready none with state:=.exhausted})]++([(D,Obj.deferred (some []))]++(m'.flatten++o.flatten))):=List.sublist_append_right _ _;rw[h]at hs;rw[Td,Ti];exact A.sub hs
    | inr e=>
      obtain⟨o,c,hO,hX⟩:=E;have i:=hmk _ _ hO;have G:w3.heap[d]? =some (.loop (b .done (some c))):=i.ok.here (d,Obj.loop (b .done (some c))) (by simp[tail]);have L:∀k,H' d k=none:=λk=>i.ok.apart (d,Obj.loop (b .done (some c))) (by simp[tail]) k;refine⟨some c,_,by have:=run_endLoop (P:=x.P) G (by rw[h];simp);rw[h]at this;exact this,?_⟩;have A:=i.go (K:=[(d,Obj.loop (b .done (some c)))]) (rst:=[(D,Obj.deferred (some []))]++(m'.flatten++o.flatten)) (by simp[tail]) (Mem.putObj i.agr G L (.loop {b .done (some c)with state:=.exhausted}));rw[h]at A;have hDn:x.w0.heap.size<=D:=N.mem.kept.size;have hJ:=hstop D c e m' o H1 H' hDn rfl hM V hX hle;have hJ':c.wpIn (Fw x.r) 0 x.P Q {tmps:=a.tmps,defers:=mark D::a.defers} (w3.putObj d (.loop {b .done (some c)with state:=.exhausted})):=by
        refine hJ _ _ ⟨N.size,by simp[N.ds],N.slots,?_⟩;have hs:([(D,Obj.deferred (some []))]++(m'.flatten++o.flatten)).Sublist ([(d,Obj.loop {b .done (some c)with state:=.exhausted})]++([(D,Obj.deferred (some []))]++(m'.flatten++o.flatten))):=List.sublist_append_right _ _;rw[h]at hs|-;rw[Td,Ti];exact A.sub hs
      rw[hFw,h]at hJ';exact hJ'
end Go.Ow
namespace Go.Pv
open Go Go.Ow
noncomputable section
abbrev Rn (α:Type):Type 1:=(a τ:Type)->(α->a->Option (a ⊕ τ))->a->Option (a ⊕ τ)
structure ItSpec where
  i:Sp
  n:Nat
  y:List Pt
  R:VH (hyS i)->Rn (VH (hyS ⟨y,[]⟩))
def lkI (l:List (Nat×List ItSpec))(i:Nat):List ItSpec:=List.rec [] (λp _ ih=>Bool.rec ih p.2 (Nat.beq p.1 i)) l
section
variable{β:Type}
def cellsOf (b:List Nat)(l:List ((Nat×Nat)×CV)):List ((Nat×Nat)×CV):=List.rec [] (λp _ ih=>Bool.rec (p::ih) ih (QF b p.1.1)) l
def WF (b:List Nat)(l:List (Nat×Nat)):List (Nat×Nat):=List.rec [] (λp _ ih=>Bool.rec (p::ih) ih (QF b p.1)) l
def PS.away (s:PS)(b:List Nat)(k:PS->Option β):Option β:=match s with|⟨N,l,o,z,n,f,c,r⟩=>fgtR b ⟨N,l,cellsOf b o,WF b z,n,f,c,r⟩ k
def B6 (ρ:Rho):List Nat:=List.rec [] (λp _ ih=>match p.2 with|some a=>a::ih|none=>ih) ρ
def PS.left (s:PS)(k:Nat->PS->Option β):Option β:=match s with|⟨N,l,o,z,n,f,c,r⟩=>k n ⟨N,l,o,z,Nat.succ n,f,c,(n,.junk)::r⟩
def itG (s:PS)(cs:List CV)(k:(S:ItSpec)->Rn (VH (hyS ⟨S.y,[]⟩))->List Nat->Option β)(l:List ItSpec):Option β:=List.rec none (λS _ ih=>Option.rec ih (λq=>toVH (hyS S.i) q.1 λz=>k S (S.R z) (B6 q.2))
 (mtS s S.i cs [] λhs ρ js=>match js with|[]=>bb (allB (λp=>Nat.blt p.1 S.i.bs.length) ρ) (some (hs,ρ)) none|_=>none)) l
end
def noTs (K:Kx):Bool:=match K.ts with|[]=>true|_::_=>false
def rngOk (N:Nat)(ps:List Nat)(L:Lp)(n:Nat):Bool:=Bool.and (Bool.and (noTs L.h) (allB noTs L.ks)) (Bool.and (Nat.beq n ps.length) (Bool.and (ZCl ps) (allB (λp=>Nat.blt p N) ps)))
def rngAt (X:Env)(Z:Hints)(s:PS)(ps:List Nat)(assign body:Code)(L:Lp)(S:ItSpec)(l:Rn (VH (hyS ⟨S.y,[]⟩)))(b:List Nat){β:Type}(k:Ex->PS->Option β):Option β:=s.away b λs=>
 (λD=>bb (rngOk s.N ps L S.n) (pkK s D L.dc L.dr s L.h λc=>Option.bind (l (VH (hyS L.h.S)) (KT L.ks) (λy x=>upK s D L.dc L.dr L.h x λs1=>s1.bu [] ⟨S.y,[]⟩ (ofVH (hyS ⟨S.y,[]⟩) y) λus s2=>ZNS ps us s2 λd=>code X Z assign (VH (hyS L.h.S) ⊕ KT L.ks) d λe f=>match e with
  | .norm=>code X Z body (VH (hyS L.h.S) ⊕ KT L.ks) f λe a=>match e with| .norm=>pkK s D L.dc L.dr a L.h λy=>some (.inl y)|e=>inK s D L.dc L.dr e a L.ks λy=>some (.inr y)
  |_=>none) c) λo=>Sum.elim (λx=>upK s D L.dc L.dr L.h x (k .norm)) (elK s D L.dc L.dr k L.ks) o) none) (ps++(dstC assign++(dstC body++(L.h.ts++tsK L.ks))))
def hasR (c:Code):Bool:=Code.rec (motive:=λ_=>Bool) false (λ_ _ _=>false) (λ_ _ a b=>Bool.or a b) (λ_ _ _ _ _=>false) (λ_ _ a=>a) (λ_ _=>false) (λ_ _ _ _ _ _=>true) (λ_=>false) (λ_ _=>false) (λ_=>false) (λ_=>false) false (λ_=>false) c
def codeR (X:Env)(h:Nat->List ItSpec)(Z:Hints)(c:Code):(β:Type)->List Nat->PS->(List Nat->Ex->PS->Option β)->Option β:=Code.rec (motive:=λ_=>(β:Type)->List Nat->PS->(List Nat->Ex->PS->Option β)->Option β)
 (λβ J s k=>k J .norm s)
 (λid ops dr β J s k=>code X Z (.region id ops dr) β s (k J))
 (λa b i d β J s k=>i β J s λJ e s'=>match e with| .norm=>d β J s' k|e=>k J e s')
 (λc a b _ _ β J s k=>code X Z (.cond c a b) β s (k J))
 (λid b ih β J s k=>Bool.rec (code X Z (.block id b) β s (k J)) (ih β J s λJ e s'=>match e with| .exit j=>Bool.rec (k J e s') (k J .norm s') (Nat.beq j id)|e=>k J e s') (hasR b))
 (λb _ β J s k=>code X Z (.loop b) β s (k J))
 (λg ps a b _ _ β J s k=>ev s g λv=>match v with
  | .clo f [] m=>itG s m (λS l bs=>oB (ZG Z.lp (keyR b)) λL=>rngAt X Z s ps.toList a b (L.at s) S l bs λe s=>s.left λj s=>k (j::J) e s) (h f)
  |_=>none)
 (λid β J s k=>k J (.exit id) s)
 (λ_ _ _ _ _ _=>none) (λ_ _ _ _ _=>none) (λ_ _ _ _ _=>none)
 (λβ J s k=>k J .ret s)
 (λ_ _ _ _ _=>none) c
def ZHq (s:PS)(j:Nat):Bool:=match ZG s.r j with|some .junk=>true|_=>false
def fnR (X:Env)(a:Nat->List ItSpec)(Z:Hints)(f:Nat)(i o:Sp)(x:VH (hyS i)):Option (VH (hyS o)):=oB X.P.funcs[f]? λfn=>oB fn.body λc=>PS.bu ⟨fn.ntmps,[],[],[],0,[],0,[]⟩ [] i (ofVH (hyS i) x) λus s=>(match s with
  | ⟨N,_,b,z,n,q,cc,r⟩=>QD (argsL us 0) λl=>bb (Nat.ble l.length fn.ntmps) (codeR X a Z c _ [] ⟨N,l,b,z,n,q,cc,r⟩ λJ e s=>match e with
    | .exit _=>none
    |_=>bb (Bool.and (ZCl J) (allB (ZHq s) J)) (s.away J λs=>JO Z.pb s λs=>mvJ Z.mv s λs=>oB (Gk X.P s fn.results.toList some) λl=>mtS s o l (idR i.bs.length) λhs ρ js=>bb (allB (λp=>Nat.blt p.1 o.bs.length) ρ) (toVH (hyS o) hs some) none) none) none)
end
end Go.Pv
namespace Go.Pv
open Go Go.Ow Go.RowKit
def RAi (S:ItSpec):Heaplet->Array Value->VH (hyS ⟨S.y,[]⟩)->Prop:=λH args y=>args.size=S.n/\TellsS H (λ_=>none) ⟨S.y,[]⟩ (ofVH (hyS ⟨S.y,[]⟩) y) args.toList
def ItOk (P:Program)(f:FuncId)(S:ItSpec):Prop:=Enters P f/\∀(H:Heaplet) (W:Wt) (vs:List Value) (z:VH (hyS S.i)),(∀k w,W k=some w->k<S.i.bs.length)->TellsS H W S.i (ofVH (hyS S.i) z) vs->
  ∀ {a τ:Type} (b:VH (hyS ⟨S.y,[]⟩)->a->Option (a ⊕ τ)) (s0:a) (t:a ⊕ τ),S.R z a τ b s0=some t->∀(l:Nat) (I':a->Own->Heaplet->Prop) (X:τ->Own->Heaplet->Prop) (O:Own),YSpecG P l (RAi S) b I' X->IX I' X (.inl s0) O H->
    Does P f (#[.func (.yield l) #[] #[]]++vs.toArray) ((List.range S.i.bs.length).map (sgW W)++ [O]) H (λu K' H'=>∃m' c,K'=m'++ [c]/\True/\IX I' X t c H')
theorem Cp.pre{J:In}{H a:Heaplet}{g:Nat->Nat}{W:Wt}(h:Cp J a g W):Cp {J with H:=H} H g W:=⟨rfl,h.b⟩
theorem TellsS.mono{H g:Heaplet}{W:Wt}{S:Sp}{hs:List HV}{vs:List Value}(h:TellsS H W S hs vs)(a:Hle H g):TellsS g W S hs vs:=by
 intro j J c cs b k l m n r e hn o q;have f:In.Le {J with H:=H} J:=⟨by rw[e.H];exact a,TL _,λ_ _=>rfl,TL _,λ_ _=>rfl⟩;obtain⟨s,t,u,v⟩:=h j {J with H:=H} c cs b k l m n r e.pre hn o q;refine⟨s,t.mono f,λp d=> ?_,λp d=> ?_⟩
 . obtain⟨i,w,cur,T,e1,e2,e3,e4⟩:=u p d;exact⟨i,w,cur,T,e1,e2,e3,e4.mono f⟩
 . obtain⟨i,w,e1,e2,e3,e4⟩:=v p d;exact⟨i,w,e1,e2,e3.mono a,e4⟩
section
variable{β:Type}{r:β}{x x':Cx}{X:Env}{Z:Hints}{s s':PS}{I I':In}{seg seg':Nat->Own}{l l':Slots}{own own':List Own}{H H':Heaplet}
variable{Q:Exit->Act->World->Prop}
theorem RS.cx (h:RS x s I seg l own H)(hn:x'.n=x.n):RS x' s I seg l own H:=⟨h.N.trans hn.symm,h.H,h.n,h.q,h.own,h.sl,h.ze,h.ce,h.fx,h.rw,h.rz,h.ro⟩
noncomputable def awS (s:PS) (b:List Nat):PS:=⟨s.N,s.l,cellsOf b s.o,WF b s.z,s.n,s.f,s.c,ftR b s.r⟩
theorem ZOw (s:PS)(b:List Nat)(k:PS->Option β):s.away b k=k (awS s b):=by
 cases s;exact ZKb _ _ _
def clr (b:List Nat)(seg:Nat->Own):Nat->Own:=λa=>if a∈b then []else seg a
theorem Bq{b:List Nat}:∀{o:List ((Nat×Nat)×CV)} {a j:Nat} {c:CV},lkO (cellsOf b o) a j=some c->a∉b/\lkO o a j=some c
  |[],a,j,c,h=>by cases h
  | p ::o,a,j,c,h=>by
    have h:lkO (Bool.rec (p::cellsOf b o) (cellsOf b o) (QF b p.1.1)) a j=some c:=h;rw[ZAD];cases d:QF b p.1.1 with
    | true=>
      rw[d]at h;obtain⟨h1,h2⟩:=Bq (show lkO (cellsOf b o) a j=some c from h)
      refine⟨h1,?_⟩;rw[TM (λe=>h1 (by rw[e]at d;exact Xu.1 d))];exact h2
    | false=>
      rw[d]at h;have h:lkO (p::cellsOf b o) a j=some c:=h;rw[ZAD]at h;split at h
      . rename_i q;rw[TG q];refine⟨λe=> ?_,h⟩;rw[q]at d;rw[Xu.2 e]at d;cases d
      . rename_i q;rw[TM q];exact Bq h
theorem BR{b:List Nat}:∀{z:List (Nat×Nat)} {a m:Nat},ZG (WF b z) a=some m->a∉b/\ZG z a=some m
  |[],a,m,h=>by cases h
  | p ::z,a,m,h=>by
    have h:ZG (Bool.rec (p::WF b z) (WF b z) (QF b p.1)) a=some m:=h;rw[ZE];cases c:QF b p.1 with
    | true=>
      rw[c]at h;obtain⟨h1,h2⟩:=BR (show ZG (WF b z) a=some m from h)
      refine⟨h1,?_⟩;rw[TM (λe=>h1 (by rw[<-e];exact Xu.1 c))];exact h2
    | false=>
      rw[c]at h;have h:ZG (p::WF b z) a=some m:=h;rw[ZE]at h;split at h
      . rename_i q;rw[TG q];refine⟨λe=> ?_,h⟩;rw[<-q]at e;rw[Xu.2 e]at c;cases c
      . rename_i q;rw[TM q];exact BR h
theorem RS.away (hs:RS x s I seg l own H)(b:List Nat):RS x (awS s b) I (clr b seg) l ((List.range s.n).map (clr b seg)) H:=by
 refine⟨hs.N,hs.H,hs.n,hs.q,rfl,hs.sl,λa m e=> ?_,λa o c e=> ?_,hs.fx,λk c e=> ?_,λk c e=> ?_,λk c o d e e2=> ?_⟩
 . obtain⟨h1,h2⟩:=BR (show ZG (WF b s.z) a=some m from e)
   obtain⟨h3,f⟩:=hs.ze a m h2;exact⟨h3,by rw[show clr b seg a=seg a from TM h1];exact f⟩
 . obtain⟨h1,h2⟩:=Bq (show lkO (cellsOf b s.o) a o=some c from e)
   exact(hs.ce a o c h2).imp id λh3=>by rw[show clr b seg a=seg a from TM h1];exact h3
 . rcases ZAR (show ZG (ftR b s.r) k=some c from e)with h|⟨h1,h2⟩
   . exact .inl h
   . exact(hs.rw k c h2).imp id λh3=>by rw[show clr b seg k=seg k from TM h1];exact h3
 . rcases ZAR (show ZG (ftR b s.r) k=some c from e)with h|⟨h1,h2⟩
   . exact .inl h
   . refine(hs.rz k c h2).imp id λh3=> ?_;show ZG (WF b s.z) k=none;cases q:ZG (WF b s.z) k with
     |none=>rfl
     |some m=>obtain⟨_,f⟩:=BR q;rw[h3]at f;cases f
 . rcases ZAR (show ZG (ftR b s.r) k=some c from e)with h|⟨h1,h2⟩
   . exact .inl h
   . obtain⟨_,h3⟩:=Bq (show lkO (cellsOf b s.o) k o=some d from e2)
     exact hs.ro k c o d h2 h3
theorem ZHS:∀{ρ:Rho} {i a:Nat},(i,some a)∈ρ->a∈B6 ρ
  | p ::ρ,i,a,h=>by
    show a∈(match p.2 with|some a=>a::B6 ρ|none=>B6 ρ);rcases Ta.1 h with h|h
    . rw[<-h];simp
    . have:=ZHS h;split
      . exact Sl _ this
      . exact this
theorem ZJk (n m:Nat)(seg:Nat->Own)(b:List Nat)(τ:Nat->Option Nat)(W:Nat->Own)(h:∀i j a,i<m->j<m->τ i=some a->τ j=some a->i=j)(hb:∀i a,i<m->τ i=some a->a∈b/\a<n)
 (l:∀i,i<m->W i=(match τ i with|some a=>seg a|none=> [])):∃R:Own,(((List.range n).map seg).flatten).Perm ((((List.range n).map (clr b seg))++(List.range m).map W).flatten++R):=by
 obtain ⟨R,_,k⟩:=ZA6 (g:=seg) (K:=List.range n) (N:=n+m) (seg:=λa=>if a<n then clr b seg a else W (a-n)) (λa=>if a<n then(if a∈b then none else some a)else τ (a-n))
  (λa c i f o e1 e2=>by
   by_cases q:a<n
   . simp only[q,if_true]at e1;split at e1
     . cases e1
     . rename_i h1;have e1:=TJ e1;by_cases d:c<n
       . simp only[d,if_true]at e2;split at e2
         . cases e2
         . have e2:=TJ e2;omega
       . simp only[d,if_false]at e2;exact absurd (by rw[e1];exact(hb _ _ (by omega) e2).1) h1
   . simp only[q,if_false]at e1;by_cases d:c<n
     . simp only[d,if_true]at e2;split at e2
       . cases e2
       . rename_i h2;have e2:=TJ e2;exact absurd (by rw[e2];exact(hb _ _ (by omega) e1).1) h2
     . simp only[d,if_false]at e2;have:=h _ _ _ (by omega) (by omega) e1 e2;omega)
  (λa i f e=>by
   rw[SE];by_cases q:a<n
   . simp only[q,if_true]at e;split at e
     . cases e
     . rw[<-TJ e];exact q
   . simp only[q,if_false]at e;exact(hb _ _ (by omega) e).2)
  (λa f=>by
   by_cases q:a<n
   . simp only[q,if_true,clr];by_cases d:a∈b
     . simp only[d,if_true]
     . simp only[d,if_false]
   . simp only[q,if_false];exact l _ (by omega))
 refine⟨(R.map seg).flatten,?_⟩;have e:(List.range (n+m)).map (λa=>if a<n then clr b seg a else W (a-n))=(List.range n).map (clr b seg)++(List.range m).map W:=by
  rw[List.range_add,Su,RU];congr 1
  . exact Sx λa f=>TG (SE.1 f)
  . refine Sx λa _=> ?_;show(if n+a<n then _ else W (n+a-n))=W a;rw[TM (by omega),Sk]
 rw[e]at k;exact k
theorem RS.slots{s1 u:PS}{J:In}{s sg:Nat->Own}{i o:List Own}{H1 g:Heaplet}{D:List Nat}{f j:Slots}(b:RS x s1 I s l i H1)(a:RS x u J sg j o g)(d:I.Le J)(k:u.l=fgtL D s1.l)(h2:∀t,t∉D->Go.Ow.lk f t=Go.Ow.lk l t):RS x u J sg f o g:=by
 refine⟨a.N,a.H,a.n,a.q,a.own,λt c e=> ?_,a.ze,a.ce,a.fx,a.rw,a.rz,a.ro⟩;rw[k]at e;rcases ZGk e with h|⟨h1,h3⟩
 . exact .inl h
 . exact(b.sl t c h3).imp id fun⟨v,m,p⟩=>⟨v,by rw[h2 t h1];exact m,p.mono d⟩
theorem ZJH{K:Kx}(h:noTs K=true):K.ts= []:=by
 unfold noTs at h;split at h
 . assumption
 . cases h
theorem ZHU:∀{A:Slots} {l:Slots} {t:Nat} {v:Value},(t,v)∈A->(A.map (·.1)).Nodup->lk (A++l) t=some v
  | p ::A,l,t,v,h,hn=>by
    have hn:=SY.1 hn;rcases Ta.1 h with h|h
    . subst h;simp[lk]
    . have a:p.1≠t:=λe=>hn.1 (by show p.1∈A.map (·.1);rw[e];exact SI.2 ⟨(t,v),h,rfl⟩);have:Nat.beq p.1 t=false:=V7 a;rw[RI];simp only[lk,this];exact ZHU h hn.2
theorem ZJJ:∀{A:Slots} {l:Slots} {t:Nat},(∀p∈A,p.1≠t)->lk (A++l) t=lk l t
  |[],l,t,h=>rfl
  | p::A,l,t,h=>by
    have:Nat.beq p.1 t=false:=V7 (h p (by simp));rw[RI];simp only[lk,this];exact ZJJ λq a=>h q (by simp[a])
theorem ZK8:∀(ps:List Nat) (vs:List Value),∃k,(ps.zip vs).map (·.1)=ps.take k
 |[],vs=>⟨0,rfl⟩
 |p::ps,[]=>⟨0,rfl⟩
 |p::ps,v::vs=>by obtain⟨k,e⟩:=ZK8 ps vs;exact⟨k+1,by simp[e]⟩
theorem ZUP{ps:List Nat}{vs:List Value}{p:Nat×Value}(h:p∈ps.zip vs):p.1∈ps:=(List.of_mem_zip h).1
theorem ZOF:∀{ps:List Nat} {vs:List Value} {i t:Nat} {v:Value},ps[i]? =some t->vs[i]? =some v->(t,v)∈ps.zip vs
 |[],vs,i,t,v,h,k=>by simp at h
 |p::ps,[],i,t,v,h,k=>by simp at k
 |p::ps,u::vs,0,t,v,h,k=>by simp at h k;subst h k;simp
 |p::ps,u::vs,i+1,t,v,h,k=>by simp only[RO];exact Sl _ (ZOF (by simpa using h) (by simpa using k))
def cdX:Ex->Code
 | .norm=>.skip
 | .exit id=>.exit id
 | .ret=>.ret
open Classical in
theorem ZUd (hX:EnvOk X)(hP:x.P=X.P)(hr:x.r=none)(hs:RS x s I seg l own H){g:Operand}{ps:Array Nat}{assign body:Code}{f:Nat}{ws:List Value}(hg:evo l g=some (.func (.func f) #[] ws.toArray)){S:ItSpec}(hit:ItOk X.P f S){ρ:Rho}{z:VH (hyS S.i)}
    (hmt:TellsS I.H (Wf ρ I seg) S.i (ofVH (hyS S.i) z) ws)(hinj:InjR ρ)(hρ:∀i a,ZG ρ i=some (some a)->a<s.n)(hdom:∀i a,ZG ρ i=some a->i<S.i.bs.length){L:Lp}{k:Ex->PS->Option β}
    (h:rngAt X Z s ps.toList assign body L S (S.R z) (B6 ρ) k=some r)
    (hk:∀D e s' I' seg' own' H',I.Le I'->k e s'=some r->RS x s' I' seg' l own' H'->JN {x with ds:=Go.Ow.mark D::x.ds} (Q (exX e)) l ([(D,.deferred (some []))]::own') H'):JC x (.rangeFunc g ps assign body) Q l own H:=by
  unfold rngAt at h;rw[ZOw]at h;obtain⟨b,hb⟩:∃b,b=B6 ρ:=⟨_,rfl⟩;rw[<-hb]at h;have A:=hs.away b;obtain⟨s1,hs1e⟩:∃s1,s1=awS s b:=⟨_,rfl⟩;rw[<-hs1e]at h A;have hn1:s1.n=s.n:=by rw[hs1e];rfl
  obtain⟨E,Y⟩:∃E,E=clr b seg:=⟨_,rfl⟩;rw[<-Y]at A;obtain⟨W,hW⟩:∃W,W=Wf ρ I seg:=⟨_,rfl⟩;rw[<-hW]at hmt;obtain⟨G,hown1⟩:∃G,G=(List.range s.n).map E:=⟨_,rfl⟩;rw[<-hown1]at A;obtain⟨mine,hmine⟩:∃mine,mine=(List.range S.i.bs.length).map (sgW W):=⟨_,rfl⟩;obtain ⟨R,hperm⟩:∃R:Own,own.flatten.Perm ((G++mine).flatten++R):=by
    rw[hs.own,hown1,hmine,Y];refine ZJk s.n S.i.bs.length seg b (λi=>(ZG ρ i).bind id) (sgW W) (λi j a _ _ e1 e2=> ?_) (λi a _ e=> ?_) (λi _=> ?_)
    . cases h1:ZG ρ i with
      |none=>rw[h1]at e1;cases e1
      | some o1=>cases h2:ZG ρ j with
        |none=>rw[h2]at e2;cases e2
        | some o2=>
          rw[h1]at e1;rw[h2]at e2;have e1:o1=some a:=e1;have e2:o2=some a:=e2;subst e1 e2;exact hinj _ _ _ h1 h2
    . cases h1:ZG ρ i with
      |none=>rw[h1]at e;cases e
      | some o=>
        rw[h1]at e;have e:o=some a:=e;subst e;exact⟨by rw[hb];exact ZHS (UN h1),hρ _ _ h1⟩
    . show sgW W i=_;rw[hW];unfold sgW Wf;cases ZG ρ i with
      |none=>rfl
      |some o=>cases o<;>rfl
  obtain⟨C,hD⟩:∃C,C=ps.toList++(dstC assign++(dstC body++(L.h.ts++tsK L.ks))):=⟨_,rfl⟩;replace h:=show bb (rngOk s1.N ps.toList L S.n) (pkK s1 (ps.toList++(dstC assign++(dstC body++(L.h.ts++tsK L.ks)))) L.dc L.dr s1 L.h λx0=>Option.bind (S.R z (VH (hyS L.h.S)) (KT L.ks) (λy x=>upK s1 (ps.toList++(dstC assign++(dstC body++(L.h.ts++tsK L.ks)))) L.dc L.dr L.h x λs1'=>s1'.bu [] ⟨S.y,[]⟩ (ofVH (hyS ⟨S.y,[]⟩) y) λus s2=>ZNS ps.toList us s2 λs3=>code X Z assign (VH (hyS L.h.S) ⊕ KT L.ks) s3 λe s4=>match e with
    | .norm=>code X Z body (VH (hyS L.h.S) ⊕ KT L.ks) s4 λe V=>match e with| .norm=>pkK s1 (ps.toList++(dstC assign++(dstC body++(L.h.ts++tsK L.ks)))) L.dc L.dr V L.h λy=>some (.inl y)|e=>inK s1 (ps.toList++(dstC assign++(dstC body++(L.h.ts++tsK L.ks)))) L.dc L.dr e V L.ks λy=>some (.inr y)
    |_=>none) x0) λout=>Sum.elim (λx=>upK s1 (ps.toList++(dstC assign++(dstC body++(L.h.ts++tsK L.ks)))) L.dc L.dr L.h x (k .norm)) (elK s1 (ps.toList++(dstC assign++(dstC body++(L.h.ts++tsK L.ks)))) L.dc L.dr k L.ks) out) none=some r from h
  rw[<-hD]at h;obtain⟨hck,h⟩:=ZA h;unfold rngOk at hck;simp only[TE]at hck;obtain⟨⟨c1,c2⟩,c3,c4,c5⟩:=hck;have c1:=ZJH c1;have c2:∀K∈L.ks,K.ts= []:=λK hK=>ZJH (ZW.1 c2 K hK);have c3:S.n=ps.toList.length:=TB c3;have c4:=Jf c4;have c5:∀t∈ps.toList,t<x.n:=λt ht=>by have:=ZW.1 c5 t ht;rw[A.N]at this;simpa using this
  obtain⟨B,hB⟩:∃B:VH (hyS ⟨S.y,[]⟩)->VH (hyS L.h.S)->Option (VH (hyS L.h.S) ⊕ KT L.ks),B=(λy x=>upK s1 C L.dc L.dr L.h x λs1'=>s1'.bu [] ⟨S.y,[]⟩ (ofVH (hyS ⟨S.y,[]⟩) y) λus s2=>ZNS ps.toList us s2 λs3=>code X Z assign (VH (hyS L.h.S) ⊕ KT L.ks) s3 λe s4=>match e with
    | .norm=>code X Z body (VH (hyS L.h.S) ⊕ KT L.ks) s4 λe V=>match e with| .norm=>pkK s1 C L.dc L.dr V L.h λy=>some (.inl y)|e=>inK s1 C L.dc L.dr e V L.ks λy=>some (.inr y)
    |_=>none):=⟨_,rfl⟩
  rw[<-hB]at h;obtain⟨x0,h1,h2⟩:=ZDc (F:=mine) A rfl A (In.Le.refl _) (λ_ _=>P6 s1 C L.dc L.dr) h;obtain⟨out,hf,hout⟩:=Zb h1;have hIH:I.H=H:=hs.H;intro a w hh;refine h2 (Kc:=λa w=>(Code.rangeFunc g ps assign body).wpIn (Fw x.r) 0 x.P Q a w) (λo0 g0 hle0 hb0=> ?_) a w (ZJR hh hperm);intro a w hh;have hh:Holds x l (mine++o0) g0 a w:=Go.Pv.hperm hh (by rw[Ti,Ti];exact Ts);refine ZOE (x:=x) (Q:=Q) (ps:=ps) (assign:=assign) (body:=body) (RA:=RAi S) hr B x0 out
    (λy o g=>Bh x s1 I C L.dc L.dr L.h y l o g/\Hle H g) (λt c o g=>∃e:Ex,c=cdX e/\e≠.norm/\BhE x s1 I C L.dc L.dr e L.ks t l o g/\Hle H g) (λ_ _=>True) mine o0 hg (by rw[hP];exact hit.1) rfl ?_ ?_ ?_ ⟨hb0,hle0⟩ ?_ ?_ ?_ a w hh
  . -- the iterator
    intro lr I' X' O hY hI;rw[hP]at hY|-;rw[hmine];exact hit.2 g0 W ws z (λk w e=>by
      rw[hW]at e;unfold Wf at e;cases e2:ZG ρ k with
      |none=>rw[e2]at e;cases e
      |some a=>exact hdom k a e2) (hmt.mono (by rw[hIH];exact hle0)) B x0 out hf lr I' X' O hY hI
  . intro H' args y hy;rw[hy.1,c3,TR]
  . rw[Tm];exact λt ht=>SM (c5 t ht)
  . -- a round
    rintro lr y yv args o H1 H' out' d ⟨hI,hleI⟩ ⟨hy1,hy2⟩ hbd;rw[hB]at hbd;obtain⟨u,J,sg1,hu,M,hxt,hul⟩:=hI hbd;have hul:=hul c1
    -- the slots
    let l2:Slots:=(ps.toList.zip args.toList).reverse++l;have hps:∀t∈ps.toList,t∈C:=λt ht=>(by rw[hD];exact List.mem_append_left _ ht);have hl2:∀t,t∉C->Go.Ow.lk l2 t=Go.Ow.lk l t:=λt ht=>ZJJ λp hp e=>ht (by rw[<-e];exact hps _ (ZUP (List.mem_reverse.1 hp)));have hsu2:=(A.slots M hxt.i hul hl2).le d;obtain⟨hok,cs,hs',k1,rs,bl,k2,rs',hLi,hBi,hu⟩:=J6 hu;let J2:In:={H:=H',ν:=J.ν,n:=u.n+0,κ:=λc=>if c<u.c then J.κ c else(cnt (ofVH (hyS ⟨S.y,[]⟩) y))[c-u.c]?.getD 0,q:=u.c+(cnt (ofVH (hyS ⟨S.y,[]⟩) y)).length};have hC:Cnt J2 u.c (cnt (ofVH (hyS ⟨S.y,[]⟩) y)):=λm j e=>by
      have hlt:=(TD.1 e).1;refine⟨by show u.c+m<u.c+_;omega,?_⟩;show(if u.c+m<u.c then _ else(cnt (ofVH (hyS ⟨S.y,[]⟩) y))[u.c+m-u.c]?.getD 0)=j;rw[TM (by omega),Sk,e];rfl
    obtain⟨v1,hs2⟩:=RS.bu (J:=J2) (seg2:=sg1) (ρ:=[]) hsu2 hy2 hok hLi hBi (λi a e=>by cases e) (λi j a e=>by cases e) rfl rfl rfl (λa ha=>rfl) (λc hc=>TG hc) hC (λi w e=>by cases e) (λa ha=>.inl rfl)
      (λp hp hlt=>by
        obtain⟨i,w,e1,_⟩:=(hy2 (sg [] u.n) J2 u.c _ _ _ _ _ _ _ ⟨rfl,λi w e=>by cases e⟩ hC hLi hBi).2.2.2 p hp;cases e1)
      (λp hp hlt=>by
        obtain⟨i,w,cur,T,e1,_⟩:=(hy2 (sg [] u.n) J2 u.c _ _ _ _ _ _ _ ⟨rfl,λi w e=>by cases e⟩ hC hLi hBi).2.2.1 p hp;cases e1)
    have ho:(List.range J2.n).map sg1=o:=(by rw[M.own];rfl);rw[ho]at hs2;have hJ2:J.Le J2:=⟨by rw[M.H];exact d,by rw[M.n];exact TL _,λ_ _=>rfl,by rw[M.q];exact RY _ _,λc hc=>TG (by rw[<-M.q];exact hc)⟩;have hkeys:((ps.toList.zip args.toList).reverse.map (·.1)).Nodup:=by
      rw[List.map_reverse,(List.reverse_perm _).nodup_iff];obtain⟨kk,e⟩:=ZK8 ps.toList args.toList;rw[e];exact c4.sublist (List.take_sublist _ _)
    obtain⟨s3,hu,hs3,he3,_⟩:=ZKN hs2 v1 (λi t v e1 e2=>ZHU (List.mem_reverse.2 (ZOF e1 e2)) hkeys) hu;have hc2:u.c<=k2:=by
      have h5:=hs2.q;have h6:u.c+(cnt (ofVH (hyS ⟨S.y,[]⟩) y)).length=k2:=h5;omega
    have hx3:Xt s1 I s3 J2:=⟨hxt.e.trans ((Ext.bu hc2).trans he3),hxt.i.trans hJ2⟩;refine⟨λL1 o1 H2=>∃s4 I4 seg4,RS x s4 I4 seg4 L1 o1 H2/\Xt s1 I s4 I4/\code X Z body (VH (hyS L.h.S) ⊕ KT L.ks) s4 (λe V=>match e with| .norm=>pkK s1 C L.dc L.dr V L.h λy=>some (.inl y)|e=>inK s1 C L.dc L.dr e V L.ks λy=>some (.inr y))=some out',λwb hwb=> ?_,?_⟩
    . refine ZED (x:={x with r:=some lr,w0:=wb,H0:=H',S:=ids o.flatten,ds:=[]}) hX hP hu (hs3.cx rfl) (λe s' I' seg' l' own' H'' he hk' hs'=> ?_);cases e with
      |norm=>exact λa w hh=>⟨l',own',H'',⟨s',I',seg',hs'.cx rfl,hx3.trans he,hk'⟩,hh⟩
      |exit id=>cases hk'
      |ret=>cases hk'
    . rintro wb L1 oa H2 ⟨s4,I4,seg4,hs4,hx4,hcode⟩ hwb;refine ZED (x:={x with r:=some lr,w0:=wb,H0:=H2,S:=ids oa.flatten,ds:=[]}) hX hP hcode (hs4.cx rfl) (λe V I5 seg5 l5 own5 H5 he hi ht=> ?_);have hx5:=hx4.trans he;have hag:okT s1 V C=true->okC s1 V L.dc L.dr=true->Agr s1 V C L.dc L.dr:=Agr.ext hx5.e;have hle5:Hle H H5:=(by have:=hx5.i.H;rw[hIH,ht.H]at this;exact this);have hs1':RS {x with r:=some lr,w0:=wb,H0:=H2,S:=ids oa.flatten,ds:=[]} s1 I E l G H:=A.cx rfl;have conv:∀{y:VH (hyS L.h.S)} {o':List Own} {g':Heaplet},Bh {x with r:=some lr,w0:=wb,H0:=H2,S:=ids oa.flatten,ds:=[]} s1 I C L.dc L.dr L.h y l5 o' g'->Bh x s1 I C L.dc L.dr L.h y l o' g':=λ{y o' g'} hB' {β k r} hq=>by
        obtain⟨u,J,sg,g1,U,g3,g4⟩:=hB' hq;exact⟨u,J,sg,g1,A.slots (U.cx rfl) g3.i (g4 c1) (λ_ _=>rfl),g3,g4⟩
      have convE:∀{e:Ex} {y:KT L.ks} {o':List Own} {g':Heaplet},BhE {x with r:=some lr,w0:=wb,H0:=H2,S:=ids oa.flatten,ds:=[]} s1 I C L.dc L.dr e L.ks y l5 o' g'->BhE x s1 I C L.dc L.dr e L.ks y l o' g':=λ{e y o' g'} hB' {β k r} hq=>by
        obtain⟨u,J,sg,g1,U,g3,g4⟩:=hB' hq;exact⟨u,J,sg,g1,A.slots (U.cx rfl) g3.i (g4 c2) (λ_ _=>rfl),g3,g4⟩
      cases e with
      | norm=>
        obtain⟨z',h5,h6⟩:=ZDc (F:=[]) hs1' rfl ht hx5.i hag hi;cases h5;refine(Tt own5)▸h6 (λo' g' hg' hb'=> ?_);rw[Tt];exact JN.rN ⟨conv hb',hle5.trans hg'⟩
      | exit id=>
        obtain⟨z',h5,h6⟩:=ZGg hs1' rfl ht hx5.i hag hi;cases h5;exact h6 (λo' g' hg' hb'=>JN.rX ⟨.exit id,rfl,by simp,convE hb',hle5.trans hg'⟩)
      | ret=>
        obtain⟨z',h5,h6⟩:=ZGg hs1' rfl ht hx5.i hag hi;cases h5;exact h6 (λo' g' hg' hb'=>JN.rR ⟨.ret,rfl,by simp,convE hb',hle5.trans hg'⟩)
  . -- all items
    rintro D yv m' o H1 H' hDs rfl-d ⟨hI,hleI⟩ hle;obtain⟨u,J,sg,g1,U,g3,_⟩:=hI (show upK s1 C L.dc L.dr L.h yv (k .norm)=some r from hout)
    have hJH:=U.H;have U:=U.le d;have:=hk D .norm u {J with H:=H'} sg o H' (g3.i.trans ⟨by rw[hJH];exact d,TL _,λ_ _=>rfl,TL _,λ_ _=>rfl⟩) g1 U;exact λa w hh=>this a w (ZJR (R:=m'.flatten) hh (by simp only[Td,Ti];rw[TI];exact RQ _ Ts))
  . -- a way out
    rintro D c t m' o H1 H' hDs rfl-d ⟨e,rfl,hne,hE,hleI⟩ hle;obtain⟨u,J,sg,g1,U,g3,_⟩:=hE (show elK s1 C L.dc L.dr k L.ks t=some r from hout)
    have hJH:=U.H;have U:=U.le d;have:=hk D e u {J with H:=H'} sg o H' (g3.i.trans ⟨by rw[hJH];exact d,TL _,λ_ _=>rfl,TL _,λ_ _=>rfl⟩) g1 U;have this:JN {x with ds:=Go.Ow.mark D::x.ds} (Q (exX e)) l ([(D,Obj.deferred (some []))]::(m'++o)) H':=λa w hh=>this a w (ZJR (R:=m'.flatten) hh (by simp only[Td,Ti];rw[TI];exact RQ _ Ts));cases e with
    |norm=>exact absurd rfl hne
    |exit id=>exact ZEV this
    |ret=>exact ZIU this
end
end Go.Pv
