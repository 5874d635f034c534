import Derived.Test.YtgdchaoklfjcpaaGreatDoorPwRo
import Derived.Test.YtgdchaoklfjcpaaGreatDoorOwMf
import Derived.Test.YtgdchaoklfjcpaaGreatDoorOwMd
import Derived.Test.YtgdchaoklfjcpaaGreatDoorOwMb
import Derived.Carry
import Derived.WalkKit
import Derived.ProofKit
import Derived.OpenShut
import Derived.JoinedCond
import Derived.HandedShaped
import Derived.Test.YtgdchaoklfjcpaaGreatDoorOwMg
import Derived.Lib.SlKeysI
/- rules, proved -/
set_option linter.constructorNameAsVariable false
set_option linter.unusedSimpArgs false
set_option linter.unusedVariables false
namespace Go.Pv
open Go Go.Ow Go.RowKit
theorem OC{P:Program}{f:Nat}{i o:Sp}{d:VH (hyS i)->Option (VH<|hyS o)}(h:FnOk P f i o d)(hi:i.bs= [])(l:o.bs= [.row]){t:Ty}{E:Nat}{m:List (den t)}{I:In}{us:List Value}{cs co:List CV}{z:VH (hyS i)}{y:VH (hyS o)}(n:VRs I cs us)
 (p:mtS s0 i cs [] (λhs ρ js=>some (hs,ρ,js))=some (ofVH (hyS i) z,[],[]))(a:d z=some y)(b:PS.bu s0 [] o (ofVH (hyS o) y) (λus s=>some (us,s))=some (co,s1 t E m)):
 Does P f us.toArray [] I.H (λu K' c=>∃(K:Own) (ws:List Value) (J:In),K'= [K]/\J.H=c/\u=Ow.pack ws/\RowOf c (RT t) 0 E (szY t) (J.ν 0).2 m K/\VRs J co ws):=by
 have q:=DP (Rw.zero I λ_=> []) rfl n p;have:=h I.H _ us z y (λk w e=>by unfold Wf at e;cases e) q a;rw[hi]at this;refine this.mono ?_;rintro u K' c ⟨ws,W,h1,_,h3,r,g⟩;rw[l]at g;obtain⟨J,x,j,v,hs,_⟩:=ZDN h1 r b;have A:=((hs.rw 0 (.own t E m) rfl).resolve_left<|by simp).2;exact⟨sgW W 0,ws,J,g,j,h3,j▸A,v⟩
theorem ZOp{x:Cx}{l:Slots}{own:List Own}{H:Heaplet}{C:Act->World->Prop}(b:own.flatten= [])(h:JN x C l [] H):JN x C l own H:=λa w c=>h a w<|Go.Pv.hperm c (by rw[b];exact Sk _)
theorem Does.pub{P:Program}{f:FuncId}{args:Array Value}{H:Heaplet}{α:Type}{R:Rep α}{E size:Nat}{m:List α}{A:Value->Value->Prop}{Q:Value->List Own->Heaplet->Prop}(b:R.Mono)
 (h:Does P f args [] H λu K' a=>∃K v,K'= [K]/\RowOf a R 0 E size v m K/\A v u)(c:∀u v a,A v u->IsSlice a R size v m->Q u [] a):Does P f args [] H Q:=
 Pm h (λw u K' a d=>by
  obtain⟨K,v,rfl,e,g⟩:=d;refine JN.pub0 0 b rfl e (λH2 i hs=>ZOp (by simp) ?_);exact ZDm (R:=λK2 H2=>Q u K2 H2) (c u v H2 g hs))
theorem Pw{P:Program}{f:FuncId}{args:Array Value}{I:In}{t:Ty}{E:Nat}{m:List (den t)}{n:Int}{hn:Own->Prop}(b:(RT t).Mono)
 (h:Does P f args [] I.H λu K' a=>∃(ao:Option Addr) (k cap:Nat) (K:Own),u=.tuple #[.slice ao k cap,.int .i64 n]/\K'= [K]/\RowOf (New I.H a) (RT t) 0 E (szY t) (.slice ao k cap) m K/\hn K/\True):
 Does P f args [] I.H (λu K' a=>∃us,u=Ow.pack us/\K'= []/\VRs {I with H:=a} [.sl t m,.i n] us):=
 Does.pub (R:=RT t) (E:=E) (size:=szY t) (m:=m) (A:=λv u=>u=.tuple #[v,.int .i64 n]) b
  (h.mono (by rintro u K' a ⟨ao,k,cap,K,rfl,rfl,c,_,_⟩;exact⟨K,_,rfl,c.old b,rfl⟩))
  (by rintro u v a rfl hs;exact⟨[_,_],rfl,rfl,VRs.cons (by simp only[VR];exact hs)<|VRs.cons (by simp only[VR]) VRs.nil⟩)
theorem vr1{I:In}{a:CV}{vs:List Value}(h:VRs I [a] vs):∃v,vs= [v]/\VR I a v:=by
 obtain⟨v,us,rfl,h1,h2⟩:=h.un;cases h2.un0;exact⟨v,rfl,h1⟩
theorem vr2{I:In}{a b:CV}{vs:List Value}(h:VRs I [a,b] vs):∃v u,vs= [v,u]/\VR I a v/\VR I b u:=by
 obtain⟨v,us,rfl,h1,h2⟩:=h.un;obtain⟨u,rfl,h3⟩:=vr1 h2;exact⟨v,u,rfl,h1,h3⟩
abbrev ePtr (p:Ptr):Value:=.agg #[.int .i64 p.At,.int .u32 (p.Birth.toNat:Int),.int .u32 (p.Iv.toNat:Int),.int .u32 (p.Tag.toNat:Int),.int .u32 (p.Sum.toNat:Int)]
theorem ZPE (I:In)(p:Ptr):VR I (.ag<|stC .Ptr p) (ePtr p):=by
 simp only[VR];exact⟨[_,_,_,_,_],rfl,VRs.cons (by simp only[VR])<|VRs.cons (by simp only[VR])<|VRs.cons (by simp only[VR])<|VRs.cons (by simp only[VR])<|VRs.cons (by simp only[VR]) VRs.nil⟩
theorem vDisk{I:In}{s:Disk}{a b:Value}(h1:IsSlice I.H (RSl RU8 1) 1 a s.Blocks)(h2:IsSlice I.H R_Write 2 b s.Waits):VR I (.ag<|stC .Disk s) (.agg #[a,b]):=by
 simp only[VR];exact⟨[_,_],rfl,VRs.cons (by simp only[VR];exact h1)<|VRs.cons (by simp only[VR];exact h2) VRs.nil⟩
theorem ZGP{I:In}{s:Store}{a b c:Value}(h1:IsSlice I.H (RSl RU8 1) 1 a s.Disk.Blocks)(h2:IsSlice I.H R_Write 2 b s.Disk.Waits)(h3:IsSlice I.H RU8 1 c s.Space):
 VR I (.ag<|stC .Store s) (.agg #[a,b,c,.int .u32 (s.Epoch.toNat:Int),.int .u32 (s.Count.toNat:Int)]):=by
 simp only[VR];exact⟨[_,_,_,_,_],rfl,VRs.cons (by simp only[VR];exact h1)<|VRs.cons (by simp only[VR];exact h2)<|VRs.cons (by simp only[VR];exact h3)<|VRs.cons (by simp only[VR])<|VRs.cons (by simp only[VR]) VRs.nil⟩
theorem vPool{I:In}{s:Pool}{a b c d e f g h:Value}(h1:IsSlice I.H (RSl RU8 1) 1 a s.Store.Disk.Blocks)(h2:IsSlice I.H R_Write 2 b s.Store.Disk.Waits)(h3:IsSlice I.H RU8 1 c s.Store.Space)(i:IsSlice I.H RInt 1 d s.MetaL)(j:IsSlice I.H R_Line 13 e s.Lines)
 (k:IsSlice I.H (RSl RU8 1) 1 f s.Keys)(l:IsSlice I.H (RSl RU8 1) 1 g s.Loaded)(m:IsSlice I.H R_Change 12 h s.Changes):
 VR I (.ag<|stC .Pool s) (.agg #[a,b,c,.int .u32 (s.Store.Epoch.toNat:Int),.int .u32 (s.Store.Count.toNat:Int),.int .u32 (s.Gen.toNat:Int),.int .i64 s.Root.At,.int .u32 (s.Root.Birth.toNat:Int),.int .u32 (s.Root.Iv.toNat:Int),.int .u32 (s.Root.Tag.toNat:Int),.int .u32 (s.Root.Sum.toNat:Int),d,e,f,g,h,.int .i64 s.Logged,.int .i64 s.NextId,.int .u32 (s.NextGuid.toNat:Int)]):=by
 simp only[VR];refine⟨[_,_,_,_,_,_,_,_,_,_,_,_,_,_,_,_,_,_,_],rfl,?_⟩;refine VRs.cons (by simp only[VR];exact h1) (VRs.cons (by simp only[VR];exact h2)<|VRs.cons (by simp only[VR];exact h3) ?_);refine VRs.cons (by simp only[VR]) (VRs.cons (by simp only[VR])<|VRs.cons (by simp only[VR])<|VRs.cons (by simp only[VR])<|VRs.cons (by simp only[VR])<|VRs.cons (by simp only[VR])<|VRs.cons (by simp only[VR])<|VRs.cons (by simp only[VR]) ?_);refine VRs.cons (by simp only[VR];exact i) (VRs.cons (by simp only[VR];exact j)<|VRs.cons (by simp only[VR];exact k)<|VRs.cons (by simp only[VR];exact l)<|VRs.cons (by simp only[VR];exact m) ?_);exact VRs.cons (by simp only[VR])<|VRs.cons (by simp only[VR])<|VRs.cons (by simp only[VR]) VRs.nil
theorem iPtr{I:In}{s:Ptr}{v:Value}(h:VR I (.ag<|stC .Ptr s) v):v=ePtr s:=by
 simp only[VR]at h;obtain⟨vs,rfl,h⟩:=h;obtain⟨x,us,rfl,g,h⟩:=h.un;obtain⟨e,us,rfl,a,h⟩:=h.un;obtain⟨f,us,rfl,b,h⟩:=h.un;obtain⟨i,us,rfl,c,h⟩:=h.un;obtain⟨j,us,rfl,d,h⟩:=h.un;cases h.un0;simp only[VR]at g a b c d;subst g a b c d;rfl
theorem iDisk{I:In}{s:Disk}{v:Value}(h:VR I (.ag<|stC .Disk s) v):∃(b:Option Addr) (n c0:Nat) (c:Option Addr) (e d:Nat),v=.agg #[.slice b n c0,.slice c e d]/\IsSlice I.H (RSl RU8 1) 1 (.slice b n c0) s.Blocks/\IsSlice I.H R_Write 2 (.slice c e d) s.Waits:=by
 simp only[VR]at h;obtain⟨vs,rfl,h⟩:=h;obtain⟨x,us,rfl,g,h⟩:=h.un;obtain⟨f,us,rfl,a,h⟩:=h.un;cases h.un0;simp only[VR]at g a;have g:IsSlice I.H (RSl RU8 1) 1 x s.Blocks:=g;obtain⟨b,c0,rfl⟩:=IsSlice.val g;have a:IsSlice I.H R_Write 2 f s.Waits:=a;obtain⟨c,d,rfl⟩:=IsSlice.val a;exact⟨b,_,c0,c,_,d,rfl,g,a⟩
theorem ZS5{I:In}{s:Store}{v:Value}(h:VR I (.ag<|stC .Store s) v):∃(c:Option Addr) (n c0:Nat) (d:Option Addr) (j e:Nat) (f:Option Addr) (k i:Nat),v=.agg #[.slice c n c0,.slice d j e,.slice f k i,.int .u32 (s.Epoch.toNat:Int),.int .u32 (s.Count.toNat:Int)]/\IsSlice I.H (RSl RU8 1) 1 (.slice c n c0) s.Disk.Blocks/\IsSlice I.H R_Write 2 (.slice d j e) s.Disk.Waits/\IsSlice I.H RU8 1 (.slice f k i) s.Space:=by
 simp only[VR]at h;obtain⟨vs,rfl,h⟩:=h;obtain⟨x,us,rfl,g,h⟩:=h.un;obtain⟨o,us,rfl,a,h⟩:=h.un;obtain⟨p,us,rfl,b,h⟩:=h.un;obtain⟨q,us,rfl,l,h⟩:=h.un;obtain⟨r,us,rfl,m,h⟩:=h.un;cases h.un0;simp only[VR]at g a b l m;subst l m;have g:IsSlice I.H (RSl RU8 1) 1 x s.Disk.Blocks:=g;obtain⟨c,c0,rfl⟩:=IsSlice.val g;have a:IsSlice I.H R_Write 2 o s.Disk.Waits:=a;obtain⟨d,e,rfl⟩:=IsSlice.val a;have b:IsSlice I.H RU8 1 p s.Space:=b;obtain⟨f,i,rfl⟩:=IsSlice.val b;exact⟨c,_,c0,d,_,e,f,_,i,rfl,g,a,b⟩
theorem ZSX{I:In}{s:Pool}{v:Value}(h:VR I (.ag<|stC .Pool s) v):∃(E:Option Addr) (Q c0:Nat) (F:Option Addr) (R G:Nat) (J:Option Addr) (S K:Nat) (e:Option Addr) (q f:Nat) (i:Option Addr) (r j:Nat) (k:Option Addr) (t l:Nat) (m:Option Addr) (u n:Nat) (o:Option Addr) (w p:Nat),v=.agg #[.slice E Q c0,.slice F R G,.slice J S K,.int .u32 (s.Store.Epoch.toNat:Int),.int .u32 (s.Store.Count.toNat:Int),.int .u32 (s.Gen.toNat:Int),.int .i64 s.Root.At,.int .u32 (s.Root.Birth.toNat:Int),.int .u32 (s.Root.Iv.toNat:Int),.int .u32 (s.Root.Tag.toNat:Int),.int .u32 (s.Root.Sum.toNat:Int),.slice e q f,.slice i r j,.slice k t l,.slice m u n,.slice o w p,.int .i64 s.Logged,.int .i64 s.NextId,.int .u32 (s.NextGuid.toNat:Int)]/\IsSlice I.H (RSl RU8 1) 1 (.slice E Q c0) s.Store.Disk.Blocks/\IsSlice I.H R_Write 2 (.slice F R G) s.Store.Disk.Waits/\IsSlice I.H RU8 1 (.slice J S K) s.Store.Space/\IsSlice I.H RInt 1 (.slice e q f) s.MetaL/\IsSlice I.H R_Line 13 (.slice i r j) s.Lines/\IsSlice I.H (RSl RU8 1) 1 (.slice k t l) s.Keys/\IsSlice I.H (RSl RU8 1) 1 (.slice m u n) s.Loaded/\IsSlice I.H R_Change 12 (.slice o w p) s.Changes:=by
 simp only[VR]at h;obtain⟨vs,rfl,h⟩:=h;obtain⟨x0,us,rfl,x,h⟩:=h.un;obtain⟨x1,us,rfl,y,h⟩:=h.un;obtain⟨x2,us,rfl,z,h⟩:=h.un;obtain⟨x3,us,rfl,T,h⟩:=h.un;obtain⟨x4,us,rfl,U,h⟩:=h.un;obtain⟨x5,us,rfl,V,h⟩:=h.un;obtain⟨x6,us,rfl,W,h⟩:=h.un;obtain⟨x7,us,rfl,X,h⟩:=h.un;obtain⟨x8,us,rfl,Y,h⟩:=h.un;obtain⟨x9,us,rfl,Z,h⟩:=h.un;obtain⟨x10,us,rfl,A,h⟩:=h.un;obtain⟨L,us,rfl,g,h⟩:=h.un;obtain⟨M,us,rfl,a,h⟩:=h.un;obtain⟨N,us,rfl,b,h⟩:=h.un;obtain⟨O,us,rfl,c,h⟩:=h.un;obtain⟨P,us,rfl,d,h⟩:=h.un;obtain⟨x16,us,rfl,B,h⟩:=h.un;obtain⟨x17,us,rfl,C,h⟩:=h.un;obtain⟨x18,us,rfl,D,h⟩:=h.un;cases h.un0;simp only[VR]at x y z T U V W X Y Z A g a b c d B C D;subst T U V W X Y Z A B C D;have x:IsSlice I.H (RSl RU8 1) 1 x0 s.Store.Disk.Blocks:=x;obtain⟨E,c0,rfl⟩:=IsSlice.val x;have y:IsSlice I.H R_Write 2 x1 s.Store.Disk.Waits:=y;obtain⟨F,G,rfl⟩:=IsSlice.val y;have z:IsSlice I.H RU8 1 x2 s.Store.Space:=z;obtain⟨J,K,rfl⟩:=IsSlice.val z;have g:IsSlice I.H RInt 1 L s.MetaL:=g;obtain⟨e,f,rfl⟩:=IsSlice.val g;have a:IsSlice I.H R_Line 13 M s.Lines:=a;obtain⟨i,j,rfl⟩:=IsSlice.val a;have b:IsSlice I.H (RSl RU8 1) 1 N s.Keys:=b;obtain⟨k,l,rfl⟩:=IsSlice.val b;have c:IsSlice I.H (RSl RU8 1) 1 O s.Loaded:=c;obtain⟨m,n,rfl⟩:=IsSlice.val c;have d:IsSlice I.H R_Change 12 P s.Changes:=d;obtain⟨o,p,rfl⟩:=IsSlice.val d;exact⟨E,_,c0,F,_,G,J,_,K,e,_,f,i,_,j,k,_,l,m,_,n,o,_,p,rfl,x,y,z,g,a,b,c,d⟩
section
variable{P:Program}{f:Nat}
abbrev oI1:Sp:=⟨[.d .i []],[]⟩
theorem ZQD{i:Sp}{a:VH (hyS i)->Option Int}(h:FnOk P f i oI1 a)(hi:i.bs= []){H:Heaplet}{us:List Value}{cs:List CV}{z:VH (hyS i)}{r:Int}(b:VRs (argI H) cs us)
 (c:mtS s0 i cs [] (λhs ρ js=>some (hs,ρ,js))=some (ofVH (hyS i) z,[],[]))(d:a z=some r):Does P f us.toArray [] H (PostC false H (λr=> [Ow.Sp.i r]) r):=by
 refine(Pg (o:=oI1) h hi rfl (I:=argI H) (co:=[.i r]) (y:=r) b c d rfl).mono ?_;rintro u K' j ⟨rfl,ws,J,rfl,rfl,g⟩;obtain⟨v,rfl,h1⟩:=vr1 g;simp only[VR]at h1;subst h1;exact⟨[_],rfl,rfl,rfl,λe=>by cases e⟩
theorem ZL2{q:Pool->Option Int}(h:FnOk P f ⟨[.ag 19,.d (.st .Pool) []],[]⟩ oI1 λx=>q x){c:Pool}:Con P f false (ZNO false c) (q c) (λr=> [Ow.Sp.i r]):=by
 intro H k l m h0 b0 n o h1 c0 p s h2 t u v h3 e0 e1 e2 a w y A b B C D e E F G g r j;exact ZQD h rfl (cs:=[.ag<|stC .Pool c]) (z:=c) (VRs.cons (vPool h0 h1 h2 h3 a b e g) VRs.nil) rfl j
theorem ZOg{q:Store->Option Int}(h:FnOk P f ⟨[.ag 5,.d (.st .Store) []],[]⟩ oI1 λx=>q x){c:Store}:Con P f false (Q0 false c) (q c) (λr=> [Ow.Sp.i r]):=by
 intro H b e g h0 b0 j k h1 c0 l m h2 r a;exact ZQD h rfl (cs:=[.ag<|stC .Store c]) (z:=c) (VRs.cons (ZGP h0 h1 h2) VRs.nil) rfl a
theorem ZRV{q:Ptr->Option Int}(h:FnOk P f ⟨[.ag 5,.d (.st .Ptr) []],[]⟩ oI1 λx=>q x){c:Ptr}:Con P f false (Ji false c) (q c) (λr=> [Ow.Sp.i r]):=by
 intro H r a;exact ZQD h rfl (cs:=[.ag<|stC .Ptr c]) (z:=c) (VRs.cons (ZPE _ c) VRs.nil) rfl a
abbrev iSP:Sp:=⟨[.ag 5,.d (.st .Store) [],.ag 5,.d (.st .Ptr) []],[]⟩
theorem ZQC{q:Store->Ptr->Option (List UInt8×Int)}(h:FnOk P f iSP ⟨[.d (.sl .w8) [],.d .i []],[]⟩ λx=>q x.1 x.2){s:Store}{c:Ptr}:
 Con P f false (Q0 false s++Ji false c) (q s c) (λr=> [Ow.Sp.sl false RU8 1 r.1,.i r.2]):=by
 intro H j k l h0 b0 m n h1 c0 o p h2 r b;refine(Pg h rfl rfl (I:=argI H) (us:=[_,_]) (cs:=[.ag<|stC .Store s,.ag<|stC .Ptr c]) (co:=[.sl .w8 r.1,.i r.2]) (z:=(s,c)) (y:=r) (VRs.cons (ZGP h0 h1 h2)<|VRs.cons (ZPE _ c) VRs.nil) rfl b rfl).mono ?_;rintro u K' t ⟨rfl,ws,J,rfl,rfl,g⟩;obtain⟨v,u,rfl,h3,a⟩:=vr2 g;simp only[VR]at h3 a;subst a;exact⟨[_,_],rfl,rfl,⟨h3,rfl⟩,λe=>by cases e⟩
abbrev oPi (E:Nat):Sp:=⟨[.d (.sl<|.st .Ptr) [(0,0,E)],.d .i []],[.row]⟩
theorem ZL0{E:Nat}{i:Sp}{a:VH (hyS i)->Option (List Ptr×Int)}(h:FnOk P f i (oPi E) a)(hi:i.bs= []){H:Heaplet}{us:List Value}{cs:List CV}{z:VH (hyS i)}{r:List Ptr×Int}(c:VRs (argI H) cs us)
 (d:mtS s0 i cs [] (λhs ρ js=>some (hs,ρ,js))=some (ofVH (hyS i) z,[],[]))(g:a z=some r):Does P f us.toArray [] H (PostC false H (λr:List Ptr×Int=> [Ow.Sp.sl false R_Ptr 5 r.1,.i r.2]) r):=by
 refine Does.pub (R:=R_Ptr) (E:=E) (size:=5) (m:=r.1) (A:=λv u=>u=.tuple #[v,.int .i64 r.2]) R_Ptr.mono ?_ ?_
 . refine(OC (t:=.st .Ptr) (E:=E) (m:=r.1) h hi rfl (I:=argI H) (co:=[.row 0,.i r.2]) (y:=r) c d g rfl).mono ?_;rintro u K' j ⟨K,ws,J,rfl,rfl,rfl,k,l⟩;obtain⟨v,u,rfl,h3,b⟩:=vr2 l;simp only[VR]at h3 b;obtain⟨_,rfl,_⟩:=h3;subst b;exact⟨K,_,rfl,k,rfl⟩
 . rintro u v j rfl hs;exact⟨[_,_],rfl,rfl,⟨hs,rfl⟩,λe=>by cases e⟩
theorem ZQA{E:Nat}{q:List UInt8->Option (List Ptr×Int)}(h:FnOk P f ⟨[.d (.sl .w8) []],[]⟩ (oPi E) λx=>q x){d:List UInt8}:
 Con P f false [Ow.Sp.sl false RU8 1 d] (q d) (λr=> [Ow.Sp.sl false R_Ptr 5 r.1,.i r.2]):=by
 intro H b c e h0 r a;exact ZL0 h rfl (cs:=[.sl .w8 d]) (z:=d) (VRs.cons (by simp only[VR];exact h0) VRs.nil) rfl a
theorem ZQB{E:Nat}{q:Store->Ptr->Option (List Ptr×Int)}(h:FnOk P f iSP (oPi E) λx=>q x.1 x.2){s:Store}{c:Ptr}:
 Con P f false (Q0 false s++Ji false c) (q s c) (λr=> [Ow.Sp.sl false R_Ptr 5 r.1,.i r.2]):=by
 intro H b d e h0 b0 g j h1 c0 k l h2 r a;exact ZL0 h rfl (cs:=[.ag<|stC .Store s,.ag<|stC .Ptr c]) (z:=(s,c)) (VRs.cons (ZGP h0 h1 h2)<|VRs.cons (ZPE _ c) VRs.nil) rfl a
abbrev oOi (E:Nat):Sp:=⟨[.ag 4,.d (.st .Object) [(3,0,E)],.d .i []],[.row]⟩
theorem ZL1{E:Nat}{i:Sp}{a:VH (hyS i)->Option (Object×Int)}(h:FnOk P f i (oOi E) a)(hi:i.bs= []){H:Heaplet}{us:List Value}{cs:List CV}{z:VH (hyS i)}{r:Object×Int}(c:VRs (argI H) cs us)
 (d:mtS s0 i cs [] (λhs ρ js=>some (hs,ρ,js))=some (ofVH (hyS i) z,[],[]))(g:a z=some r):Does P f us.toArray [] H (PostC false H (λr:Object×Int=> [Ow.Sp.st 4,.w8 r.1.Kind,.i r.1.Links,.i r.1.Size,.sl false R_Ptr 5 r.1.Data,.i r.2]) r):=by
 refine Does.pub (R:=R_Ptr) (E:=E) (size:=5) (m:=r.1.Data) (A:=λv u=>u=.tuple #[.agg #[.int .u8 (r.1.Kind.toNat:Int),.int .i64 r.1.Links,.int .i64 r.1.Size,v],.int .i64 r.2]) R_Ptr.mono ?_ ?_
 . refine(OC (t:=.st .Ptr) (E:=E) (m:=r.1.Data) h hi rfl (I:=argI H) (co:=[.ag [.w8 r.1.Kind,.i r.1.Links,.i r.1.Size,.row 0],.i r.2]) (y:=r) c d g rfl).mono ?_;rintro u K' j ⟨K,ws,J,rfl,rfl,rfl,k,l⟩;obtain⟨v,u,rfl,h3,b⟩:=vr2 l;simp only[VR]at h3 b;subst b;obtain⟨vs,rfl,h3⟩:=h3;obtain⟨n,us,rfl,e0,h3⟩:=h3.un;obtain⟨o,us,rfl,e1,h3⟩:=h3.un;obtain⟨p,q,rfl,e2,e3⟩:=vr2 h3;simp only[VR]at e0 e1 e2 e3;obtain⟨_,rfl,_⟩:=e3;subst e0 e1 e2;exact⟨K,_,rfl,k,rfl⟩
 . rintro u v j rfl hs;exact⟨[_,_],rfl,rfl,⟨hs,rfl⟩,λe=>by cases e⟩
theorem ZRX{E:Nat}{q:List UInt8->Option (Object×Int)}(h:FnOk P f ⟨[.d (.sl .w8) []],[]⟩ (oOi E) λx=>q x){d:List UInt8}:
 Con P f false [Ow.Sp.sl false RU8 1 d] (q d) (λr=> [Ow.Sp.st 4,.w8 r.1.Kind,.i r.1.Links,.i r.1.Size,.sl false R_Ptr 5 r.1.Data,.i r.2]):=by
 intro H b c e h0 r a;exact ZL1 h rfl (cs:=[.sl .w8 d]) (z:=d) (VRs.cons (by simp only[VR];exact h0) VRs.nil) rfl a
theorem ZRW{E:Nat}{q:Store->Ptr->Option (Object×Int)}(h:FnOk P f iSP (oOi E) λx=>q x.1 x.2){s:Store}{c:Ptr}:
 Con P f false (Q0 false s++Ji false c) (q s c) (λr=> [Ow.Sp.st 4,.w8 r.1.Kind,.i r.1.Links,.i r.1.Size,.sl false R_Ptr 5 r.1.Data,.i r.2]):=by
 intro H b d e h0 b0 g j h1 c0 k l h2 r a;exact ZL1 h rfl (cs:=[.ag<|stC .Store s,.ag<|stC .Ptr c]) (z:=(s,c)) (VRs.cons (ZGP h0 h1 h2)<|VRs.cons (ZPE _ c) VRs.nil) rfl a
theorem ZP9{q:Store->Ptr->UInt32->Option (List Ptr×Int)}(h:FnOk P f ⟨[.ag 5,.d (.st .Store) [],.ag 5,.d (.st .Ptr) [],.d .w32 []],[]⟩ ⟨[.d (.sl<|.st .Ptr) [],.d .i []],[]⟩ λx=>q x.1 x.2.1 x.2.2){s:Store}{c:Ptr}{n:UInt32}:
 Con P f false (Q0 false s++Ji false c++ [Ow.Sp.w32 n]) (q s c n) (λr=> [Ow.Sp.sl false R_Ptr 5 r.1,.i r.2]):=by
 intro H j k l h0 b0 m o h1 c0 p t h2 r b;refine(Pg h rfl rfl (I:=argI H) (us:=[_,_,_]) (cs:=[.ag<|stC .Store s,.ag<|stC .Ptr c,.w32 n]) (co:=[.sl (.st .Ptr) r.1,.i r.2]) (z:=(s,c,n)) (y:=r) (VRs.cons (ZGP h0 h1 h2)<|VRs.cons (ZPE _ c)<|VRs.cons (by simp only[VR]) VRs.nil) rfl b rfl).mono ?_;rintro u K' w ⟨rfl,ws,J,rfl,rfl,g⟩;obtain⟨v,u,rfl,h3,a⟩:=vr2 g;simp only[VR]at h3 a;subst a;exact⟨[_,_],rfl,rfl,⟨h3,rfl⟩,λe=>by cases e⟩
end
end Go.Pv
namespace Go.Ow
open Go.ChangeShapes Go.WideShapes Go.ChangeAt Go.RowKit
def HW (W:World):Heaplet:=λb o=>W.cell? ⟨b,o,none⟩
theorem ZOj (W:World):Agrees (HW W) W:=λ_ _ _ h=>h
structure Bulk (H:Type) where
  one:DataW H->Nat
  all:List (DataW H)->Nat
  hstr:∀l:List UInt8,one (.lit<|.string l)=l.length+1
  hsl:∀a b,one (.slice a b)=all a+all b+1
  hagg:∀a,one (.agg a)=all a+1
  hnil:all []=0
  hcons:∀d r,all (d::r)=one d+all r
  hone:∀d,1<=one d
section
variable{H:Type}{enc:TypeId×Value->H}{P:Program}{W:World}{B:Bulk H}
end
section
variable{H:Type}{enc:TypeId×Value->H}{P:Program}{W:World}{B:Bulk H}
end
section
variable{H:Type}{enc:TypeId×Value->H}{P:Program}{W:World}{B:Bulk H}{r:Reach}{b0:Nat}{t:TypeId}{v:Value}{d:DataW H}{ps:List MemPlace}
theorem ZA0 (e:laidOutB P=true){f:World}{sp:Nat->Bool}(hb:Below W.heap.size W f):∀{ts:List TypeId} {vs:List Value} {ds:List (DataW H)} {ps:List MemPlace},
    ts.all (λt=>P.readableRec t&&decide (t<P.types.size))=true->DataW.TrodAll enc P W 0 (λ_=>true) true ts vs ds ps->(∀p∈ps,p.block<W.heap.size)->(∀p∈ps,sp p.block=true)->
    DataW.TrodAll enc P f 0 sp true ts vs ds ps
  | [],_,_,_,_,h,_,_=>by
    obtain⟨rfl,rfl,rfl⟩:=trodAll_nil h;exact trodAll_mk0
  | t::ts,_,_,_,c,h,b,hs=>by
    obtain⟨v,vs,d,ds,p,q,rfl,rfl,rfl,h1,h2⟩:=trodAll_cons h;simp only[RY,TD,SL]at c;refine trodAll_cons_mk (WideElems.Trod_stays e c.1.1 c.1.2 h1 (λx a=>hb.same<|b x<|by simp[a]) λx a=>hs x<|by simp[a]) ?_;exact ZA0 e hb (by simpa using c.2) h2 (λx a=>b x<|by simp[a]) λx a=>hs x<|by simp[a]
theorem ZOQ{f:FuncId}{fn:Func}{s:ChangeSpec}{args:Array Value}{ds m:List (DataW H)}{b:List MemPlace}{tb:TypeId}{R:Value->List Own->Heaplet->Prop}(w:laidOutB P=true)
 (a:fn.params.toList.all (λt=>P.readableRec t&&decide (t<P.types.size))=true)(c:fn.resultTypes= #[tb])(i:P.underlying tb=some .bool)(n:s.vars= [])
 (j:DataW.Whole enc P fn.params.toList s.vars false W args.toList ds m b)(hs:s.fn H (ds++m)={results:=[.lit<|.bool true],args:=ds})
 (y:Does P f args [] (HW W) R)(z:∀u K o,R u K o->u=.bool true):
 Calls P f args W λe g=>∃v,e=.returned v/\s.post enc P fn false true false false W args v g:=by
 have h1:=callsIn_wide.1 (y W (ZOj W) ⟨by simp,by simp[ids],by simp⟩);refine h1.mono λe g ⟨v,K',o,A,B,C⟩=> ?_;obtain rfl:=z _ _ _ B;refine⟨_,A,?_⟩;have hb:Below W.heap.size W g:=(show Kept [] W g from C.kept).below;have d:=j.lt;have k:=j;obtain⟨p,q,D,r,rfl,E,F⟩:=k;rw[n]at r;obtain⟨rfl,rfl⟩:=trodVars_none r;refine⟨ds,[],_,[],p,[],j,?_,?_,?_,hb.frame _,λh=>by cases h⟩
 . rw[hs,c];exact trodAll_cons_mk (shut_bool i _) trodAll_mk0
 . rw[hs];exact ZA0 w hb a D (λx l=>d x<|by simpa using l) λx l=>by simpa using d x (by simpa using l)
 . rw[hs,n];exact rfl
end
section
variable{H:Type}{enc:TypeId×Value->H}{P:Program}{W:World}{B:Bulk H}
end
section
variable{H:Type}{enc:TypeId×Value->H}{P:Program}{W:World}{B:Bulk H}
end
end Go.Ow
namespace Go.Ow
open Go.RowKit
def RUnit:Rep Unit:=λ_ cs _=>cs= []
theorem RUnit.mono:RUnit.Mono:=λ_ _ _ _ _ h=>h
theorem ZPs{B:List Int}{M:List (Int×Unit)}{n:Nat}{k:Int}{y:Unit}(h:M[n]? =some (k,y)):(incM B M)[n]? =some (k,w64<|B.getD k.toNat 0+1):=by
 unfold incM;rw[SN,h];rfl
theorem ZHW{B:List Int}{M:List (Int×Unit)}(h:(M.map (·.1)).Nodup):((incM B M).map (·.1)).Nodup:=by
 unfold incM;rw[RK];exact h
theorem ZPr{B A:List Int}{M:List (Int×Unit)}{S:List Nat}{n:Nat}{k:Int}{y:Unit}(g:Laid id B (incM B M) S A)(hn:(M.map (·.1)).Nodup)(i:M[n]? =some (k,y))(hs:n∉S)(c:∀p∈incM B M,0<=p.1/\p.1.toNat<B.length)(b:0<=k/\k.toNat<A.length):
    (idx A k λy=>chk (0<=k/\k.toNat<A.length)<|setI A k (w64 (y+1)) λm=>some m)=some (A.set k.toNat<|w64<|B.getD k.toNat 0+1):=by
  have h:A[k.toNat]? =B[k.toNat]?:=g.same k.toNat (λm o z j f e=>by
    have h0:=(c _<|Tq f).1;have a:=f;unfold incM at a;rw[SN]at a;cases d:M[m]? with
    |none=>rw[d]at a;cases a
    | some p=>
      rw[d]at a;obtain⟨e1,e2⟩:=Prod.mk.inj<|TB a;have l:p.1=k:=(by dsimp only at h0;omega);have:m=n:=ZHD hn (k:=k) (y:=p.2) (z:=y) (by rw[d,<-l]) i;exact hs (this▸j))
  have h2:B.getD k.toNat 0=A[k.toNat]:=by rw[List.getD_eq_getElem?_getD,<-h,TL b.2];rfl
  unfold idx chk setI;rw[TJ b.1,TL b.2,Tg,TJ b,TJ b,h2]
theorem Gm{l m:List Int}(h:l.Perm m):sortI l=sortI m:=mergeSort_of_perm_i h
theorem ZBr (l:List Int):(sortI l).Perm l:=List.mergeSort_perm l _
def bdK (y:Int)(s:List Int):Option (List Int ⊕ Unit):=if s.length+1<=LIM then some (.inl<|sortI (y::s))else none
def seenK (M:List (Int×Unit))(l:List Nat):List Int:=l.filterMap λq=>(M[q]?).map (·.1)
theorem ZOK (M:List (Int×Unit))(l:List Nat):(sortI<|seenK M l).length<=l.length:=by
 rw[Gn];exact List.length_filterMap_le _ _
theorem ZMV{M:List (Int×Unit)}{l:List Nat}{n:Nat}{k:Int}{y:Unit}(h:M[n]? =some (k,y)):sortI (k::sortI (seenK M l))=sortI (seenK M<|l++ [n]):=by
 have e:seenK M (l++ [n])=seenK M l++ [k]:=by
  unfold seenK;rw[List.filterMap_append];simp[h]
 rw[e];exact Gm<|((ZBr _).cons k).trans (List.perm_append_singleton k _).symm
theorem ZEk (M:List (Int×Unit)):∀N,N<=M.length->seenK M (List.range N)=(M.take N).map (·.1)
  |0,_=>by simp[seenK]
  | N+1,h=>by
    have i:=ZEk M N (by omega);have hi:N<M.length:=h;unfold seenK at i|-;rw[List.range_succ,List.filterMap_append,i,List.take_add_one,SJ,TL hi];simp[hi]
theorem ZMW{M:List (Int×Unit)}{l:List Nat}(hn:l.Nodup)(h1:∀q∈l,q<M.length)(h2:∀k,k<M.length->k∈l):sortI (seenK M l)=sortI (M.map (·.1)):=by
 have b:l.Perm (List.range M.length):=(List.perm_ext_iff_of_nodup hn List.nodup_range).2 λa=>⟨λh=>Tx.2<|h1 a h,λh=>h2 a<|Tx.1 h⟩;have e:=ZEk M M.length<|TF _;rw[RN]at e;rw[<-e];exact Gm<|b.filterMap _
theorem ZQL{M:List (Int×Unit)}{l:List Nat}{n:Nat}{k:Int}{y:Unit}(h:M[n]? =some (k,y))(a:l.length<M.length)(b:M.length<=LIM):bdK k (sortI<|seenK M l)=some (.inl<|sortI<|seenK M<|l++ [n]):=by
 unfold bdK;rw[TJ (by have:=ZOK M l;omega),ZMV h]
end Go.Ow
