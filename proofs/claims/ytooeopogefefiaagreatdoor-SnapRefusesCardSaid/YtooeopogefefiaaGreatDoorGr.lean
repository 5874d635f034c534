import Derived.Test.YtooeopogefefiaaGreatDoorPwRo
import Derived.Test.YtooeopogefefiaaGreatDoorOwMg
import Derived.Test.YtooeopogefefiaaGreatDoorT2
/- what is proved here: cipher.pieces' iterator and ptr.Row, over contracts by value of what they call. -/
set_option linter.unusedSimpArgs false
set_option linter.unusedVariables false
namespace Go.Proofs.YtooeopogefefiaaGreatDoor
open Go Go.Ow Go.Pv Go.RowKit Go.Proofs
set_option maxRecDepth 20000
set_option maxHeartbeats 8000000
abbrev oRw:Pv.Sp:=⟨[.d (.sl .w8) [(0,0,5)]],[.row]⟩
abbrev oRi:Pv.Sp:=⟨[.d (.sl .w8) [(0,0,5)],.d .i []],[.row]⟩
abbrev FPut (q0:Int->Int->Option (List UInt8×Int)):Prop:=FnOk Tryz.prog 107 ⟨[.d .i [],.d .i []],[]⟩ oRi (λx=>q0 x.1 x.2)
abbrev FCat (q1:List (List UInt8)->Option (List UInt8)):Prop:=FnOk Tryz.prog 139 ⟨[.d (.sl (.sl .w8)) []],[]⟩ oRw (λx=>q1 x)
abbrev FKey (q2:List UInt8->Option (List UInt8)):Prop:=FnOk Tryz.prog 154 ⟨[.d (.sl .w8) []],[]⟩ oRw (λx=>q2 x)
abbrev FWri (q0:Ptr->Option (List UInt8×Int)):Prop:=FnOk Tryz.prog 86 ⟨[.ag 5,.d (.st .Ptr) []],[]⟩ oRi (λx=>q0 x)
variable{q0:Int->Int->Option (List UInt8×Int)}{q1:List (List UInt8)->Option (List UInt8)}{q2:List UInt8->Option (List UInt8)}{qw:Ptr->Option (List UInt8×Int)}
theorem ZQn{H:Heaplet}{P:Program}{f:Nat}{a:Array Value}{r:List UInt8×Int}(h:Does P f a [] H (λu K' b=>∃(K:Own) (v:Value) (ws:List Value) (J:In),K'= [K]/\J.H=b/\u=Ow.pack (v::ws)/\RowOf b (RT .w8) 0 5 (szY .w8) v r.1 K/\VRs J [.i r.2] ws)):
    Does P f a [] H (λu K' b=>∃ao n cap K,u=.tuple #[.slice ao n cap,.int .i64 r.2]/\K'= [K]/\RowOf b RU8 0 5 1 (.slice ao n cap) r.1 K):=h.mono (by
  rintro u K' b ⟨K,v,ws,J,rfl,rfl,rfl,c,d⟩;obtain⟨w,_,rfl,h1,h2⟩:=d.un;cases h2.un0;simp only[VR]at h1;subst h1;have c:RowOf J.H RU8 0 5 1 v r.1 K:=c;obtain⟨ao,cap,rfl⟩:=RowOf.val c;exact⟨ao,_,cap,K,rfl,rfl,c⟩)
theorem ZQk{H:Heaplet}{P:Program}{f:Nat}{a:Array Value}{r:List UInt8}(h:Does P f a [] H (λu K' b=>∃(K:Own) (v:Value) (ws:List Value) (J:In),K'= [K]/\J.H=b/\u=Ow.pack (v::ws)/\RowOf b (RT .w8) 0 5 (szY .w8) v r K/\VRs J [] ws)):
    Does P f a [] H (λu K' b=>∃ao n cap K,u=.slice ao n cap/\K'= [K]/\RowOf b RU8 0 5 1 (.slice ao n cap) r K):=h.mono (by
  rintro u K' b ⟨K,v,ws,J,rfl,rfl,rfl,c,d⟩;cases d.un0;have c:RowOf J.H RU8 0 5 1 v r K:=c;obtain⟨ao,cap,rfl⟩:=RowOf.val c;exact⟨ao,_,cap,K,rfl,rfl,c⟩)
theorem put_d (h:FPut q0){H:Heaplet}{a b:Int}{r:List UInt8×Int}(c:q0 a b=some r):Does Tryz.prog 107 #[.int .i64 a,.int .i64 b] [] H (λu K' d=>∃ao n cap K,u=.tuple #[.slice ao n cap,.int .i64 r.2]/\K'= [K]/\RowOf d RU8 0 5 1 (.slice ao n cap) r.1 K):=
  ZQn (Pi (t:=.w8) (E:=5) (m:=r.1) h rfl rfl (I:=argI H) (us:=[.int .i64 a,.int .i64 b]) (cs:=[.i a,.i b]) (co:=[.i r.2]) (z:=(a,b)) (y:=r) (VRs.cons (by simp only[VR]) (VRs.cons (by simp only[VR]) VRs.nil)) rfl c rfl)
theorem cat_d (h:FCat q1){H:Heaplet}{l:List (List UInt8)}{v:Value}{r:List UInt8}(a:IsSlice H (RSl RU8 1) 1 v l)(b:q1 l=some r):Does Tryz.prog 139 #[v] [] H (λu K' c=>∃ao n cap K,u=.slice ao n cap/\K'= [K]/\RowOf c RU8 0 5 1 (.slice ao n cap) r K):=
  ZQk (Pi (t:=.w8) (E:=5) (m:=r) h rfl rfl (I:=argI H) (us:=[v]) (cs:=[.sl (.sl .w8) l]) (co:=[]) (z:=l) (y:=r) (VRs.cons (by simp only[VR];exact a) VRs.nil) rfl b rfl)
theorem key_d (h:FKey q2){H:Heaplet}{l:List UInt8}{v:Value}{r:List UInt8}(a:IsSlice H RU8 1 v l)(b:q2 l=some r):Does Tryz.prog 154 #[v] [] H (λu K' c=>∃ao n cap K,u=.slice ao n cap/\K'= [K]/\RowOf c RU8 0 5 1 (.slice ao n cap) r K):=
  ZQk (Pi (t:=.w8) (E:=5) (m:=r) h rfl rfl (I:=argI H) (us:=[v]) (cs:=[.sl .w8 l]) (co:=[]) (z:=l) (y:=r) (VRs.cons (by simp only[VR];exact a) VRs.nil) rfl b rfl)
theorem wri_d (h:FWri qw){H:Heaplet}{p:Ptr}{r:List UInt8×Int}(a:qw p=some r):Does Tryz.prog 86 #[.agg #[.int .i64 p.At,.int .u32 (p.Birth.toNat:Int),.int .u32 (p.Iv.toNat:Int),.int .u32 (p.Tag.toNat:Int),.int .u32 (p.Sum.toNat:Int)]] [] H (λu K' b=>∃ao n cap K,u=.tuple #[.slice ao n cap,.int .i64 r.2]/\K'= [K]/\RowOf b RU8 0 5 1 (.slice ao n cap) r.1 K):=
  ZQn (Pi (t:=.w8) (E:=5) (m:=r.1) h rfl rfl (I:=argI H) (us:=[_]) (cs:=[.ag (stC .Ptr p)]) (co:=[.i r.2]) (z:=p) (y:=r) (VRs.cons (by simp only[VR];exact⟨[_,_,_,_,_],rfl,VRs.cons (by simp only[VR]) (VRs.cons (by simp only[VR]) (VRs.cons (by simp only[VR]) (VRs.cons (by simp only[VR]) (VRs.cons (by simp only[VR]) VRs.nil))))⟩) VRs.nil) rfl a rfl)
theorem ZNH (g0:FPut q0)(g1:FCat q1)(g2:FKey q2){t τ:Type}(Q:(List UInt8)->t->Option (t ⊕ τ))(S:t)(c:List UInt8)(d:List UInt8)(H:Heaplet){n:Nat}{I:t->Own->Heaplet->Prop}{X:τ->Own->Heaplet->Prop}{O:Own}{a:Nat}{f:Option Addr}{h:Nat}{i:Nat}{b:Nat}{j:Option Addr}{k:Nat}{m:Nat}{T U:Nat}(B:YSpecG Tryz.prog n (fun(H:Heaplet) (args:Array Value) (y:List UInt8)=>∃V:Value,args= #[V]/\IsSlice H RU8 1 V y) Q I X)(C:IX I X (.inl S) O H)(b4:IsSlice H RU8 1 (.slice f h i) c)(b5:IsSlice H RU8 1 (.slice j k m) d)(r:t ⊕ τ)(e:pcP q0 q1 q2 Q S c d=some r):
  Does Tryz.prog 229 #[.func (.yield n) #[] #[],.pointer (some ⟨a,0,none⟩),.pointer (some ⟨b,0,none⟩)] [[(a,.cells #[.slice f h i] T (0,0))],[(b,.cells #[.slice j k m] U (0,0))],O] H (λu K' H'=>∃W:Own,u=.tuple #[]/\K'= [[(a,.cells #[.slice f h i] T (0,0))],[(b,.cells #[.slice j k m] U (0,0))],W]/\IX I X r W H'/\True):=by
 refine PA (vs:=[.func (.yield n) #[] #[],.pointer (some ⟨a,0,none⟩),.pointer (some ⟨b,0,none⟩)]) (l:=[(0,.func (.yield n) #[] #[]),(1,.pointer (some ⟨a,0,none⟩)),(2,.pointer (some ⟨b,0,none⟩))]) Tryz.func229 rfl rfl ⟨rfl,rfl,rfl,trivial⟩ (λw hlt=> ?_);unfold pcP at e;refine Run.ccz [] 5 ZP rfl ?_;obtain⟨d5,Y,e⟩:=Zb e;have b6:=e;clear e;have e:=Y;clear Y;refine JC.block (QR 1 rfl (QR 1 rfl (QR 2 rfl (Wx [0,1,2] [1,2] rfl rfl (λl0 o0 q l o g=>∃s:Heaplet,∃x:Own,l=(4,.int .i64 q.2)::l0/\o=x::o0/\s=g/\Hle H s/\IX I X (.inl (q.1)) x s) e ⟨H,O,rfl,rfl,rfl,(R1 _),C⟩ rfl ?_))))
 ·
  rintro d6 q _ _ _ ⟨s,x,rfl,rfl,rfl,z,b7⟩ d7 e Z;unfold pcL at e;obtain⟨a8,d8,e⟩:=Zb e;refine Run.cl [] 5 ZP rfl (BH (vs:=[_,_]) E107 rfl rfl (λe5 c4 c5=>put_d g0 d8) rfl (λ_ _ _ _ D E=> ?_));obtain⟨b8,b9,c0,d9,rfl,rfl,F⟩:=D;replace F:=RowOf.base (K7 (H2:=New H s) RU8.const F) (λp A=>E p (KV 0 rfl A));refine R6 [2,3] 13 ZP rfl (JL.pubN 0 RU8.mono rfl F (TL _) (λG v c2=>JL.forget 0 (WO (HF:=G) (R:=(RSl RU8 1)) (ls:=[c,d,a8.1]) (vs:=[.slice f h i,.slice j k m,.slice b8 b9 c0]) U22 I26 rfl rfl (⟨_,_,rfl,rfl,⟨_,rfl,(b4.mono RU8.mono (z.trans v))⟩,⟨_,_,rfl,rfl,⟨_,rfl,(b5.mono RU8.mono (z.trans v))⟩,⟨_,_,rfl,rfl,⟨_,rfl,(c2.old RU8.mono)⟩,rfl⟩⟩⟩) RSl.one rfl rfl rfl (by simp[maxLen]) rfl (λe0 e1 b0=> ?_))));obtain⟨e2,e3,rfl⟩:=RowOf.val b0;obtain⟨e4,c3,e⟩:=Zb e;refine BH (vs:=[_]) E139 rfl rfl (λe5 c4 c5=>cat_d g1 (Pq 0 c5 (RSl.mono RU8.mono) c4 rfl b0) c3) rfl (λ_ _ _ _ D E=> ?_);obtain⟨e6,e7,e8,e9,rfl,rfl,J⟩:=D;replace J:=RowOf.base (K7 (H2:=New H G) RU8.const J) (λp A=>E p (KV 0 rfl A));obtain⟨d0,f1,e⟩:=Zb e;refine BH (vs:=[_]) E154 rfl rfl (λf0 c8 c9=>key_d g2 (Pq 0 c9 RU8.mono c8 rfl (J.old RU8.mono)) f1) rfl (λ_ _ _ _ k6 k7=> ?_);obtain⟨f2,f3,f4,f5,rfl,rfl,L⟩:=k6;replace L:=RowOf.base (K7 (H2:=New H G) RU8.const L) (λp A=>k7 p (KV 0 rfl A));refine JL.pubN 0 RU8.mono rfl L (TL _) (λf6 b1 d2=>JL.forget 0 ?_);obtain⟨f7,d3,e⟩:=Zb e;refine ZP5 2 d0 d3 B rfl rfl rfl (b7.mono (v.trans b1)) ⟨_,rfl,(d2.old RU8.mono)⟩ rfl (λd4 M b2 b3 N P=> ?_) (λf8 M b2 b3 N P=> ?_)
  ·
   subst P;simp only[Sum.elim_inl]at e;refine P9 [] 12 ZP rfl ?_;replace e:=QL Z e;refine JN.forget 1 (JN.forget 0 (Zn 2 rfl (Zn 2 rfl (Zn 2 rfl ?_))));exact YA ⟨(d4,w64 (q.2+1)),⟨b2,M,rfl,rfl,rfl,((z.trans (v.trans (b1.trans b3)))),N⟩,e⟩ rfl rfl rfl
  ·
   subst P;simp only[Sum.elim_inr]at e;refine PQ [] 7 ZP rfl ?_;obtain rfl:=KG Z e;refine R9 [] 2 ZP rfl ?_;clear e;have e:=b6;refine Yc (vs:=[]) (K:=[_,_,_]) (rst:=[_,_]) (.inl rfl) rfl rfl rfl (Qm 3 rfl (Qm 3 rfl (Qm 2 rfl Yk))) ?_;obtain rfl:=TJ e;exact⟨M,rfl,rfl,N,trivial⟩
theorem ZNd (g:FPut q0)(l:FCat q1)(m:FKey q2):ItOk Tryz.prog 229 ⟨iPcs,1,[.d (.sl .w8) []],fun(x:List UInt8×List UInt8) _ _ e s=>pcP q0 q1 q2 e s x.1 x.2⟩:=
  ZPV E229 (F:=λe s c d=>pcP q0 q1 q2 e s c d) (@λq τ e s c d H t I X O a b T w v u n hI h1 h2 r o=>by
    obtain⟨f,i,rfl⟩:=h1.val;obtain⟨j,k,rfl⟩:=h2.val;refine(ZNH g l m e s c d H n hI h1 h2 r o).mono ?_;rintro u K' y ⟨p,rfl,rfl,h,-⟩;exact⟨p,rfl,h⟩)
theorem ZSc (V:FWri qw)(J:List Ptr)(H:Heaplet){j:Option Addr}{k:Nat}{m:Nat}(q:IsSlice H R_Ptr 5 (.slice j k m) J)(r:List UInt8×Int)(e:rwP qw J=some r):
  Does Tryz.prog 80 #[.slice j k m] [] H (λu K' W=>∃B:Option Addr,∃L:Nat,∃A:Nat,∃D:Own,u=.tuple #[.slice B L A,.int .i64 r.2]/\K'= [D]/\H=W/\RowOf (New H H) RU8 0 5 1 (.slice B L A) r.1 D/\(∀p∈D,p.1∉ids (List.flatten []))/\True):=by
 refine PA (vs:=[.slice j k m]) (l:=[(0,.slice j k m)]) Tryz.func80 rfl rfl ⟨rfl,trivial⟩ (λw E=> ?_);unfold rwP at e;refine Run.cl [] 10 ZP rfl (ZB rfl rfl (XK U39 rfl (IsSlice.long q)) (R5 [] 3 ZP rfl (XQ e rfl (λX e=> ?_) (λX e=> ?_))))
 ·
  refine PE [] 8 ZP rfl (ZBX (Yc (vs:=[.slice none 0 0,.int .i64 4]) (K:=[_]) (rst:=[]) (.inl rfl) rfl rfl (Yq rfl (Yq rfl rfl)) (Qm 0 rfl Yk) ?_));obtain rfl:=TJ e;exact⟨none,0,0,[],rfl,rfl,rfl,(RowOf.nil _ _ _ _ _),(λp C=>by cases C),trivial⟩
 ·
  refine R7 [] 4 ZP rfl (ZVb (HF:=New H H) (N:=256) U26 I5 rfl rfl (by decide) rfl (λd3 Y M Z=> ?_));obtain⟨b3,b4,rfl⟩:=RowOf.val M;refine R6 [] 7 ZP rfl (ZB rfl rfl (XK U39 rfl (IsSlice.long q)) (R5 [] 3 ZP rfl (WP e [] [] rfl rfl (λz l0 F l o g=>∃s:List UInt8,∃v:Option Addr,∃x:Nat,∃y:Nat,∃a:Own,l=(4,.slice v x y)::l0/\o=a::F/\H=g/\z=.inl s/\RowOf (New H H) RU8 w.heap.size 5 1 (.slice v x y) s a/\Spare (.slice v x y) a 256) (λz d4 e=> ?_) (λz b5 e=> ?_))))
  ·
   rintro _ _ _ ⟨s,v,x,y,a,rfl,rfl,rfl,rfl,b6,b7⟩;simp only[Sum.elim_inl]at e;refine PV [] 4 ZP rfl ?_;obtain⟨d5,b8,b9,e⟩:=ZPs e;obtain⟨O,t,P⟩:=ZMp b6 b7 b8 b9;refine ZB rfl rfl (ZVD (b:=256) (N:=256) (n:=(s).length) U26 S5 rfl ⟨_,rfl⟩ (by omega) t) ?_;refine PM [] 5 ZP rfl (Yc (vs:=[.slice (some ⟨O,0,none⟩) ((256:Int).toNat) 256,.int .i64 0]) (K:=[_]) (rst:=[]) (.inl rfl) rfl rfl (Yq rfl (Yq rfl rfl)) (Qm 0 rfl Yk) ?_);obtain rfl:=TJ e;exact⟨(some ⟨O,0,none⟩),(256:Int).toNat,256,a,rfl,rfl,rfl,(RowOf.weak (TK _) P),(UM P E),trivial⟩
  ·
   refine JC.block (Wx [13,14] [] rfl rfl (λl0 F c l o g=>∃d:Option Addr,∃f:Nat,∃h:Nat,∃i:Own,l=(4,.slice d f h)::(15,.int .i64 ((c.2:Nat):Int))::l0/\o=i::F/\H=g/\RowOf (New H H) RU8 w.heap.size 5 1 (.slice d f h) c.1 i/\Spare (.slice d f h) i 256) e ⟨b3,([]:List UInt8).length,b4,Y,rfl,rfl,rfl,M,Z⟩ rfl ?_)
   ·
    rintro d6 c _ _ _ ⟨d,f,h,i,rfl,rfl,rfl,Q,R⟩ d7 e G;unfold rwL at e;refine PC [] 6 ZP rfl (XQ e rfl (λS e=> ?_) (λS e=> ?_))
    ·
     refine R7 [] 6 ZP rfl ?_;obtain⟨d8,c0,e⟩:=Ym e;obtain⟨d9,e0,e1,c1,c2,e2,c3⟩:=IsSlice.elem q c0;obtain rfl:=c2;refine ZB rfl rfl (ZDK U39 S31 rfl rfl c1) (ZB rfl rfl (ZN8 0 S31 rfl c3 rfl rfl) (JL.alloc Z31 rfl (λe3 e4=>R6 [0,0] 6 ZP rfl ?_)));obtain⟨c4,e5,e⟩:=Zb e;refine BH (vs:=[_]) E86 rfl rfl (λ_ _ _=>wri_d V e5) rfl (λ_ _ _ _ k6 k7=> ?_);obtain⟨e6,e7,e8,e9,rfl,rfl,I⟩:=k6;replace I:=RowOf.base (K7 (H2:=New H H) RU8.const I) (λp C=>k7 p (KV 0 rfl C));refine PK [] 14 ZP rfl (XQ e rfl (λc6 e=> ?_) (λc6 e=> ?_))
     ·
      refine OA [] 11 ZP rfl ?_;obtain rfl:=KG G e;refine R9 [] 2 ZP rfl ?_;clear e;have e:=b5;simp only[Sum.elim_inl,Sum.elim_inr]at e;refine OE [] 2 ZP rfl (ZBX (Yc (vs:=[.slice none 0 0,.int .i64 c4.2]) (K:=[_]) (rst:=[_,_,_]) (.inl rfl) rfl rfl (Yq rfl (Yq rfl rfl)) (Qm 0 rfl Yk) ?_));obtain rfl:=TJ e;exact⟨none,0,0,[],rfl,rfl,rfl,(RowOf.nil _ _ _ _ _),(λp C=>by cases C),trivial⟩
     ·
      refine OI [] 5 ZP rfl ?_;obtain⟨T,c7,c8,e⟩:=ZPy e;refine ZT9 (HF:=(New H H)) 2 U26 I5 rfl rfl Q R rfl (SrcF.row 0 U26 rfl I) c7 c8 rfl (λf0 c9 U d0=> ?_);obtain⟨d1,d2,rfl⟩:=RowOf.val U;refine PP [] 5 ZP rfl (ZB rfl rfl (ZFz rfl rfl (TC S) (IsSlice.lenI q)) (PB [] 2 ZP rfl ?_));replace e:=QL G e;refine JN.forget 1 (JN.forget 0 ?_);exact YA ⟨(T,c.2+1),⟨d1,T.length,d2,c9,rfl,rfl,rfl,U,d0⟩,e⟩ rfl rfl rfl
    ·
     refine PE [] 2 ZP rfl ?_;obtain rfl:=KG G e;refine R9 [] 2 ZP rfl ?_;exact YA ⟨c.1,d,f,h,i,rfl,rfl,rfl,rfl,Q,R⟩ rfl rfl rfl
theorem one1{I:In}{a:CV}{vs:List Value}(h:VRs I [a] vs):∃v,vs= [v]/\VR I a v:=by
  obtain⟨v,us,rfl,h1,h2⟩:=h.un;cases h2.un0;exact⟨v,rfl,h1⟩
theorem ZP4{x:Cx}{l:Slots}{own:List Own}{H:Heaplet}{C:Act->World->Prop}(b:own.flatten= [])(h:JN x C l [] H):JN x C l own H:=λa w c=>h a w (Go.Pv.hperm c (by rw[b];exact S7 _))
theorem ZS0 (g:FWri qw):FnOk Tryz.prog 80 ⟨[.d (.sl (.st .Ptr)) []],[]⟩ ⟨[.d (.sl .w8) [],.d .i []],[]⟩ (λx=>rwP qw x):=
  FnOk.data rfl rfl (λz=> [.sl (.st .Ptr) z]) (λy=> [.sl .w8 y.1,.i y.2]) (λz=>rfl) (λy=>rfl) (λI vs z y a b=>by
    obtain⟨v,rfl,h1⟩:=one1 a;simp only[VR]at h1;have h1:IsSlice I.H R_Ptr 5 v z:=h1;obtain⟨ao,cap,rfl⟩:=IsSlice.val h1;refine Pu (ZSc g z I.H h1 y b) (λw v K' j h=> ?_);obtain⟨e,n,c,K,rfl,rfl,rfl,h,_⟩:=h;refine JN.pub0 0 RU8.mono rfl (h.old RU8.mono) (λH2 f hs=>ZP4 (by simp) ?_);exact ZGo (R:=λK2 H2=>∃us,_=Ow.pack us/\K2= []/\VRs {I with H:=H2} [.sl .w8 y.1,.i y.2] us) ⟨[_,_],rfl,rfl,VRs.cons (by simp only[VR];exact hs) (VRs.cons (by simp only[VR]) VRs.nil)⟩)
end Go.Proofs.YtooeopogefefiaaGreatDoor
