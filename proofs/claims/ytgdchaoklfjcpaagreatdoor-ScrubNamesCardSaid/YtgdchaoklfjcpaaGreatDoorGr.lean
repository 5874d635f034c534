import Derived.Test.YtgdchaoklfjcpaaGreatDoorPwRo
import Derived.Test.YtgdchaoklfjcpaaGreatDoorOwMg
import Derived.Test.YtgdchaoklfjcpaaGreatDoorT2
/- Proved: cipher.pieces' iterator and ptr.Row, over contracts by value of what they call. -/
set_option linter.unusedSimpArgs false
set_option linter.unusedVariables false
namespace Go.Proofs.YtgdchaoklfjcpaaGreatDoor
open Go Go.Ow Go.Pv Go.RowKit Go.Proofs
set_option maxRecDepth 20000
set_option maxHeartbeats 8000000
abbrev oRw:Pv.Sp:=⟨[.d (.sl .w8) [(0,0,5)]],[.row]⟩
abbrev oRi:Pv.Sp:=⟨[.d (.sl .w8) [(0,0,5)],.d .i []],[.row]⟩
abbrev FPut (q0:Int->Int->Option (List UInt8×Int)):Prop:=FnOk Tryz.prog 104 ⟨[.d .i [],.d .i []],[]⟩ oRi λx=>q0 x.1 x.2
abbrev FCat (q1:List (List UInt8)->Option (List UInt8)):Prop:=FnOk Tryz.prog 171 ⟨[.d (.sl<|.sl .w8) []],[]⟩ oRw λx=>q1 x
abbrev FKey (q2:List UInt8->Option (List UInt8)):Prop:=FnOk Tryz.prog 170 ⟨[.d (.sl .w8) []],[]⟩ oRw λx=>q2 x
abbrev FWri (q0:Ptr->Option (List UInt8×Int)):Prop:=FnOk Tryz.prog 158 ⟨[.ag 5,.d (.st .Ptr) []],[]⟩ oRi λx=>q0 x
variable{q0:Int->Int->Option (List UInt8×Int)}{q1:List (List UInt8)->Option (List UInt8)}{q2:List UInt8->Option (List UInt8)}{qw:Ptr->Option (List UInt8×Int)}
theorem E158:Enters Tryz.prog 158:=ZQ Tryz.func158 (by kernel_rfl) rfl
theorem ZPO{H:Heaplet}{P:Program}{f:Nat}{a:Array Value}{r:List UInt8×Int}(h:Does P f a [] H λu K' b=>∃(K:Own) (v:Value) (ws:List Value) (J:In),K'= [K]/\J.H=b/\u=Ow.pack (v::ws)/\RowOf b (RT .w8) 0 5 (szY .w8) v r.1 K/\VRs J [.i r.2] ws):
    Does P f a [] H (λu K' b=>∃ao n cap K,u=.tuple #[.slice ao n cap,.int .i64 r.2]/\K'= [K]/\RowOf b RU8 0 5 1 (.slice ao n cap) r.1 K):=h.mono (by
  rintro u K' b ⟨K,v,ws,J,rfl,rfl,rfl,c,d⟩;obtain⟨w,_,rfl,h1,h2⟩:=d.un;cases h2.un0;simp only[VR]at h1;subst h1;have c:RowOf J.H RU8 0 5 1 v r.1 K:=c;obtain⟨ao,cap,rfl⟩:=RowOf.val c;exact⟨ao,_,cap,K,rfl,rfl,c⟩)
theorem ZPM{H:Heaplet}{P:Program}{f:Nat}{a:Array Value}{r:List UInt8}(h:Does P f a [] H λu K' b=>∃(K:Own) (v:Value) (ws:List Value) (J:In),K'= [K]/\J.H=b/\u=Ow.pack (v::ws)/\RowOf b (RT .w8) 0 5 (szY .w8) v r K/\VRs J [] ws):
    Does P f a [] H (λu K' b=>∃ao n cap K,u=.slice ao n cap/\K'= [K]/\RowOf b RU8 0 5 1 (.slice ao n cap) r K):=h.mono (by
  rintro u K' b ⟨K,v,ws,J,rfl,rfl,rfl,c,d⟩;cases d.un0;have c:RowOf J.H RU8 0 5 1 v r K:=c;obtain⟨ao,cap,rfl⟩:=RowOf.val c;exact⟨ao,_,cap,K,rfl,rfl,c⟩)
theorem put_d (h:FPut q0){H:Heaplet}{a b:Int}{r:List UInt8×Int}(c:q0 a b=some r):Does Tryz.prog 104 #[.int .i64 a,.int .i64 b] [] H (λu K' d=>∃ao n cap K,u=.tuple #[.slice ao n cap,.int .i64 r.2]/\K'= [K]/\RowOf d RU8 0 5 1 (.slice ao n cap) r.1 K):=
  ZPO (Pi (t:=.w8) (E:=5) (m:=r.1) h rfl rfl (I:=argI H) (us:=[.int .i64 a,.int .i64 b]) (cs:=[.i a,.i b]) (co:=[.i r.2]) (z:=(a,b)) (y:=r) (VRs.cons (by simp only[VR])<|VRs.cons (by simp only[VR]) VRs.nil) rfl c rfl)
theorem cat_d (h:FCat q1){H:Heaplet}{l:List (List UInt8)}{v:Value}{r:List UInt8}(a:IsSlice H (RSl RU8 1) 1 v l)(b:q1 l=some r):Does Tryz.prog 171 #[v] [] H (λu K' c=>∃ao n cap K,u=.slice ao n cap/\K'= [K]/\RowOf c RU8 0 5 1 (.slice ao n cap) r K):=
  ZPM (Pi (t:=.w8) (E:=5) (m:=r) h rfl rfl (I:=argI H) (us:=[v]) (cs:=[.sl (.sl .w8) l]) (co:=[]) (z:=l) (y:=r) (VRs.cons (by simp only[VR];exact a) VRs.nil) rfl b rfl)
theorem key_d (h:FKey q2){H:Heaplet}{l:List UInt8}{v:Value}{r:List UInt8}(a:IsSlice H RU8 1 v l)(b:q2 l=some r):Does Tryz.prog 170 #[v] [] H (λu K' c=>∃ao n cap K,u=.slice ao n cap/\K'= [K]/\RowOf c RU8 0 5 1 (.slice ao n cap) r K):=
  ZPM (Pi (t:=.w8) (E:=5) (m:=r) h rfl rfl (I:=argI H) (us:=[v]) (cs:=[.sl .w8 l]) (co:=[]) (z:=l) (y:=r) (VRs.cons (by simp only[VR];exact a) VRs.nil) rfl b rfl)
theorem wri_d (h:FWri qw){H:Heaplet}{p:Ptr}{r:List UInt8×Int}(a:qw p=some r):Does Tryz.prog 158 #[.agg #[.int .i64 p.At,.int .u32 (p.Birth.toNat:Int),.int .u32 (p.Iv.toNat:Int),.int .u32 (p.Tag.toNat:Int),.int .u32 (p.Sum.toNat:Int)]] [] H (λu K' b=>∃ao n cap K,u=.tuple #[.slice ao n cap,.int .i64 r.2]/\K'= [K]/\RowOf b RU8 0 5 1 (.slice ao n cap) r.1 K):=
  ZPO (Pi (t:=.w8) (E:=5) (m:=r.1) h rfl rfl (I:=argI H) (us:=[_]) (cs:=[.ag<|stC .Ptr p]) (co:=[.i r.2]) (z:=p) (y:=r) (VRs.cons (by simp only[VR];exact⟨[_,_,_,_,_],rfl,VRs.cons (by simp only[VR])<|VRs.cons (by simp only[VR])<|VRs.cons (by simp only[VR])<|VRs.cons (by simp only[VR])<|VRs.cons (by simp only[VR]) VRs.nil⟩) VRs.nil) rfl a rfl)
theorem ZMZ (g0:FPut q0)(g1:FCat q1)(g2:FKey q2){t B:Type}(S:(List UInt8)->t->Option (t ⊕ B))(T:t)(c:List UInt8)(d:List UInt8)(H:Heaplet){n:Nat}{I:t->Own->Heaplet->Prop}{X:B->Own->Heaplet->Prop}{O:Own}{a:Nat}{f:Option Addr}{h:Nat}{i:Nat}{b:Nat}{j:Option Addr}{k:Nat}{m:Nat}{U V:Nat}(C:YSpecG Tryz.prog n (fun(H:Heaplet) (args:Array Value) (y:List UInt8)=>∃W:Value,args= #[W]/\IsSlice H RU8 1 W y) S I X)(D:IX I X (.inl T) O H)(b4:IsSlice H RU8 1 (.slice f h i) c)(b5:IsSlice H RU8 1 (.slice j k m) d)(r:t ⊕ B)(e:pcP q0 q1 q2 S T c d=some r):
  Does Tryz.prog 243 #[.func (.yield n) #[] #[],.pointer<|some ⟨a,0,none⟩,.pointer<|some ⟨b,0,none⟩] [[(a,.cells #[.slice f h i] U (0,0))],[(b,.cells #[.slice j k m] V (0,0))],O] H (λu K' H'=>∃Y:Own,u=.tuple #[]/\K'= [[(a,.cells #[.slice f h i] U (0,0))],[(b,.cells #[.slice j k m] V (0,0))],Y]/\IX I X r Y H'/\True):=by
 refine R7 (vs:=[.func (.yield n) #[] #[],.pointer<|some ⟨a,0,none⟩,.pointer<|some ⟨b,0,none⟩]) (l:=[(0,.func (.yield n) #[] #[]),(1,.pointer<|some ⟨a,0,none⟩),(2,.pointer<|some ⟨b,0,none⟩)]) Tryz.func243 rfl rfl ⟨rfl,rfl,rfl,trivial⟩ λw hlt=> ?_;unfold pcP at e;refine Px [] 5 ZF rfl ?_;obtain⟨d5,Z,e⟩:=ZT e;have b6:=e;clear e;have e:=Z;clear Z;refine JC.block<|ZL 1 rfl<|ZL 1 rfl<|ZL 2 rfl<|YJ [0,1,2] [1,2] rfl rfl (λl0 o0 q l o g=>∃s:Heaplet,∃x:Own,l=(4,.int .i64 q.2)::l0/\o=x::o0/\s=g/\Hle H s/\IX I X (.inl (q.1)) x s) e ⟨H,O,rfl,rfl,rfl,(Rz _),D⟩ rfl ?_
 ·
  rintro d6 q _ _ _ ⟨s,x,rfl,rfl,rfl,z,b7⟩ d7 e a7;unfold pcL at e;obtain⟨a8,d8,e⟩:=ZT e;refine Run.cl [] 5 ZF rfl<|Gh (vs:=[_,_]) E104 rfl rfl (λe5 c4 c5=>put_d g0 d8) rfl λ_ _ _ _ E F=> ?_;obtain⟨b8,b9,c0,d9,rfl,rfl,G⟩:=E;replace G:=RowOf.base (Ym (H2:=New H s) RU8.const G) λp A=>F p<|Yc 0 rfl A;refine R1 [2,3] 13 ZF rfl (JL.pubN 0 RU8.mono rfl G (TF _) λJ v c2=>JL.forget 0<|KI (HF:=J) (R:=(RSl RU8 1)) (ls:=[c,d,a8.1]) (vs:=[.slice f h i,.slice j k m,.slice b8 b9 c0]) U23 I27 rfl rfl (⟨_,_,rfl,rfl,⟨_,rfl,(b4.mono RU8.mono<|z.trans v)⟩,⟨_,_,rfl,rfl,⟨_,rfl,(b5.mono RU8.mono<|z.trans v)⟩,⟨_,_,rfl,rfl,⟨_,rfl,(c2.old RU8.mono)⟩,rfl⟩⟩⟩) RSl.one rfl rfl rfl (by simp[maxLen]) rfl λe0 e1 b0=> ?_);obtain⟨e2,e3,rfl⟩:=RowOf.val b0;obtain⟨e4,c3,e⟩:=ZT e;refine Gh (vs:=[_]) E171 rfl rfl (λe5 c4 c5=>cat_d g1 (Pr 0 c5 (RSl.mono RU8.mono) c4 rfl b0) c3) rfl λ_ _ _ _ E F=> ?_;obtain⟨e6,e7,e8,e9,rfl,rfl,L⟩:=E;replace L:=RowOf.base (Ym (H2:=New H J) RU8.const L) λp A=>F p<|Yc 0 rfl A;obtain⟨d0,f1,e⟩:=ZT e;refine Gh (vs:=[_]) E170 rfl rfl (λf0 c8 c9=>key_d g2 (Pr 0 c9 RU8.mono c8 rfl<|L.old RU8.mono) f1) rfl λ_ _ _ _ k6 k7=> ?_;obtain⟨f2,f3,f4,f5,rfl,rfl,M⟩:=k6;replace M:=RowOf.base (Ym (H2:=New H J) RU8.const M) λp A=>k7 p<|Yc 0 rfl A;refine JL.pubN 0 RU8.mono rfl M (TF _) λf6 b1 d2=>JL.forget 0 ?_;obtain⟨f7,d3,e⟩:=ZT e;refine Gg 2 d0 d3 C rfl rfl rfl (b7.mono<|v.trans b1) ⟨_,rfl,(d2.old RU8.mono)⟩ rfl (λd4 N b2 b3 P Q=> ?_) λf8 N b2 b3 P Q=> ?_
  ·
   subst Q;simp only[So]at e;refine OG [] 12 ZF rfl ?_;replace e:=Zk a7 e;refine JN.forget 1<|JN.forget 0<|ZB 2 rfl<|ZB 2 rfl<|ZB 2 rfl ?_;exact ZN ⟨(d4,w64 (q.2+1)),⟨b2,N,rfl,rfl,rfl,((z.trans<|v.trans<|b1.trans b3)),P⟩,e⟩ rfl rfl rfl
  ·
   subst Q;simp only[RW]at e;refine PP [] 7 ZF rfl ?_;obtain rfl:=Zo a7 e;refine R3 [] 2 ZF rfl ?_;clear e;have e:=b6;refine ZU (vs:=[]) (K:=[_,_,_]) (rst:=[_,_]) (.inl rfl) rfl rfl rfl (ZD 3 rfl<|ZD 3 rfl<|ZD 2 rfl ZP) ?_;obtain rfl:=TB e;exact⟨N,rfl,rfl,P,trivial⟩
theorem ZMp (g:FPut q0)(l:FCat q1)(m:FKey q2):ItOk Tryz.prog 243 ⟨iPcs,1,[.d (.sl .w8) []],fun(x:List UInt8×List UInt8) _ _ e s=>pcP q0 q1 q2 e s x.1 x.2⟩:=
  ZOO E243 (F:=λe s c d=>pcP q0 q1 q2 e s c d) (@λq t e s c d H w I X O a b T y v u n hI h1 h2 r o=>by
    obtain⟨f,i,rfl⟩:=h1.val;obtain⟨j,k,rfl⟩:=h2.val;refine(ZMZ g l m e s c d H n hI h1 h2 r o).mono ?_;rintro u K' z ⟨p,rfl,rfl,h,-⟩;exact⟨p,rfl,h⟩)
theorem ZQ2 (V:FWri qw)(J:List Ptr)(H:Heaplet){j:Option Addr}{k:Nat}{m:Nat}(q:IsSlice H R_Ptr 5 (.slice j k m) J)(r:List UInt8×Int)(e:rwP qw J=some r):
  Does Tryz.prog 152 #[.slice j k m] [] H (λu K' W=>∃B:Option Addr,∃L:Nat,∃A:Nat,∃D:Own,u=.tuple #[.slice B L A,.int .i64 r.2]/\K'= [D]/\H=W/\RowOf (New H H) RU8 0 5 1 (.slice B L A) r.1 D/\(∀p∈D,p.1∉ids (List.flatten []))/\True):=by
 refine R7 (vs:=[.slice j k m]) (l:=[(0,.slice j k m)]) Tryz.func152 rfl rfl ⟨rfl,trivial⟩ λw E=> ?_;unfold rwP at e;refine Run.cl [] 10 ZF rfl<|ZA rfl rfl (Zt U40 rfl<|IsSlice.long q)<|R0 [] 3 ZF rfl<|Zi e rfl (λX e=> ?_) λX e=> ?_
 ·
  refine R8 [] 8 ZF rfl<|KG<|ZU (vs:=[.slice none 0 0,.int .i64 4]) (K:=[_]) (rst:=[]) (.inl rfl) rfl rfl (ZW rfl<|ZW rfl rfl) (ZD 0 rfl ZP) ?_;obtain rfl:=TB e;exact⟨none,0,0,[],rfl,rfl,rfl,(RowOf.nil _ _ _ _ _),(λp C=>by cases C),trivial⟩
 ·
  refine R5 [] 4 ZF rfl (ZTi (HF:=New H H) (N:=256) U27 I5 rfl rfl (by decide) rfl λd3 Y M Z=> ?_);obtain⟨b3,b4,rfl⟩:=RowOf.val M;refine R1 [] 7 ZF rfl<|ZA rfl rfl (Zt U40 rfl<|IsSlice.long q)<|R0 [] 3 ZF rfl<|YC e [] [] rfl rfl (λz l0 F l o g=>∃s:List UInt8,∃v:Option Addr,∃x:Nat,∃y:Nat,∃a:Own,l=(4,.slice v x y)::l0/\o=a::F/\H=g/\z=.inl s/\RowOf (New H H) RU8 w.heap.size 5 1 (.slice v x y) s a/\Spare (.slice v x y) a 256) (λz d4 e=> ?_) λz b5 e=> ?_
  ·
   rintro _ _ _ ⟨s,v,x,y,a,rfl,rfl,rfl,rfl,b6,b7⟩;simp only[So]at e;refine PB [] 4 ZF rfl ?_;obtain⟨d5,b8,b9,e⟩:=ZOd e;obtain⟨O,t,P⟩:=ZMA b6 b7 b8 b9;refine ZA rfl rfl (ZTK (b:=256) (N:=256) (n:=(s).length) U27 S5 rfl ⟨_,rfl⟩ (by omega) t) ?_;refine PD [] 5 ZF rfl<|ZU (vs:=[.slice (some ⟨O,0,none⟩) ((256:Int).toNat) 256,.int .i64 0]) (K:=[_]) (rst:=[]) (.inl rfl) rfl rfl (ZW rfl<|ZW rfl rfl) (ZD 0 rfl ZP) ?_;obtain rfl:=TB e;exact⟨(some ⟨O,0,none⟩),(256:Int).toNat,256,a,rfl,rfl,rfl,(RowOf.weak (TQ _) P),(Qk P E),trivial⟩
  ·
   refine JC.block<|YJ [13,14] [] rfl rfl (λl0 F c l o g=>∃d:Option Addr,∃f:Nat,∃h:Nat,∃i:Own,l=(4,.slice d f h)::(15,.int .i64 ((c.2:Nat):Int))::l0/\o=i::F/\H=g/\RowOf (New H H) RU8 w.heap.size 5 1 (.slice d f h) c.1 i/\Spare (.slice d f h) i 256) e ⟨b3,([]:List UInt8).length,b4,Y,rfl,rfl,rfl,M,Z⟩ rfl ?_
   ·
    rintro d6 c _ _ _ ⟨d,f,h,i,rfl,rfl,rfl,Q,R⟩ d7 e G;unfold rwL at e;refine PA [] 6 ZF rfl<|Zi e rfl (λS e=> ?_) λS e=> ?_
    ·
     refine R5 [] 6 ZF rfl ?_;obtain⟨d8,c0,e⟩:=Zh e;obtain⟨d9,e0,e1,c1,c2,e2,c3⟩:=IsSlice.elem q c0;obtain rfl:=c2;refine ZA rfl rfl (QS U40 S32 rfl rfl c1)<|ZA rfl rfl (Ws 0 S32 rfl c3 rfl rfl)<|JL.alloc Z32 rfl λe3 e4=>R1 [0,0] 6 ZF rfl ?_;obtain⟨c4,e5,e⟩:=ZT e;refine Gh (vs:=[_]) E158 rfl rfl (λ_ _ _=>wri_d V e5) rfl λ_ _ _ _ k6 k7=> ?_;obtain⟨e6,e7,e8,e9,rfl,rfl,I⟩:=k6;replace I:=RowOf.base (Ym (H2:=New H H) RU8.const I) λp C=>k7 p<|Yc 0 rfl C;refine PE [] 14 ZF rfl<|Zi e rfl (λc6 e=> ?_) λc6 e=> ?_
     ·
      refine Pz [] 11 ZF rfl ?_;obtain rfl:=Zo G e;refine R3 [] 2 ZF rfl ?_;clear e;have e:=b5;simp only[So,RW]at e;refine P3 [] 2 ZF rfl<|KG<|ZU (vs:=[.slice none 0 0,.int .i64 c4.2]) (K:=[_]) (rst:=[_,_,_]) (.inl rfl) rfl rfl (ZW rfl<|ZW rfl rfl) (ZD 0 rfl ZP) ?_;obtain rfl:=TB e;exact⟨none,0,0,[],rfl,rfl,rfl,(RowOf.nil _ _ _ _ _),(λp C=>by cases C),trivial⟩
     ·
      refine OP [] 5 ZF rfl ?_;obtain⟨T,c7,c8,e⟩:=ZOi e;refine ZSJ (HF:=(New H H)) 2 U27 I5 rfl rfl Q R rfl (SrcF.row 0 U27 rfl I) c7 c8 rfl λf0 c9 U d0=> ?_;obtain⟨d1,d2,rfl⟩:=RowOf.val U;refine R9 [] 5 ZF rfl<|ZA rfl rfl (Xk rfl rfl (TO S)<|IsSlice.lenI q)<|R6 [] 2 ZF rfl ?_;replace e:=Zk G e;refine JN.forget 1<|JN.forget 0 ?_;exact ZN ⟨(T,c.2+1),⟨d1,T.length,d2,c9,rfl,rfl,rfl,U,d0⟩,e⟩ rfl rfl rfl
    ·
     refine R8 [] 2 ZF rfl ?_;obtain rfl:=Zo G e;refine R3 [] 2 ZF rfl ?_;exact ZN ⟨c.1,d,f,h,i,rfl,rfl,rfl,rfl,Q,R⟩ rfl rfl rfl
theorem one1{I:In}{a:CV}{vs:List Value}(h:VRs I [a] vs):∃v,vs= [v]/\VR I a v:=by
  obtain⟨v,us,rfl,h1,h2⟩:=h.un;cases h2.un0;exact⟨v,rfl,h1⟩
theorem ZOo{x:Cx}{l:Slots}{own:List Own}{H:Heaplet}{C:Act->World->Prop}(b:own.flatten= [])(h:JN x C l [] H):JN x C l own H:=λa w c=>h a w<|Go.Pv.hperm c (by rw[b];exact Sk _)
theorem ZRO (g:FWri qw):FnOk Tryz.prog 152 ⟨[.d (.sl<|.st .Ptr) []],[]⟩ ⟨[.d (.sl .w8) [],.d .i []],[]⟩ (λx=>rwP qw x):=
  FnOk.data rfl rfl (λz=> [.sl (.st .Ptr) z]) (λy=> [.sl .w8 y.1,.i y.2]) (λz=>rfl) (λy=>rfl) (λI vs z y a b=>by
    obtain⟨v,rfl,h1⟩:=one1 a;simp only[VR]at h1;have h1:IsSlice I.H R_Ptr 5 v z:=h1;obtain⟨ao,cap,rfl⟩:=IsSlice.val h1;refine Pm (ZQ2 g z I.H h1 y b) λw v K' j h=> ?_;obtain⟨e,n,c,K,rfl,rfl,rfl,h,_⟩:=h;refine JN.pub0 0 RU8.mono rfl (h.old RU8.mono) (λH2 f hs=>ZOo (by simp) ?_);exact ZDm (R:=λK2 H2=>∃us,_=Ow.pack us/\K2= []/\VRs {I with H:=H2} [.sl .w8 y.1,.i y.2] us) ⟨[_,_],rfl,rfl,VRs.cons (by simp only[VR];exact hs)<|VRs.cons (by simp only[VR]) VRs.nil⟩)
end Go.Proofs.YtgdchaoklfjcpaaGreatDoor
