import Derived.Test.YtgdchaoklfjcpaaGreatDoorT2
import Derived.Test.YtgdchaoklfjcpaaGreatDoorS5
import Derived.Test.YtgdchaoklfjcpaaGreatDoorOwMh
import Derived.Test.YtgdchaoklfjcpaaGreatDoorOwMg
/- walks: a map's keys, sorted. -/
set_option linter.unusedSimpArgs false
set_option linter.unusedVariables false
namespace Go.Proofs.YtgdchaoklfjcpaaGreatDoor
open Go.Ow Go.RowKit Go.Proofs
set_option maxHeartbeats 8000000
set_option maxRecDepth 20000
theorem E78k:Enters Tryz.prog 78:=ZQ Tryz.func78 (by kernel_rfl) rfl
theorem E79k:Enters Tryz.prog 79:=ZQ Tryz.func79 (by kernel_rfl) rfl
theorem E80k:Enters Tryz.prog 80:=ZQ Tryz.func80 (by kernel_rfl) rfl
theorem E138k:Enters Tryz.prog 138:=ZQ Tryz.func138 (by kernel_rfl) rfl
theorem ZJq (n:Nat){H:Heaplet}:Does Tryz.prog 35 #[.map<|some n] [] H (λu K' a=>∃b:Nat,u=.func (.func 80) #[] #[.pointer<|some ⟨b,0,none⟩]/\K'= [[(b,.cells #[.map<|some n] 76 (0,0))]]/\H=a):=by
 refine R7 (vs:=[.map<|some n]) (l:=[(0,.map<|some n)]) Tryz.func35 rfl rfl ⟨rfl,trivial⟩ λw h=>Y0<|Zj<|Y6 rfl rfl λb hb=>Yp rfl rfl<|JL.nil<|Z9<|Y0<|Zj<|ZSG (vf:=#[]) (vc:=#[_]) rfl rfl rfl (Yp rfl rfl<|JL.nil ?_);refine Z9<|BX<|ZU (vs:=[.func (.func 80) #[] #[.pointer<|some ⟨b,0,none⟩]]) (K:=[_]) (rst:=[]) (.inl rfl) rfl rfl (ZW rfl rfl) (ZD 0 rfl ZP) ?_;exact⟨b,rfl,rfl,rfl⟩
theorem ZG4{H:Heaplet}{n b:Nat}{K:Own}{M:List (Int×Unit)}(D:MapOf H RUnit 0 n M K)(E:M.length<=LIM){c:Nat}{I:List Int->Own->Heaplet->Prop}{X:Unit->Own->Heaplet->Prop}{p:Own}
  (r:YSpecG Tryz.prog c (fun(H:Heaplet) (args:Array Value) (y:Int)=>args= #[.int .i64 y]) bdK I X)(s:IX I X (.inl []) p H):
  Does Tryz.prog 80 #[.func (.yield c) #[] #[],.pointer<|some ⟨b,0,none⟩] [[(b,.cells #[.map<|some n] 76 (0,0))],K,p] H (λu K' m=>∃f:Own,u=.tuple #[]/\K'= [[(b,.cells #[.map<|some n] 76 (0,0))],K,f]/\IX I X (.inl<|sortI<|M.map (·.1)) f m):=by
 refine R7 (vs:=[.func (.yield c) #[] #[],.pointer<|some ⟨b,0,none⟩]) (l:=[(0,.func (.yield c) #[] #[]),(1,.pointer<|some ⟨b,0,none⟩)]) Tryz.func80 rfl rfl ⟨rfl,rfl,trivial⟩ λw F=>Y0<|Zj<|ZA rfl rfl (Jc 0 S76 rfl rfl rfl)<|BV 1 U76 rfl rfl D rfl λB J L g=> ?_;subst L;refine JL.nil<|Z9 ?_;refine JC.block (V1 (ι:=Array Nat×Own×Heaplet) (λ_=> [(0,.func (.yield c) #[] #[]),(1,.pointer<|some ⟨b,0,none⟩),(5,.pointer<|some ⟨B,0,none⟩)])
  (λi=> [[(B,.mapIter (some n) (M).length i.1 (M).length)],[(b,.cells #[.map<|some n] 76 (0,0))],[(n,.map J (M).length)],i.2.1]) (λi=>i.2.2)
  (λi=>i.1.toList.Nodup/\(∀q∈i.1.toList,q<(M).length)/\Hle H i.2.2/\IX I X (.inl<|sortI<|seenK M i.1.toList) i.2.1 i.2.2) (λi=>(M).length-i.1.size) (#[],p,H) ⟨by simp,by simp,Rz _,by simpa[seenK,sortI]using s⟩ ⟨rfl,rfl,rfl,trivial⟩ rfl rfl ?_)
 rintro⟨C,O,G⟩ ⟨h1,h2,h3,o⟩;dsimp only at h1 h2 h3 o|-;refine Y0<|Zj<|ZCi 0 2 rfl rfl rfl g (TF _) rfl (λN=> ?_) λP z y cs v x j T=> ?_
 ·
  refine ZA rfl rfl (R.extract rfl rfl)<|JL.nil<|Z9<|Y0<|ZDp rfl<|ZAf<|U0<|U0<|Kb ?_;rw[ZMW h1 h2 N]at o;refine ZU (vs:=[]) (K:=[_,_,_]) (rst:=[_]) (.inr rfl) rfl rfl rfl (ZD 1 rfl<|ZD 1 rfl<|ZD 1 rfl ZP) ?_;exact⟨O,rfl,rfl,o⟩
 ·
  have d:=ZD1 h1 h2 (TC.1 v).1 j;refine ZA rfl rfl (R.extract rfl rfl)<|JL.nil<|Z9<|Y0<|ZH7 rfl<|JC.skip<|Z9<|JC.block<|Y0<|Zj<|ZAM 0 2 rfl rfl rfl g x rfl<|ZA rfl rfl (R.extract rfl rfl) ?_;refine Yp rfl rfl (JL.nil<|Z9<|Y0<|Zj<|Qo rfl rfl<|Qo rfl rfl<|Gg 3 z (ZQL v d E) r rfl rfl rfl o rfl rfl (λs' f m k hi A=> ?_) λt f m k hi A=>by cases A);cases A;refine ZNG rfl rfl<|JL.nil<|Z9<|ZDp rfl<|JC.skip<|KH ?_;exact VI (i:=(C,O,G)) (C.push P,f,m) ⟨by simp only[RE];exact Sf.2 ⟨h1,by simp,λa Q b hb e=>by simp at hb;subst hb;subst e;exact j Q⟩,by simp only[RE];intro q S;rcases TR.1 S with h|h;exact h2 q h;simp at h;subst h;exact(TC.1 v).1,h3.trans k,by simp only[RE];exact hi⟩ (by simp only[Array.size_push];simp only[TM]at d;omega) ⟨rfl,rfl,rfl,trivial⟩ rfl rfl
theorem GC{H:Heaplet}{n b:Nat}{K:Own}{M:List (Int×Unit)}(J:MapOf H RUnit 0 n M K)(V:M.length<=LIM):
  Does Tryz.prog 138 #[.slice none 0 0,.func (.func 80) #[] #[.pointer<|some ⟨b,0,none⟩]] [[(b,.cells #[.map<|some n] 76 (0,0))],K] H (λu K' L=>∃(ao:Option Addr) (m cap:Nat) (t:Own) (l:List Int),u=.slice ao m cap/\K'= [t]/\l.Perm (sortI<|M.map (·.1))/\RowOf (New H L) RInt 0 3 1 (.slice ao m cap) l t/\(∀p∈t,p.1∉ids (List.flatten [[(b,.cells #[.map<|some n] 76 (0,0))],K]))):=by
 refine Pe (vs:=[.slice none 0 0,.func (.func 80) #[] #[.pointer<|some ⟨b,0,none⟩]]) (l:=[(0,.slice none 0 0),(1,.func (.func 80) #[] #[.pointer<|some ⟨b,0,none⟩])]) Tryz.func138 rfl rfl ⟨rfl,rfl,trivial⟩ λw v=>Y0<|Zj<|Y6 rfl rfl λx W=>Yp rfl rfl<|JL.nil<|Z9<|Y0<|Y0<|Zj<|Qo rfl rfl<|ZKc ?_;refine JL.nil<|Z9<|JC.block<|ZL 3 rfl<|ZL 3 rfl<|ZH5 (RA:=(fun(H:Heaplet) (args:Array Value) (y:Int)=>args= #[.int .i64 y])) rfl bdK [] (.inl<|sortI<|M.map (·.1)) (λA o g=>∃d:Heaplet,∃f:Option Addr,∃i:Nat,∃j:Nat,∃z:Own,∃l:List Int,o= [z,[(x,.cells #[.slice f i j] 33 (0,0))]]/\d=g/\Hle H d/\l.Perm A/\RowOf (New H d) RInt w.heap.size 3 1 (.slice f i j) l z) (λe c o g=>False) (λX g=>X= [[(b,.cells #[.map<|some n] 76 (0,0))],K]) [_,_] [[],_] rfl E80k rfl (λY I' X' O' B C=>Does.mono (ZG4 J V B C) λu K' L h=>by obtain⟨Oo,-,Z,E⟩:=h;exact⟨_,_,Z,rfl,E⟩) (λ_ _ _ h=>by subst h;rfl) rfl ⟨H,none,0,0,[],[],rfl,rfl,Rz _,Sk _,RowOf.nil _ _ _ _ _⟩ ?_ ?_ ?_
 ·
  rintro lr y A args o g G out k ⟨d,f,i,j,z,l,rfl,rfl,N,s,F⟩ hA a;obtain rfl:=hA;unfold bdK at a;split at a
  ·
   rename_i q;obtain rfl:=TB a;refine⟨λO o'=>O= [(2,.pointer<|some ⟨x,0,none⟩),(5,.int .i64 y)]/\o'= [z,[(x,.cells #[.slice f i j] 33 (0,0))]],λd1 P=> ?_,λd1 O o' hJ P=> ?_⟩
   ·
    refine Zj<|Yp rfl rfl<|JL.nil ?_;exact ZDn ⟨rfl,rfl⟩ ⟨rfl,rfl,trivial⟩ rfl
   ·
    obtain⟨rfl,rfl⟩:=hJ;refine JC.block (Zj<|ZA rfl rfl (Jc 1 S33 rfl rfl rfl)<|Qo rfl rfl<|KI (HF:=New H G) (R:=RInt) (ls:=[y]) (vs:=[.int .i64 y]) U33 I3 rfl rfl (⟨_,_,rfl,rfl,rfl,rfl⟩) RInt.one rfl rfl rfl (by simp[maxLen]) rfl λe6 e7 Q=> ?_);obtain⟨e8,e9,rfl⟩:=RowOf.val Q;refine BW (HF:=New H G) 1 U33 I3 rfl rfl (F.mono RInt.mono<|New.mono k) rfl (SrcF.row 0 U33 rfl Q) rfl (by rw[s.length_eq];exact q) rfl P rfl λf0 d6 S=> ?_;obtain⟨d7,d8,rfl⟩:=RowOf.val S;refine ZAL 2 S33 rfl rfl rfl rfl rfl (TI rfl)<|JL.nil<|KH<|JN.forget 0 ?_;exact ZQY ⟨G,d7,_,d8,d6,l++ [y],rfl,rfl,N.trans k,(List.perm_append_singleton y l).trans<|(s.cons y).trans (ZBr _).symm,S⟩
  ·
   cases a
 ·
  rintro D A m' o g G hD r I k ⟨d,f,i,j,z,l,rfl,rfl,N,s,F⟩ T;obtain rfl:=I;cases r;refine KH<|Z9<|Y0<|Zj<|ZA rfl rfl (Jc 4 S33 rfl rfl rfl)<|Yp rfl rfl<|JL.nil<|Z9<|BX<|ZH2 (vs:=[.slice f i j]) (K:=[_]) (rst:=[_,_,_]) (own2:=[_,_,_,_]) [D] (.inl rfl) ⟨rfl,rfl,rfl,rfl⟩ rfl rfl (ZD 0 rfl ZP) (ZW rfl rfl) (ZD 2 rfl ZP) ?_;have U:=F.mono RInt.mono<|New.mono (H:=H) k;exact⟨f,i,j,z,l,rfl,rfl,s,(RowOf.weak (TQ _) U),(Qk U v)⟩
 ·
  rintro D c e m o g H9 hD r J h9 hX;exact hX.elim
theorem Bv{H:Heaplet}{n b:Nat}{K:Own}{M:List (Int×Unit)}(h:MapOf H RUnit 0 n M K)(d:M.length<=LIM):
  Does Tryz.prog 78 #[.func (.func 80) #[] #[.pointer<|some ⟨b,0,none⟩]] [[(b,.cells #[.map<|some n] 76 (0,0))],K] H (λu K' c=>∃(ao:Option Addr) (m cap:Nat) (a:Own) (l:List Int),u=.slice ao m cap/\K'= [a]/\l.Perm (sortI<|M.map (·.1))/\RowOf (New H c) RInt 0 3 1 (.slice ao m cap) l a/\(∀p∈a,p.1∉ids (List.flatten [[(b,.cells #[.map<|some n] 76 (0,0))],K]))):=by
 refine R7 (vs:=[.func (.func 80) #[] #[.pointer<|some ⟨b,0,none⟩]]) (l:=[(0,.func (.func 80) #[] #[.pointer<|some ⟨b,0,none⟩])]) Tryz.func78 rfl rfl ⟨rfl,trivial⟩ λw e=>Y0<|Zj<|Yp rfl rfl<|JL.nil<|Z9<|Y0<|Zj<|Qo rfl rfl<|Z2 (vs:=[_,_]) (args:=[_,_]) (K:=[_,_]) (rst:=[]) E138k rfl rfl rfl (ZD 0 rfl<|ZD 0 rfl ZP) (GC h d) rfl λu K' c f g k=> ?_;obtain⟨ao,m,cap,a,l,rfl,rfl,i,j,hn⟩:=f;refine Yp rfl rfl<|JL.nil<|Z9<|BX<|ZU (vs:=[.slice ao m cap]) (K:=[_]) (rst:=[]) (.inl rfl) rfl rfl (ZW rfl rfl) (ZD 0 rfl ZP) ?_;exact⟨ao,m,cap,a,l,rfl,rfl,i,j,hn⟩
theorem ZDz{H:Heaplet}{n b:Nat}{K:Own}{M:List (Int×Unit)}(o:MapOf H RUnit 0 n M K)(g:M.length<=LIM):
  Does Tryz.prog 34 #[.func (.func 80) #[] #[.pointer<|some ⟨b,0,none⟩]] [[(b,.cells #[.map<|some n] 76 (0,0))],K] H (λu K' i=>∃(ao:Option Addr) (m cap:Nat) (c:Own),u=.slice ao m cap/\K'= [c]/\RowOf (New H i) RInt 0 3 1 (.slice ao m cap) (ZCL<|M.map (·.1)) c/\(∀p∈c,p.1∉ids (List.flatten [[(b,.cells #[.map<|some n] 76 (0,0))],K]))):=by
 refine R7 (vs:=[.func (.func 80) #[] #[.pointer<|some ⟨b,0,none⟩]]) (l:=[(0,.func (.func 80) #[] #[.pointer<|some ⟨b,0,none⟩])]) Tryz.func34 rfl rfl ⟨rfl,trivial⟩ λw r=>Y0<|Zj<|Yp rfl rfl<|JL.nil<|Z9<|Y0<|Zj<|Qo rfl rfl<|Z2 (vs:=[_]) (args:=[_]) (K:=[_,_]) (rst:=[]) E78k rfl rfl rfl (ZD 0 rfl<|ZD 0 rfl ZP) (Bv o g) rfl λu K' i s t A=> ?_;obtain⟨ao,m,cap,c,l,rfl,rfl,j,v,hn⟩:=s;refine Yp rfl rfl<|JL.nil<|Z9<|Y0<|Zj<|Qo rfl rfl ?_;have h:l.length<=LIM:=by rw[j.length_eq,Gn,RV];exact g
 refine Z2 (vs:=[_]) (args:=[_]) (K:=[_]) (rst:=[]) E79k rfl rfl rfl (ZD 0 rfl ZP) (ZGY (P:=Tryz.prog) (ρ:=Tryz.sort79_ren) Tryz.sort79 v (Nat.lt_of_le_of_lt h (by unfold LIM;omega))) rfl λB K2 H2 d k x=> ?_;obtain⟨y,rfl,rfl,rfl,a,hi⟩:=d;rw[show sortI l=ZCL (M.map (·.1))from((Gm j).trans<|Gm<|ZBr _).trans<|ZKo _]at a;refine JL.nil<|Z9<|Y0<|Zj<|Qo rfl rfl<|Yp rfl rfl<|JL.nil<|Z9<|BX<|ZU (vs:=[.slice ao m cap]) (K:=[_]) (rst:=[]) (.inl rfl) rfl rfl (ZW rfl rfl) (ZD 0 rfl ZP) ?_;exact⟨ao,m,cap,y,rfl,rfl,a,λp f=>by
  obtain⟨q,z,e⟩:=T7.1<|hi p f;exact e▸hn q z⟩
end Go.Proofs.YtgdchaoklfjcpaaGreatDoor
