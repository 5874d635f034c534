import Derived.Test.YtgiefadcpnegcaaGreatW2p0
/- walks: what the code computes, function by function. -/
set_option linter.unusedSimpArgs false
set_option linter.unusedVariables false
namespace Go.Proofs.YtgiefadcpnegcaaGreat
open Go.Ow Go.RowKit Go.Proofs
set_option maxHeartbeats 8000000
theorem dev_guarded_ok (y:Disk)(b:Bool)(c:Disk)(H:Heaplet){d:Option Addr}{f:Nat}{h:Nat}{i:Option Addr}{j:Nat}{k:Nat}{a:Nat}{m:Option Addr}{p:Nat}{q:Nat}{s:Option Addr}{v:Nat}{x:Nat}(a7:IsSlice H (RSl RU8 1) 1 (.slice d f h) y.Blocks)(a8:IsSlice H R_Write 2 (.slice i j k) y.Waits)(z:IsSlice H (RSl RU8 1) 1 (.slice m p q) c.Blocks)(a0:IsSlice H R_Write 2 (.slice s v x) c.Waits)(r:Disk×Int×Disk)(hx:dev_guarded y b c=some r):
  Does Tryz.prog 96 #[.agg #[.slice d f h,.slice i j k],.bool b,.func (.func 115) #[] #[.pointer (some ⟨a,0,none⟩)]] [[(a,.cells #[.slice m p q,.slice s v x] 25 (0,0))]] H (λu K' H'=>∃ao0:Option Addr,∃n0:Nat,∃cap0:Nat,∃ao1:Option Addr,∃n1:Nat,∃cap1:Nat,∃ao2:Option Addr,∃n2:Nat,∃cap2:Nat,∃ao3:Option Addr,∃n3:Nat,∃cap3:Nat,u=.tuple #[.agg #[.slice ao2 n2 cap2,.slice ao3 n3 cap3],.int .i64 r.2.1]∧K'= [[(a,.cells #[.slice ao0 n0 cap0,.slice ao1 n1 cap1] 25 (0,0))]]∧H=H'∧IsSlice H (RSl RU8 1) 1 (.slice ao0 n0 cap0) r.2.2.Blocks∧IsSlice H R_Write 2 (.slice ao1 n1 cap1) r.2.2.Waits∧IsSlice H (RSl RU8 1) 1 (.slice ao2 n2 cap2) r.1.Blocks∧IsSlice H R_Write 2 (.slice ao3 n3 cap3) r.1.Waits∧True):=by
 refine Does.enterL (vs:=[.agg #[.slice d f h,.slice i j k],.bool b,.func (.func 115) #[] #[.pointer (some ⟨a,0,none⟩)]]) (l:=[(0,.agg #[.slice d f h,.slice i j k]),(1,.bool b),(2,.func (.func 115) #[] #[.pointer (some ⟨a,0,none⟩)])]) Tryz.func96 rfl rfl ⟨rfl,rfl,rfl,trivial⟩ (λw hlt=> ?_)
 unfold dev_guarded at hx
 refine Run.cl [] 2 ZB rfl (Zf rfl rfl (λc4 c5=>JL.alloc Z25 rfl (λc6 c7=>Run.ll_s [1] 6 ZB rfl (ZV hx E38 rfl dev_Check_ok rfl ⟨a7,a8,trivial⟩ ?_))))
 intro a9 c8 hx
 refine Run.lc_s [] 12 ZB rfl (ZK hx rfl (λb0 hx=> ?_) (λb0 hx=> ?_))
 ·
  refine Run.cnz_bk [0] 11 ZB rfl (ZU (vs:=[.agg #[.slice none 0 0,.slice none 0 0],.int .i64 a9]) (K:=[_]) (rst:=[_,_]) (.inl rfl) rfl rfl (Res.cellN 0 rfl rfl S25 (Ze rfl rfl)) (ZL 2 rfl ZH) ?_)
  obtain rfl:=Option.some.inj hx
  exact⟨m,p,q,s,v,x,none,0,0,none,0,0,rfl,rfl,rfl,z,a0,(IsSlice.nil _ _ _),(IsSlice.nil _ _ _),trivial⟩
 ·
  refine Run.ccz [] 7 ZB rfl (ZK hx rfl (λb1 hx=> ?_) (λb1 hx=> ?_))
  ·
   refine Run.cnz_bk [0] 10 ZB rfl (ZU (vs:=[.agg #[.slice none 0 0,.slice none 0 0],.int .i64 2]) (K:=[_]) (rst:=[_,_]) (.inl rfl) rfl rfl (Res.cellN 0 rfl rfl S25 (Ze rfl rfl)) (ZL 2 rfl ZH) ?_)
   obtain rfl:=Option.some.inj hx
   exact⟨m,p,q,s,v,x,none,0,0,none,0,0,rfl,rfl,rfl,z,a0,(IsSlice.nil _ _ _),(IsSlice.nil _ _ _),trivial⟩
  ·
   refine Run.cl_bs [] 6 ZB rfl ?_
   obtain⟨c9,b2,hx⟩:=ZM hx
   refine ZQ (vs:=[]) (args:=[_]) (K:=[_]) (rst:=[_,_]) E115 rfl rfl rfl (ZL 2 rfl ZH) (dev_Write_1_ok c _ z a0 _ b2) rfl (λd0 d1 d2 b3 d3 d4=> ?_)
   obtain⟨b4,b5,b6,b7,b8,b9,a1,a2,a3,a4,a5,a6,rfl,rfl,rfl,c0,c1,c2,c3,-⟩:=b3
   refine Run.lnz_s [1] 5 ZB rfl (ZU (vs:=[.agg #[.slice a1 a2 a3,.slice a4 a5 a6],.int .i64 0]) (K:=[_]) (rst:=[_,_]) (.inl rfl) rfl rfl (Res.cellN 1 rfl rfl S25 (Ze rfl rfl)) (ZL 0 rfl ZH) ?_)
   obtain rfl:=Option.some.inj hx
   exact⟨b4,b5,b6,b7,b8,b9,a1,a2,a3,a4,a5,a6,rfl,rfl,rfl,c0,c1,c2,c3,trivial⟩
theorem slices_Clip_Write_ok{d}:Con Tryz.prog 116 true ([.sl false R_Write 2 d]) (slices_Clip_Write d) (λr=> [.cl false R_Write 2 r]):=by
 intro H q s v f r hx
 refine Does.enterC Tryz.func116 rfl rfl ?_
 intro w
 unfold slices_Clip_Write at hx
 refine Run.cl [] 9 ZB rfl (ZA rfl rfl (ZN U23 rfl (IsSlice.long f)) (ZA rfl rfl (R.move rfl) (ZA rfl rfl (ZN U23 rfl (IsSlice.long f)) ?_)))
 obtain⟨x,j,i,hx⟩:=slc_some hx
 obtain⟨y,k,z,h1v_6,h2v_6,p⟩:=IsSlice.cutc f j i
 refine ZA rfl rfl (R.slc (cap:=k) (a:=0) (b:=(d.length:Int)) (c:=(d.length:Int)) (m:=d) (R:=R_Write) U23 S78 rfl rfl ⟨_,rfl⟩ ⟨_,rfl⟩ ⟨i.1,i.2.1,Int.le_refl _⟩ h1v_6 (.inr (λh=>by cases h))) ?_
 subst h2v_6
 refine Run.lnz_s [] 4 ZB rfl ?_
 exact ZJ [] rfl hx rfl ⟨⟨⟨_,_,rfl⟩,p⟩,rfl⟩
theorem dev_Write_ok{s v a3}:Con Tryz.prog 93 false (sp_Disk false s++ [.i v,.sl false RU8 1 a3]) (dev_Write s v a3) (λr=> [.st 2,.sl true (RSl RU8 1) 1 r.1.Blocks,.row true R_Write 78 2 r.1.Waits,.i r.2]):=by
 intro H j0 j1 j2 a4 j3 j4 j5 a5 e4 e5 e6 a8 r hx
 refine Does.enterC Tryz.func93 rfl rfl ?_
 intro w
 unfold dev_Write at hx
 refine Run.cl [] 2 ZB rfl (Zf rfl rfl (λf5 j6=>JL.alloc Z25 rfl (λf6 j7=>Run.lc_s [] 5 ZB rfl (Za hx [1,2,3,6] [0] rfl rfl (λb l0 o0 l o g=>∃c:Option Addr,∃d:Nat,∃f:Nat,∃a9:Option Addr,∃b0:Nat,∃b1:Nat,l=(9,.int .i64 b.2.2)::l0∧o= [(f5,.cells #[.slice c d f,.slice a9 b0 b1] 25 (0,0))]::o0∧H=g∧IsSlice H (RSl RU8 1) 1 (.slice c d f) b.1∧IsSlice H R_Write 2 (.slice a9 b0 b1) b.2.1) (λb j8 hx=> ?_) (λb j9 hx=> ?_)))))
 ·
  rintro _ _ _ ⟨c,d,f,a9,b0,b1,rfl,rfl,rfl,e7,b2⟩
  refine Run.ncz_s [] 7 ZB rfl (ZK hx rfl (λf7 hx=> ?_) (λf7 hx=> ?_))
  ·
   refine Run.cnz_k [1] 10 ZB rfl (ZO ?_)
   exact JN.conC [2] [0] ZB rfl hx rfl ⟨IsSlice.nil _ _ _,⟨0,ZF _ _ _ _ _⟩,rfl⟩
  ·
   refine Run.cl_s [] 7 ZB rfl (ZA rfl rfl (ZN U26 rfl (IsSlice.long a8)) (Run.lcz_s [] 4 ZB rfl (ZK hx rfl (λf8 hx=> ?_) (λf8 hx=> ?_))))
   ·
    refine Run.cnz_bk [1] 10 ZB rfl (ZO ?_)
    exact JN.conC [2] [0] ZB rfl hx rfl ⟨IsSlice.nil _ _ _,⟨0,ZF _ _ _ _ _⟩,rfl⟩
   ·
    refine Run.cl [0] 4 ZB rfl (ZA rfl rfl (ZN U23 rfl (IsSlice.long b2)) (Run.lcz_s [] 4 ZB rfl (ZK hx rfl (λf9 hx=> ?_) (λf9 hx=> ?_))))
    ·
     refine Run.cnz_bk [1] 10 ZB rfl (ZO ?_)
     exact JN.conC [2] [0] ZB rfl hx rfl ⟨IsSlice.nil _ _ _,⟨0,ZF _ _ _ _ _⟩,rfl⟩
    ·
     refine Run.cc_bs [] 4 ZB rfl (Za hx [6] [] rfl rfl (λa6 l0 o0 l o g=>∃a7:Heaplet,∃b3:Option Addr,∃b4:Nat,∃b5:Nat,∃b6:Own,∃b7:Option Addr,∃b8:Nat,∃b9:Nat,∃c0:Own,l=(7,.int .i64 0)::l0∧o= [(f6,.cells #[.slice b3 b4 b5,.slice b7 b8 b9] 25 (0,0))]::b6::c0::o0∧a7=g∧Hle H a7∧Pcs w.heap.size 5 26 (.slice b3 b4 b5) a6.1 b6∧RowOf (New H a7) R_Write w.heap.size 78 2 (.slice b7 b8 b9) a6.2 c0) (λa6 k0 hx=> ?_) (λa6 k1 hx=> ?_))
     ·
      rintro _ _ _ ⟨a7,b3,b4,b5,b6,b7,b8,b9,c0,rfl,rfl,rfl,k2,g0,g1⟩
      refine Run.nnz_s [] 2 ZB rfl (JN.pubPcs 1 rfl g0 (Nat.le_refl _) (λk3 g2 g3=>JN.forget 1 ?_))
      exact JN.conC [0] [1] ZB rfl hx rfl ⟨g3,⟨_,(g1.mono R_Write.mono (New.mono g2))⟩,rfl⟩
     ·
      refine JC.drawB (so:=[(_,[]),(_,[12])]) 14 rfl Mixed ⟨by kernel_rfl,by kernel_rfl⟩ (kept0 [0,1] rfl) ?_
      refine JB.run 7 [0,1,2,3,5,6,7] [0,0] ZB rfl ?_
      obtain⟨k4,e8,hx⟩:=ZM hx
      obtain⟨x,e9,f0,hx⟩:=app_some hx
      obtain⟨k5,f1,hx⟩:=ZM hx
      refine JB.two (i:=4) (j:=8) (by kernel_rfl) ?_ ?_
      ·
       refine JOB.step rfl trivial rfl (λK hK=>JL.conQ' e8 E116 rfl slices_Clip_Write_ok rfl ⟨b2,trivial⟩ ?_)
       intro g4 g5 c1
       refine ZW (hK _ _ _ (Hle.refl _) (kept0 [0,1] rfl) ?_)
       refine JB.one (i:=8) (by kernel_rfl) ?_
       refine JOB.step rfl trivial rfl (λK hK=>JL.bslF (HF:=H) (R:=R_Write) (ls:=[Write.mk v a3]) (vs:=[.agg #[.int .i64 v,.slice e4 e5 e6]]) U23 I78 rfl rfl (⟨_,_,rfl,rfl,⟨_,rfl,a8⟩,rfl⟩) R_Write.one rfl rfl rfl (by simp[maxLen]) rfl (λg6 g7 y=> ?_))
       obtain⟨g8,g9,rfl⟩:=RowOf.val y
       refine ZW (hK _ _ _ (Hle.refl _) (kept0 [1,2] rfl) ?_)
       refine JB.one (i:=9) (by kernel_rfl) ?_
       refine JOB.step rfl trivial rfl (λK hK=>JL.appC (HF:=H) U23 I78 rfl R_Write.one (Hle.refl _) c1 (λ_ _ h=>h) rfl (SrcF.row 0 U23 rfl y) (List.cons_ne_nil _ _) e9 f0 rfl rfl (λh0 h1 z=> ?_))
       obtain⟨a0,a1,rfl⟩:=RowOf.val z
       refine ZW (hK _ _ _ (Hle.refl _) (kept0 [2,3] rfl) ?_)
       refine JB.val (i:=10) [] rfl (R.bldP (vs:=[(0,.slice c d f),(1,.slice a0 x.length a1)]) (cs:=[.slice c d f,.slice a0 x.length a1]) Z25 B25 rfl rfl rfl) ?_
       refine JB.one (i:=11) (by kernel_rfl) ?_
       refine JOB.step rfl trivial rfl (λK hK=>JL.pub 0 R_Write.mono rfl z (Nat.le_refl _) (λh2 a c2=>JL.forget 0 (ZQ (vs:=[_]) (args:=[_]) (K:=[]) (rst:=[_,_,_]) E41 rfl rfl rfl ZH (dev_Twin_ok (Disk.mk b.1 x) _ (e7.mono (RSl.mono RU8.mono) a) c2 _ f1) rfl (λh3 h4 c3 c4 k a2=> ?_))))
       obtain⟨c5,c6,c7,c8,c9,d0,d1,d2,rfl,rfl,m,d3,q,d4,-⟩:=c4
       replace m:=(Pcs.base m (λp hp=>(a2 p (Zc 0 rfl hp)).resolve_left (d3 p hp)))
       replace q:=(RowOf.base (RowOf.mono R_Write.mono (New.call a) q) (λp hp=>(a2 p (Zc 1 rfl hp)).resolve_left (d4 p hp)))
       refine ZW (hK _ _ _ (a.trans k) (kept0 [3,4] rfl) ?_)
       refine JB.one (i:=12) (by kernel_rfl) ?_
       refine JOB.step rfl trivial rfl (λK hK=>Run.lnz [4] 2 ZB rfl (hK _ _ _ (a.trans k) (kept1 [false,true] [3,0] (by kernel_rfl) rfl) ?_))
       refine JB.val (i:=13) [] rfl (R.assign rfl) ?_
       refine JB.doneN (by kernel_rfl) ?_
       obtain rfl:=Option.some.inj hx
       refine JN.forget 3 (JN.forget 2 (ZC 1 rfl (ZC 1 rfl (ZC 2 rfl ?_))))
       exact ZE ⟨c3,c5,c6,c7,c8,c9,d0,d1,d2,rfl,rfl,rfl,((a.trans k)),m,q⟩ rfl rfl rfl
      ·
       refine JOB.step rfl trivial rfl (λK hK=>JL.bslF (HF:=H) (R:=R_Write) (ls:=[Write.mk v a3]) (vs:=[.agg #[.int .i64 v,.slice e4 e5 e6]]) U23 I78 rfl rfl (⟨_,_,rfl,rfl,⟨_,rfl,a8⟩,rfl⟩) R_Write.one rfl rfl rfl (by simp[maxLen]) rfl (λg6 g7 y=> ?_))
       obtain⟨g8,g9,rfl⟩:=RowOf.val y
       refine ZW (hK _ _ _ (Hle.refl _) (kept0 [1,2] rfl) ?_)
       refine JB.one (i:=4) (by kernel_rfl) ?_
       refine JOB.step rfl trivial rfl (λK hK=>JL.conQ' e8 E116 rfl slices_Clip_Write_ok rfl ⟨b2,trivial⟩ ?_)
       intro g4 g5 c1
       refine ZW (hK _ _ _ (Hle.refl _) (kept0 [1,2] rfl) ?_)
       refine JB.one (i:=9) (by kernel_rfl) ?_
       refine JOB.step rfl trivial rfl (λK hK=>JL.appC (HF:=H) U23 I78 rfl R_Write.one (Hle.refl _) c1 (λ_ _ h=>h) rfl (SrcF.row 0 U23 rfl y) (List.cons_ne_nil _ _) e9 f0 rfl rfl (λh0 h1 z=> ?_))
       obtain⟨a0,a1,rfl⟩:=RowOf.val z
       refine ZW (hK _ _ _ (Hle.refl _) (kept0 [2,3] rfl) ?_)
       refine JB.val (i:=10) [] rfl (R.bldP (vs:=[(0,.slice c d f),(1,.slice a0 x.length a1)]) (cs:=[.slice c d f,.slice a0 x.length a1]) Z25 B25 rfl rfl rfl) ?_
       refine JB.one (i:=11) (by kernel_rfl) ?_
       refine JOB.step rfl trivial rfl (λK hK=>JL.pub 0 R_Write.mono rfl z (Nat.le_refl _) (λh2 a c2=>JL.forget 0 (ZQ (vs:=[_]) (args:=[_]) (K:=[]) (rst:=[_,_,_]) E41 rfl rfl rfl ZH (dev_Twin_ok (Disk.mk b.1 x) _ (e7.mono (RSl.mono RU8.mono) a) c2 _ f1) rfl (λh3 h4 c3 c4 k a2=> ?_))))
       obtain⟨c5,c6,c7,c8,c9,d0,d1,d2,rfl,rfl,m,d3,q,d4,-⟩:=c4
       replace m:=(Pcs.base m (λp hp=>(a2 p (Zc 0 rfl hp)).resolve_left (d3 p hp)))
       replace q:=(RowOf.base (RowOf.mono R_Write.mono (New.call a) q) (λp hp=>(a2 p (Zc 1 rfl hp)).resolve_left (d4 p hp)))
       refine ZW (hK _ _ _ (a.trans k) (kept0 [3,4] rfl) ?_)
       refine JB.one (i:=12) (by kernel_rfl) ?_
       refine JOB.step rfl trivial rfl (λK hK=>Run.lnz [4] 2 ZB rfl (hK _ _ _ (a.trans k) (kept1 [false,true] [3,0] (by kernel_rfl) rfl) ?_))
       refine JB.val (i:=13) [] rfl (R.assign rfl) ?_
       refine JB.doneN (by kernel_rfl) ?_
       obtain rfl:=Option.some.inj hx
       refine JN.forget 3 (JN.forget 2 (ZC 1 rfl (ZC 1 rfl (ZC 2 rfl ?_))))
       exact ZE ⟨c3,c5,c6,c7,c8,c9,d0,d1,d2,rfl,rfl,rfl,((a.trans k)),m,q⟩ rfl rfl rfl
 ·
  refine JC.draw (so:=[_]) 11 rfl Mixed ⟨⟨0,rfl⟩,trivial⟩ (JA.val ⟨by kernel_rfl,by kernel_rfl⟩ (ZI _) (i:=1) rfl ⟨by kernel_rfl,by kernel_rfl,rfl⟩ trivial (ZG (Hle.refl _) ⟨⟨0,rfl⟩,trivial⟩) (R.move rfl) rfl (JA.val ⟨by kernel_rfl,by kernel_rfl⟩ (ZI _) (i:=3) rfl ⟨by kernel_rfl,by kernel_rfl,rfl⟩ trivial (ZG (Hle.refl _) ⟨⟨0,rfl⟩,trivial⟩) (R.func (vf:=[]) (vc:=[_]) rfl rfl) rfl (JAA.start [⟨8,8,25,.agg #[.slice none 0 0,.slice none 0 0]⟩] rfl ?_)))
  obtain⟨f2,f3,hx⟩:=ZM hx
  obtain⟨k6,f4,hx⟩:=ZM hx
  refine JAA.two (i:=0) (j:=2) ⟨⟨_,_,_,rfl,Z25,rfl⟩,trivial⟩ (Hle.refl _) ⟨⟨0,rfl⟩,trivial⟩ rfl (by kernel_rfl) ?_ ?_
  ·
   refine JOA.step rfl trivial rfl (λk7 k8 K hK=>Run.lnz [1] 2 ZB rfl (hK (by repeat constructor) (by repeat constructor) (ZG (Hle.refl _) ⟨⟨0,rfl⟩,trivial⟩) (JAA.one (i:=2) ⟨⟨_,_,_,rfl,Z25,rfl⟩,trivial⟩ (Hle.refl _) ⟨⟨0,rfl⟩,trivial⟩ rfl (by kernel_rfl) (JOA.step rfl trivial rfl (λk9 l1 K hK=> ?_)))))
   refine JL.conQ' f3 E60 rfl dev_place_ok rfl trivial (ZW (hK (by repeat constructor) (by repeat constructor) (ZG (Hle.refl _) ⟨⟨0,rfl⟩,trivial⟩) (JAA.one (i:=4) ⟨⟨_,_,_,rfl,Z25,rfl⟩,trivial⟩ (Hle.refl _) ⟨⟨0,rfl⟩,trivial⟩ rfl (by kernel_rfl) (JOA.step rfl trivial rfl (λl2 h5 K hK=>ZQ (vs:=[_,_,_]) (args:=[_,_,_]) (K:=[_]) (rst:=_::h5) E96 rfl rfl rfl (ZL 1 rfl ZH) (dev_guarded_ok s f2 s _ a4 a5 a4 a5 _ f4) rfl (λh6 h7 h8 d5 h9 i0=> ?_))))))
   obtain⟨d6,d7,d8,d9,e0,e1,i1,i2,i3,i4,i5,i6,rfl,rfl,rfl,e2,e3,i7,i8,-⟩:=d5
   refine ZW (hK (by repeat constructor) (by repeat constructor) (ZG (Hle.refl _) ⟨⟨1,rfl⟩,trivial⟩) (JAA.val ⟨by kernel_rfl,by kernel_rfl⟩ (ZI _) (i:=5) rfl (by kernel_rfl) rfl trivial (Hle.refl _) ⟨⟨1,rfl⟩,trivial⟩ (R.move rfl) rfl (JAA.val ⟨by kernel_rfl,by kernel_rfl⟩ (ZI _) (i:=6) rfl (by kernel_rfl) rfl trivial (Hle.refl _) ⟨⟨1,rfl⟩,trivial⟩ (R.extract rfl rfl) rfl (JAA.val ⟨by kernel_rfl,by kernel_rfl⟩ (ZI _) (i:=7) rfl (by kernel_rfl) rfl trivial (Hle.refl _) ⟨⟨1,rfl⟩,trivial⟩ (R.extract rfl rfl) rfl (JAA.all ⟨⟨_,_,_,rfl,Z25,rfl⟩,trivial⟩ (Hle.refl _) ⟨⟨1,rfl⟩,trivial⟩ rfl (by kernel_rfl) (λl3 l4=>JA.one (i:=9) (by kernel_rfl) (JO.step rfl trivial rfl (λK hK=> ?_))))))))
   refine Run.lnz [2] 2 ZB rfl (hK _ _ _ (ZG (Hle.refl _) ⟨⟨1,rfl⟩,trivial⟩) (JA.val ⟨by kernel_rfl,by kernel_rfl⟩ (ZI _) (i:=10) rfl ⟨by kernel_rfl,by kernel_rfl,rfl⟩ trivial (ZG (Hle.refl _) ⟨⟨1,rfl⟩,trivial⟩) (R.assign rfl) rfl (JA.doneN (by kernel_rfl) ?_)))
   obtain rfl:=Option.some.inj hx
   refine JN.forget 2 (ZC 1 rfl (ZC 1 rfl ?_))
   exact ZE ⟨d6,d7,d8,d9,e0,e1,rfl,rfl,rfl,e2,e3⟩ rfl rfl rfl
  ·
   refine JOA.step rfl trivial rfl (λl5 l6 K hK=>JL.conQ' f3 E60 rfl dev_place_ok rfl trivial (ZW (hK (by repeat constructor) (by repeat constructor) (ZG (Hle.refl _) ⟨⟨0,rfl⟩,trivial⟩) (JAA.one (i:=0) ⟨⟨_,_,_,rfl,Z25,rfl⟩,trivial⟩ (Hle.refl _) ⟨⟨0,rfl⟩,trivial⟩ rfl (by kernel_rfl) (JOA.step rfl trivial rfl (λl7 l8 K hK=> ?_))))))
   refine Run.lnz [1] 2 ZB rfl (hK (by repeat constructor) (by repeat constructor) (ZG (Hle.refl _) ⟨⟨0,rfl⟩,trivial⟩) (JAA.one (i:=4) ⟨⟨_,_,_,rfl,Z25,rfl⟩,trivial⟩ (Hle.refl _) ⟨⟨0,rfl⟩,trivial⟩ rfl (by kernel_rfl) (JOA.step rfl trivial rfl (λl9 i9 K hK=>ZQ (vs:=[_,_,_]) (args:=[_,_,_]) (K:=[_]) (rst:=_::i9) E96 rfl rfl rfl (ZL 1 rfl ZH) (dev_guarded_ok s f2 s _ a4 a5 a4 a5 _ f4) rfl (λh6 h7 h8 d5 h9 i0=> ?_)))))
   obtain⟨d6,d7,d8,d9,e0,e1,i1,i2,i3,i4,i5,i6,rfl,rfl,rfl,e2,e3,i7,i8,-⟩:=d5
   refine ZW (hK (by repeat constructor) (by repeat constructor) (ZG (Hle.refl _) ⟨⟨1,rfl⟩,trivial⟩) (JAA.val ⟨by kernel_rfl,by kernel_rfl⟩ (ZI _) (i:=5) rfl (by kernel_rfl) rfl trivial (Hle.refl _) ⟨⟨1,rfl⟩,trivial⟩ (R.move rfl) rfl (JAA.val ⟨by kernel_rfl,by kernel_rfl⟩ (ZI _) (i:=6) rfl (by kernel_rfl) rfl trivial (Hle.refl _) ⟨⟨1,rfl⟩,trivial⟩ (R.extract rfl rfl) rfl (JAA.val ⟨by kernel_rfl,by kernel_rfl⟩ (ZI _) (i:=7) rfl (by kernel_rfl) rfl trivial (Hle.refl _) ⟨⟨1,rfl⟩,trivial⟩ (R.extract rfl rfl) rfl (JAA.all ⟨⟨_,_,_,rfl,Z25,rfl⟩,trivial⟩ (Hle.refl _) ⟨⟨1,rfl⟩,trivial⟩ rfl (by kernel_rfl) (λm0 m1=>JA.one (i:=9) (by kernel_rfl) (JO.step rfl trivial rfl (λK hK=> ?_))))))))
   refine Run.lnz [2] 2 ZB rfl (hK _ _ _ (ZG (Hle.refl _) ⟨⟨1,rfl⟩,trivial⟩) (JA.val ⟨by kernel_rfl,by kernel_rfl⟩ (ZI _) (i:=10) rfl ⟨by kernel_rfl,by kernel_rfl,rfl⟩ trivial (ZG (Hle.refl _) ⟨⟨1,rfl⟩,trivial⟩) (R.assign rfl) rfl (JA.doneN (by kernel_rfl) ?_)))
   obtain rfl:=Option.some.inj hx
   refine JN.forget 2 (ZC 1 rfl (ZC 1 rfl ?_))
   exact ZE ⟨d6,d7,d8,d9,e0,e1,rfl,rfl,rfl,e2,e3⟩ rfl rfl rfl
theorem slices_Clone_byte_ok (b:List UInt8)(H:Heaplet){ao:Option Addr}{n cap:Nat}(hs:IsSlice H RU8 1 (.slice ao n cap) b)(r:List UInt8)(hx:slices_Clone_byte b=some r):
  Does Tryz.prog 122 #[.slice ao n cap] [] H (λu K' H'=>∃ao0:Option Addr,∃n0:Nat,∃cap0:Nat,∃K0:Own,u=.slice ao0 n0 cap0∧K'= [K0]∧H=H'∧RowOf (New H H') RU8 0 5 1 (.slice ao0 n0 cap0) r K0∧(∀p∈K0,p.1∉ids (List.flatten []))∧True):=by
 rw[slices_Clone_byte.eq_1]at hx
 obtain⟨q,hq,hl,hx⟩:=app_some hx
 obtain rfl:=Option.some.inj hx
 refine Does.enter (vs:=[.slice ao n cap]) (l:=[(0,.slice ao n cap)]) Tryz.func122 rfl rfl ⟨rfl,trivial⟩ (λw=>Run.cl [] 9 ZB rfl (ZA rfl rfl (R.eqlNil U26 rfl rfl) (Run.lcz_s [] 2 ZB rfl ?_)))
 cases ao with
 |none=>
  have hp:=hs.none_nil
  subst hp
  simp only[List.append_nil]at hq
  subst hq
  refine Run.cnz_k [] 8 ZB rfl (ZO (ZU (vs:=[.slice none 0 0]) (K:=[_]) (rst:=[]) (.inl rfl) rfl rfl (Ze rfl rfl) (ZL 0 rfl ZH) ?_))
  exact⟨none,0,0,[],rfl,rfl,rfl,ZF _ _ _ _ _,(λp hp=>by cases hp),trivial⟩
 |some a=>
  refine Run.cl_s [] 5 ZB rfl (JL.bslF (HF:=New H H) (R:=RU8) (ls:=[]) (vs:=[]) U26 I5 rfl rfl rfl RU8.one rfl rfl rfl (by simp[maxLen]) rfl (λv1 K1 h1=> ?_))
  obtain⟨ao1,cap1,rfl⟩:=RowOf.val h1
  refine ZA rfl rfl (R.move rfl) (JL.appF (HF:=New H H) 0 U26 I5 rfl rfl h1 rfl (SrcF.sliceC RU8.const RU8.one U26 hs) hq hl rfl (Nat.le_refl _) rfl (λv2 K2 h2=> ?_))
  obtain⟨ao2,cap2,rfl⟩:=RowOf.val h2
  refine Run.lnz_s [] 4 ZB rfl (ZU (vs:=[.slice ao2 _ cap2]) (K:=[_]) (rst:=[]) (.inl rfl) rfl rfl (Ze rfl rfl) (ZL 0 rfl ZH) ?_)
  exact⟨_,_,_,_,rfl,rfl,rfl,ZX (Nat.zero_le _) h2,(λp hp hm=>by cases hm),trivial⟩
theorem slices_Clip_byte_ok{d}:Con Tryz.prog 121 true ([.sl false RU8 1 d]) (slices_Clip_byte d) (λr=> [.cl false RU8 1 r]):=by
 intro H q s v f r hx
 refine Does.enterC Tryz.func121 rfl rfl ?_
 intro w
 unfold slices_Clip_byte at hx
 refine Run.cl [] 9 ZB rfl (ZA rfl rfl (ZN U26 rfl (IsSlice.long f)) (ZA rfl rfl (R.move rfl) (ZA rfl rfl (ZN U26 rfl (IsSlice.long f)) ?_)))
 obtain⟨x,j,i,hx⟩:=slc_some hx
 obtain⟨y,k,z,h1v_6,h2v_6,p⟩:=IsSlice.cutc f j i
 refine ZA rfl rfl (R.slc (cap:=k) (a:=0) (b:=(d.length:Int)) (c:=(d.length:Int)) (m:=d) (R:=RU8) U26 S5 rfl rfl ⟨_,rfl⟩ ⟨_,rfl⟩ ⟨i.1,i.2.1,Int.le_refl _⟩ h1v_6 (.inr (λh=>by cases h))) ?_
 subst h2v_6
 refine Run.lnz_s [] 4 ZB rfl ?_
 exact ZJ [] rfl hx rfl ⟨⟨⟨_,_,rfl⟩,p⟩,rfl⟩
theorem slices_Chunk_byte_ok (b:List UInt8)(a:Int)(H:Heaplet){ao:Option Addr}{n cap:Nat}(hs:IsSlice H RU8 1 (.slice ao n cap) b)(r:Unit)(hx:slices_Chunk_byte b a=some r):
  Does Tryz.prog 77 #[.slice ao n cap,.int .i64 a] [] H (λu K' H'=>∃b2 b3:Nat,u=.func (.func 101) #[] #[.pointer (some ⟨b2,0,none⟩),.pointer (some ⟨b3,0,none⟩)]∧K'= []∧H' b2 0=some (.slice ao n cap)∧H' b3 0=some (.int .i64 a)∧(1≤a∧a≤1099511627776∧b.length≤LIM)∧True):=by
 unfold slices_Chunk_byte at hx
 split at hx
 case isFalse=>cases hx
 rename_i hp
 refine Does.enter (vs:=[.slice ao n cap,.int .i64 a]) (l:=[(0,.slice ao n cap),(1,.int .i64 a)]) Tryz.func77 rfl rfl ⟨rfl,rfl,trivial⟩ (λw=>Run.cl [] 2 ZB rfl (Zf rfl rfl (λb2 hb2=>Zf rfl rfl (λb3 hb3=>Run.lc_s [0] 10 ZB rfl (JC.condB rfl (λc=> ?_) (λc=> ?_))))))
 ·
  exact absurd (of_decide_eq_true c) (by omega)
 refine Run.cnz_s [] 9 ZB rfl (JN.pubBox 0 rfl hb3 (λH1 hle1 hc1=>JN.forget 0 (JN.pubBox 0 rfl hb2 (λH2 hle2 hc2=>JN.forget 0 (JN.out1 (.inl rfl) rfl rfl rfl ?_)))))
 exact⟨_,_,rfl,rfl,hc2 0 _ rfl,hle2 _ _ _ (hc1 0 _ rfl),hp,trivial⟩
theorem slices_Chunk_byte_it (m:List UInt8)(N:Int)(hN:1≤N∧N≤1099511627776∧m.length≤LIM)(H:Heaplet){v:Value}{b2 b3:Nat}(hs:IsSlice H RU8 1 v m)(hb2:H b2 0=some v)(hb3:H b3 0=some (.int .i64 N)):
  IterL Tryz.prog 101 #[.pointer (some ⟨b2,0,none⟩),.pointer (some ⟨b3,0,none⟩)] H (λH' args (y:List UInt8)=>∃ao:Option Addr,args= #[.slice ao y.length y.length]∧IsSlice H' RU8 1 (.slice ao y.length y.length) y) (chunks N.toNat m.length m):=by
 intro lr I X o hY hI
 obtain⟨hN1,hN2,hml⟩:=hN
 unfold LIM at hml
 obtain⟨ao,cap,rfl⟩:=hs.val
 show Does Tryz.prog 101 #[.func (.yield lr) #[] #[],.pointer (some ⟨b2,0,none⟩),.pointer (some ⟨b3,0,none⟩)] o H _
 refine Does.enter (vs:=[.func (.yield lr) #[] #[],.pointer (some ⟨b2,0,none⟩),.pointer (some ⟨b3,0,none⟩)]) (l:=[(0,.func (.yield lr) #[] #[]),(1,.pointer (some ⟨b2,0,none⟩)),(2,.pointer (some ⟨b3,0,none⟩))]) Tryz.func101 rfl rfl ⟨rfl,rfl,rfl,trivial⟩ (λw=>Run.cc [] 6 ZB rfl ?_)
 refine JC.loop (ι:=Nat×Nat×List (List UInt8)×List Own×Heaplet) (λi=> [(0,.func (.yield lr) #[] #[]),(1,.pointer (some ⟨b2,0,none⟩)),(2,.pointer (some ⟨b3,0,none⟩)),(4,.int .i64 ((i.1:Nat):Int))]) (λi=>i.2.2.2.1) (λi=>i.2.2.2.2)
  (λi=>i.1≤2199023255552∧m.length≤i.1+i.2.1∧i.2.2.1++chunks N.toNat i.2.1 (m.drop i.1)=chunks N.toNat m.length m∧I i.2.2.1 i.2.2.2.1 i.2.2.2.2∧Hle H i.2.2.2.2) (λi=>m.length+1-i.1) (0,m.length,[],o,H) (⟨by omega,by simp,by simp,hI,Hle.refl _⟩) ⟨rfl,rfl,rfl,rfl,trivial⟩ rfl rfl ?_
 rintro⟨i,f,pre,o2,H2⟩ hI0
 dsimp only at hI0⊢
 obtain⟨hi2,hf,hpre,hI2,hle⟩:=hI0
 have hb2':=hle _ _ _ hb2
 have hb3':=hle _ _ _ hb3
 have hs2:=IsSlice.mono RU8.mono hle hs
 refine Run.cl [] 4 ZB rfl (ZA rfl rfl (R.ldH S26 rfl hb2') (ZA rfl rfl (ZN U26 rfl (IsSlice.long hs2)) (Run.lcz_s [] 3 ZB rfl (JC.condB rfl (λc=> ?_) (λc=> ?_)))))
 ·
  have hlt:i<m.length:=by have:=of_decide_eq_true c;omega
  have hne:m.drop i≠[]:=λh=>by have:=List.drop_eq_nil_iff.1 h;omega
  obtain⟨f',rfl⟩:∃f',f=f'+1:=⟨f-1,by omega⟩
  rw[chunks_step hne,List.drop_drop]at hpre
  obtain⟨e,he⟩:∃e:Int,e=min N ((m.length:Int)-i):=⟨_,rfl⟩
  have hcut:(m.drop i).take N.toNat=cut m (i:Int) ((i:Int)+e):=by
   unfold cut
   rw[Int.toNat_natCast]
   by_cases h:N≤(m.length:Int)-i
   ·
    rw[show((i:Int)+e).toNat-i=N.toNat by omega]
   ·
    rw[List.take_of_length_le (by rw[List.length_drop];omega),List.take_of_length_le (by rw[List.length_drop];omega)]
  refine Run.cc_s [] 5 ZB rfl ?_
  obtain⟨v1,c1,h1,h2,h3,hs1⟩:=IsSlice.cutv (m':=cut m (i:Int) (m.length:Int)) hs2 rfl ⟨by omega,by omega,Int.le_refl _⟩
  have hl1:((cut m (i:Int) (m.length:Int)).length:Int)=(m.length:Int)-i:=cut_length (by omega) (by omega) (Int.le_refl _)
  refine JC.draw (so:=[]) 7 rfl Mixed trivial (JA.val ⟨by kernel_rfl,by kernel_rfl⟩ (ZI _) (i:=0) rfl ⟨by kernel_rfl,by kernel_rfl,rfl⟩ trivial (ZG (Hle.refl _) trivial) (R.ldH S3 rfl hb3') rfl (JA.val ⟨by kernel_rfl,by kernel_rfl⟩ (ZI _) (i:=1) rfl ⟨by kernel_rfl,by kernel_rfl,rfl⟩ trivial (ZG (Hle.refl _) trivial) (R.ldH S26 rfl hb2') rfl (JA.val ⟨by kernel_rfl,by kernel_rfl⟩ (ZI _) (i:=2) rfl ⟨by kernel_rfl,by kernel_rfl,rfl⟩ trivial (ZG (Hle.refl _) trivial) (R.move rfl) rfl (JA.val ⟨by kernel_rfl,by kernel_rfl⟩ (ZI _) (i:=3) rfl ⟨by kernel_rfl,by kernel_rfl,rfl⟩ trivial (ZG (Hle.refl _) trivial) (R.slc (cap:=c1) (a:=(i:Int)) (b:=(m.length:Int)) (c:=(c1:Int)) (m:=m) (R:=RU8) U26 S5 rfl ⟨_,rfl⟩ rfl (by obtain⟨ao,n,e,_⟩:=h1;exact⟨ao,n,e,rfl⟩) ⟨by omega,by omega,h2⟩ h3 (.inl rfl)) rfl (JA.val ⟨by kernel_rfl,by kernel_rfl⟩ (ZI _) (i:=4) rfl ⟨by kernel_rfl,by kernel_rfl,rfl⟩ trivial (ZG (Hle.refl _) trivial) (R.lenE U26 rfl ⟨_,IsSlice.long hs1,hl1⟩) rfl (JA.val ⟨by kernel_rfl,by kernel_rfl⟩ (ZI _) (i:=5) rfl ⟨by kernel_rfl,by kernel_rfl,rfl⟩ trivial (ZG (Hle.refl _) trivial) (R.min2 rfl rfl) rfl ?_))))))
  rw[←he]
  refine JA.val ⟨by kernel_rfl,by kernel_rfl⟩ (ZI _) (i:=6) rfl ⟨by kernel_rfl,by kernel_rfl,rfl⟩ trivial (ZG (Hle.refl _) trivial) (R.assign rfl) rfl (JA.doneN (by kernel_rfl) (JN.next ?_))
  have hw:w64 ((i:Int)+e)=(i:Int)+e:=Zj (by omega) (by omega)
  obtain⟨v2,c2,ao2,g1,g2,hs3⟩:=IsSlice.cutc (m':=(m.drop i).take N.toNat) hs2 hcut ⟨by omega,by omega,by omega⟩
  subst g2
  refine Run.cl [] 3 ZB rfl (ZA rfl rfl (R.ldH S26 rfl hb2') (Run.llz [] 4 ZB rfl ?_))
  rw[hw]
  refine Run.llz [] 3 ZB rfl ?_
  rw[hw]
  refine ZA rfl rfl (R.slc (cap:=c2) (a:=(i:Int)) (b:=(i:Int)+e) (c:=(i:Int)+e) (m:=m) (R:=RU8) U26 S5 rfl ⟨_,rfl⟩ ⟨_,rfl⟩ ⟨_,rfl⟩ ⟨by omega,by omega,Int.le_refl _⟩ g1 (.inr (λh=>by cases h))) (JL.yield (vs:=[_]) (mine:=[]) ((m.drop i).take N.toNat) hY rfl rfl hI2 (⟨⟨ao2,rfl,hs3⟩,_,by rw[←hpre]⟩) rfl rfl (λo17 H17 hle17 hI17=> ?_) (λo17 H17 hle17 hX17=> ?_))
  ·
   refine Run.llz_sbs [] 9 ZB rfl (ZA rfl rfl (R.ldH S3 rfl (hle17 _ _ _ hb3')) (Run.lnz [] 3 ZB rfl ?_))
   have hw2:w64 ((i:Int)+N)=((i+N.toNat:Nat):Int):=by rw[Zj (by omega) (by omega)];omega
   refine JN.again (i:=(i,f'+1,pre,o2,H2)) (i+N.toNat,f',pre++ [(m.drop i).take N.toNat],o17,H17) (by
    refine⟨?_,?_,?_,hI17,hle.trans hle17⟩
    ·
     simp only;omega
    ·
     simp only;omega
    ·
     simp only[List.append_assoc,List.singleton_append];exact hpre) (by simp only;omega) (by exact⟨rfl,rfl,rfl,by show some _=some _;rw[hw2],trivial⟩) rfl rfl
  ·
   refine Run.lnz_sbk [] 7 ZB rfl (Run.nnz_kb [] 2 ZB rfl (JN.out0 (.inl rfl) rfl rfl ?_))
   exact⟨hle.trans hle17,.inr ⟨_,⟨chunks N.toNat f' (m.drop (i+N.toNat)),by rw[←hpre];simp⟩,hX17⟩⟩
 ·
  have hge:m.length≤i:=by have:=of_decide_eq_false c;omega
  refine Run.cnz_kkb [] 4 ZB rfl (JN.out0 (.inr rfl) rfl rfl (⟨hle,.inl ⟨pre,?_,hI2⟩⟩))
  rw[←hpre,List.drop_eq_nil_of_le hge,chunks_nil,List.append_nil]
theorem slices_Backward_byte_ok (a:List UInt8)(H:Heaplet){ao:Option Addr}{n cap:Nat}(hs:IsSlice H RU8 1 (.slice ao n cap) a)(r:Unit)(hx:slices_Backward_byte a=some r):
  Does Tryz.prog 125 #[.slice ao n cap] [] H (λu K' H'=>∃b:Nat,u=.func (.func 145) #[] #[.pointer (some ⟨b,0,none⟩)]∧K'= []∧H' b 0=some (.slice ao n cap)∧True):=by
 refine Does.enter (vs:=[.slice ao n cap]) (l:=[(0,.slice ao n cap)]) Tryz.func125 rfl rfl ⟨rfl,trivial⟩ (λw=>Run.cl [] 2 ZB rfl (Zf rfl rfl (λb1 hb1=>JL.assign rfl rfl (Run.ll_s [] 4 ZB rfl (JL.func (vf:=#[]) (vc:=#[_]) rfl rfl rfl (JL.assign rfl rfl (Run.lnz_s [] 3 ZB rfl (JN.pubBox 0 rfl hb1 (λH1 hle1 hc1=>JN.forget 0 ?_)))))))))
 have hc:=hc1 0 _ rfl
 refine JN.out1 (.inl rfl) rfl rfl rfl ?_
 exact⟨_,rfl,rfl,hc,trivial⟩
theorem slices_Backward_byte_it (m:List UInt8)(H:Heaplet){v:Value}{b:Nat}(hs:IsSlice H RU8 1 v m)(hb:H b 0=some v):
  IterL Tryz.prog 145 #[.pointer (some ⟨b,0,none⟩)] H (λ_ args (y:Nat×UInt8)=>args= #[.int .i64 ((y.1:Nat):Int),.int .u8 (y.2.toNat:Int)]) (bwd m m.length):=by
 intro lr I X o hY hI
 have hlen:=hs.len_le
 obtain⟨ao,cap,rfl⟩:=hs.val
 show Does Tryz.prog 145 #[.func (.yield lr) #[] #[],.pointer (some ⟨b,0,none⟩)] o H _
 refine Does.enter (vs:=[.func (.yield lr) #[] #[],.pointer (some ⟨b,0,none⟩)]) (l:=[(0,.func (.yield lr) #[] #[]),(1,.pointer (some ⟨b,0,none⟩))]) Tryz.func145 rfl rfl ⟨rfl,rfl,trivial⟩ (λw=>Run.cl [] 2 ZB rfl (JL.ldH S26 rfl hb rfl (JL.lenS U26 rfl hs rfl (JL.subI rfl rfl (wi64 (by omega) (by omega)) rfl (JL.assign rfl rfl ?_)))))
 refine Run.lc_s [] 3 ZB rfl (JC.loop (ι:=Nat×List (Nat×UInt8)×List Own×Heaplet) (λi=> [(0,.func (.yield lr) #[] #[]),(1,.pointer (some ⟨b,0,none⟩)),(3,.int .i64 ((i.1:Int)-1))]) (λi=>i.2.2.1) (λi=>i.2.2.2) (λi=>i.1≤m.length∧i.2.1++bwd m i.1=bwd m m.length∧I i.2.1 i.2.2.1 i.2.2.2∧Hle H i.2.2.2) (λi=>i.1) (m.length,[],o,H) (⟨Nat.le_refl _,rfl,hI,Hle.refl _⟩) ⟨rfl,rfl,rfl,trivial⟩ rfl rfl ?_)
 rintro⟨k,pre,o2,H2⟩ hI0
 dsimp only at hI0⊢
 obtain⟨hk,hpre,hI2,hle⟩:=hI0
 have hb2:=hle _ _ _ hb
 have hs2:=IsB.mono hle hs
 refine Run.cl [] 3 ZB rfl (JL.move rfl rfl (JL.geq rfl rfl rfl (Run.lcz_s [] 2 ZB rfl (JC.condP rfl (λc8=> ?_) (λc8=> ?_)))))
 ·
  refine Run.cl_s [] 6 ZB rfl (JL.move rfl rfl (JL.move rfl rfl (JL.ldH S26 rfl hb2 rfl (JL.move rfl rfl (JL.ixB (k:=k-1) U26 S5 rfl hs2 rfl (by omega) (by omega) rfl (λb15 o15 hc15=>JL.ldH S5 rfl hc15 rfl ?_))))))
  have e1:((k-1:Nat):Int)=(k:Int)-1:=by omega
  have e2:m.getD (k-1) 0=m[k-1]:=by rw[List.getD_eq_getElem?_getD,List.getElem?_eq_getElem (show k-1<m.length by omega),Option.getD_some]
  have e3:bwd m k=(k-1,m.getD (k-1) 0)::bwd m (k-1):=by rw[show k=(k-1)+1 by omega];rfl
  refine JL.yield (vs:=[_,_]) (mine:=[]) ((k-1,m.getD (k-1) 0)) hY rfl rfl hI2 (⟨by simp only[e1,e2],bwd m (k-1),by rw[←hpre,e3]⟩) rfl rfl (λo17 H17 hle17 hI17=> ?_) (λo17 H17 hle17 hX17=> ?_)
  ·
   refine JL.not rfl rfl (Run.llz_sbs [] 7 ZB rfl (JL.move rfl rfl (JL.subI rfl rfl (wi64 (by omega) (by omega)) rfl (JL.assign rfl rfl (ZW (JN.again (i:=(k,pre,o2,H2)) (k-1,pre++ [(k-1,m.getD (k-1) 0)],o17,H17) (by exact⟨by simp only;omega,by rw[←hpre,e3];simp,hI17,hle.trans hle17⟩) (by simp only;omega) (by exact⟨rfl,rfl,by show some _=some _;simp only[e1],trivial⟩) rfl rfl))))))
  ·
   refine JL.not rfl rfl (Run.lnz_sbk [] 6 ZB rfl (Run.nnz_kb [] 2 ZB rfl (JN.out0 (.inl rfl) rfl rfl ?_)))
   exact⟨hle.trans hle17,.inr ⟨_,⟨bwd m (k-1),by rw[←hpre,e3];simp⟩,hX17⟩⟩
 ·
  refine Run.cnz_kkb [] 4 ZB rfl (JN.out0 (.inr rfl) rfl rfl ?_)
  exact⟨hle,.inl ⟨pre,by rw[←hpre,show k=0 by omega];simp[bwd],hI2⟩⟩
theorem code_Get_ok{j f k}:Con Tryz.prog 102 false ([.sl false RU8 1 j,.i f,.i k]) (code_Get j f k) (λr=> [.i r.1,.i r.2]):=by
 intro H b9 c0 c1 p r hx
 refine Does.enterMC Tryz.func102 rfl rfl ?_
 intro w
 unfold code_Get at hx
 refine Run.cl [] 12 ZB rfl (ZV hx E91 rfl code_sized_ok rfl trivial ?_)
 intro c2 c3 hx
 refine Run.lcz_s [] 4 ZB rfl (Za hx [0,1,2] [] rfl rfl (λq l0 o0 l o g=>l=(11,.bool q)::l0∧o=o0∧H=g) (λq c4 hx=> ?_) (λq c5 hx=> ?_))
 ·
  rintro _ _ _ ⟨rfl,rfl,rfl⟩
  refine JN.next (ZK hx rfl (λa5 hx=> ?_) (λa5 hx=> ?_))
  ·
   refine Run.cnz_bk [] 9 ZB rfl ?_
   exact JN.conM (own2:=[]) [] [] ZH ⟨rfl,rfl,rfl,rfl⟩ rfl rfl hx rfl rfl
  ·
   refine Run.cl [] 6 ZB rfl (ZA rfl rfl (ZN U26 rfl (IsSlice.long p)) (Run.lcz_s [] 4 ZB rfl (ZK hx rfl (λa6 hx=> ?_) (λa6 hx=> ?_))))
   ·
    refine Run.cnz_bk [] 9 ZB rfl ?_
    exact JN.conM (own2:=[]) [] [] ZH ⟨rfl,rfl,rfl,rfl⟩ rfl rfl hx rfl rfl
   ·
    refine Run.cl_bs [] 5 ZB rfl (JL.alloc Z3 rfl (λz c6=>Run.ll_s [0] 11 ZB rfl ?_))
    obtain⟨a0,a7,s,hx⟩:=slc_some hx
    obtain⟨c7,a1,h1v_19,h2v_19,h3v_19,v⟩:=IsSlice.cutv p a7 s
    refine ZA rfl rfl (R.slc (cap:=a1) (a:=f) (b:=w64 (f+k)) (c:=(a1:Int)) (m:=j) (R:=RU8) U26 S5 rfl ⟨_,rfl⟩ ⟨_,rfl⟩ (by obtain⟨ao,n,e,_⟩:=h1v_19;exact⟨ao,n,e,rfl⟩) ⟨s.1,s.2.1,h2v_19⟩ h3v_19 (.inl rfl)) ?_
    obtain⟨c8,c9,rfl⟩:=IsSlice.val v
    obtain⟨d0,a8,hx⟩:=ZM hx
    refine ZQ (vs:=[_]) (args:=[_]) (K:=[]) (rst:=[_]) E125 rfl rfl rfl ZH (slices_Backward_byte_ok a0 _ v _ a8) rfl (λd1 d2 a2 a9 b0 d3=> ?_)
    obtain⟨d4,rfl,rfl,b1,-⟩:=a9
    refine Run.lc_s [] 3 ZB rfl ?_
    obtain⟨b2,b3,hx⟩:=ZM hx
    refine JC.rangeL (RA:=λ_ args (y:Nat×UInt8)=>args= #[.int .i64 ((y.1:Nat):Int),.int .u8 (y.2.toNat:Int)]) rfl code_Get_r1 0 b2 b3 (λx o g=>∃d:Heaplet,o= [[(z,.cells #[.int .i64 x] 3 (0,0))]]∧d=g∧Hle a2 d) (λe c o g=>False) rfl E145 (slices_Backward_byte_it a0 _ (v.mono RU8.mono b0) b1) (λ_ _ _ h=>by rw[h];rfl) rfl ⟨a2,rfl,rfl,(Hle.refl _)⟩ ?_ ?_ ?_
    ·
     rintro d5 a3 x args o g d6 ⟨d,rfl,rfl,a4⟩ hA hx2
     clear hx;have hx:=hx2;clear hx2;unfold code_Get_r1 at hx
     subst hA
     refine⟨[(8,.pointer (some ⟨z,0,none⟩)),(10,.int .u8 (a3.2.toNat:Int))],λb4 b5=> ?_,λb4 b5=> ?_⟩
     ·
      refine Run.cnz [] 3 ZB rfl ?_
      exact JN.assigned ⟨rfl,rfl,trivial⟩
     ·
      refine Run.cl [0] 5 ZB rfl (ZA rfl rfl (R.cv_u8_i64 (a:=a3.2) U5 U3 rfl) (Run.lnz_b [0] 4 ZB rfl ?_))
      obtain rfl:=Option.some.inj hx
      exact JN.rN ⟨d,rfl,rfl,(a4)⟩
    ·
     rintro b6 x o g d7 htt ⟨d,rfl,rfl,a4⟩ hle2
     subst htt;simp only[Sum.elim_inl]at hx
     refine Run.nnz_bs [1] 10 ZB rfl ?_
     exact JN.conM (own2:=[_]) [b6] [] (ZL 0 rfl ZH) ⟨rfl,rfl,rfl,rfl⟩ rfl rfl hx rfl rfl
    ·
     rintro D c e o g hD htt hX;exact hX.elim
 ·
  refine ZK hx rfl (λb7 hx=> ?_) (λb7 hx=> ?_)
  ·
   refine JC.skip ?_
   obtain rfl:=Option.some.inj hx
   exact ZE ⟨rfl,rfl,rfl⟩ rfl rfl rfl
  ·
   refine Run.ccz [] 7 ZB rfl (ZK hx rfl (λb8 hx=> ?_) (λb8 hx=> ?_))
   ·
    refine JC.skip ?_
    obtain rfl:=Option.some.inj hx
    exact ZE ⟨rfl,rfl,rfl⟩ rfl rfl rfl
   ·
    refine Run.clz [] 3 ZB rfl (ZA rfl rfl (ZN U26 rfl (IsSlice.long p)) (Run.lnz [] 3 ZB rfl ?_))
    obtain rfl:=Option.some.inj hx
    exact ZE ⟨rfl,rfl,rfl⟩ rfl rfl rfl
theorem mix_number_ok{a}:Con Tryz.prog 123 false ([.sl false RU8 1 a]) (mix_number a) (λr=> [.w32 r]):=by
 intro H c d f b r hx
 refine Does.enterC Tryz.func123 rfl rfl ?_
 intro w
 unfold mix_number at hx
 refine Run.cl [] 8 ZB rfl (JL.con hx E102 rfl code_Get_ok rfl ⟨b,trivial⟩ ?_)
 intro h i hx j k
 refine Run.ll_s [] 10 ZB rfl (ZA rfl rfl (R.cv_i64_u32 U3 U27 rfl) (Run.lnz_s [] 4 ZB rfl ?_))
 exact JN.con [] rfl hx rfl rfl
theorem math_bits_RotateLeft32_ok{d c}:Con Tryz.prog 153 true ([.w32 d,.i c]) (math_bits_RotateLeft32 d c) (λr=> [.w32 r]):=by
 intro H r hx
 refine Does.enterC Tryz.func153 rfl rfl ?_
 intro w
 unfold math_bits_RotateLeft32 at hx
 refine Run.cl [] 8 ZB rfl (ZA rfl rfl (R.cv_i64_u64 U3 U128 rfl) (ZA rfl rfl (R.and64 (a:=u64i c) (b:=(31:UInt64)) rfl rfl) (Run.ll_s [] 7 ZB rfl (ZA rfl rfl (R.shl32 (n:=(((u64i c)&&&(31:UInt64)).toNat:Int)) (a:=d) rfl rfl (Int.natCast_nonneg _)) (Run.llz [] 2 ZB rfl (ZA rfl rfl (R.sub64 (a:=(32:UInt64)) (b:=(u64i c)&&&(31:UInt64)) rfl rfl) (ZA rfl rfl (R.shr32 (n:=(((32:UInt64)-((u64i c)&&&(31:UInt64))).toNat:Int)) (a:=d) rfl rfl (Int.natCast_nonneg _)) (ZA rfl rfl (R.or32 (a:=sl32 d ((((u64i c)&&&(31:UInt64)).toNat:Int)).toNat) (b:=sr32 d ((((32:UInt64)-((u64i c)&&&(31:UInt64))).toNat:Int)).toNat) rfl rfl) (Run.lnz_s [] 4 ZB rfl ?_)))))))))
 exact ZJ [] rfl hx rfl rfl
theorem mix_words_turned_1_ok (f:Int)(h:Int)(c:A4 UInt32)(H:Heaplet){d:Nat}(r:A4 UInt32)(hx:mix_words_turned_1 f h c=some r):
  Does Tryz.prog 152 #[.int .i64 f,.int .i64 h,.pointer (some ⟨d,0,none⟩)] [[(d,.cells #[.int .u32 (c.e0.toNat:Int),.int .u32 (c.e1.toNat:Int),.int .u32 (c.e2.toNat:Int),.int .u32 (c.e3.toNat:Int)] 141 (0,0))]] H (λu K' H'=>u=.tuple #[]∧K'= [[(d,.cells #[.int .u32 (r.e0.toNat:Int),.int .u32 (r.e1.toNat:Int),.int .u32 (r.e2.toNat:Int),.int .u32 (r.e3.toNat:Int)] 141 (0,0))]]∧H=H'∧True):=by
 refine Does.enterL (vs:=[.int .i64 f,.int .i64 h,.pointer (some ⟨d,0,none⟩)]) (l:=[(0,.int .i64 f),(1,.int .i64 h),(2,.pointer (some ⟨d,0,none⟩))]) Tryz.func152 rfl rfl ⟨rfl,rfl,rfl,trivial⟩ (λw hlt=> ?_)
 unfold mix_words_turned_1 at hx
 refine Run.cl [] 2 ZB rfl (ZA rfl rfl (R.ixA 0 U141 S27 rfl rfl rfl) (ZA rfl rfl (R.ldo 0 S27 rfl rfl rfl) (ZA rfl rfl (R.ixA 1 U141 S27 rfl rfl rfl) (ZA rfl rfl (R.ldo 0 S27 rfl rfl rfl) (ZA rfl rfl (R.add32 (a:=c.e0) (b:=c.e1) rfl rfl) (ZA rfl rfl (R.ixA 0 U141 S27 rfl rfl rfl) (Run.ll_s [0] 5 ZB rfl (ZA rfl rfl (R.ixA 3 U141 S27 rfl rfl rfl) (ZA rfl rfl (R.ldo 0 S27 rfl rfl rfl) (ZA rfl rfl (R.ixA 0 U141 S27 rfl rfl rfl) (ZA rfl rfl (R.ldo 0 S27 rfl rfl rfl) (ZA rfl rfl (R.xor32 (a:=c.e3) (b:=c.e0+c.e1) rfl rfl) (ZA rfl rfl (R.move rfl) (ZV hx E153 rfl math_bits_RotateLeft32_ok rfl trivial ?_))))))))))))))
 intro i j hx
 refine ZA rfl rfl (R.ixA 3 U141 S27 rfl rfl rfl) (Run.ll_s [0] 5 ZB rfl (ZA rfl rfl (R.ixA 2 U141 S27 rfl rfl rfl) (ZA rfl rfl (R.ldo 0 S27 rfl rfl rfl) (ZA rfl rfl (R.ixA 3 U141 S27 rfl rfl rfl) (ZA rfl rfl (R.ldo 0 S27 rfl rfl rfl) (ZA rfl rfl (R.add32 (a:=c.e2) (b:=i) rfl rfl) (ZA rfl rfl (R.ixA 2 U141 S27 rfl rfl rfl) (Run.llz_s [0] 4 ZB rfl (ZA rfl rfl (R.ixA 1 U141 S27 rfl rfl rfl) (ZA rfl rfl (R.ldo 0 S27 rfl rfl rfl) (ZA rfl rfl (R.ixA 2 U141 S27 rfl rfl rfl) (ZA rfl rfl (R.ldo 0 S27 rfl rfl rfl) (ZA rfl rfl (R.xor32 (a:=c.e1) (b:=c.e2+i) rfl rfl) (ZA rfl rfl (R.move rfl) (ZV hx E153 rfl math_bits_RotateLeft32_ok rfl trivial ?_)))))))))))))))
 intro k m hx
 refine ZA rfl rfl (R.ixA 1 U141 S27 rfl rfl rfl) (Run.lnz [0] 2 ZB rfl (ZU (vs:=[]) (K:=[_]) (rst:=[]) (.inr rfl) rfl rfl rfl (ZL 0 rfl ZH) ?_))
 obtain rfl:=Option.some.inj hx
 exact⟨rfl,rfl,rfl,trivial⟩
theorem mix_words_turned_ok{a}:Con Tryz.prog 144 true ([.st 4,.w32 a.e0,.w32 a.e1,.w32 a.e2,.w32 a.e3]) (mix_words_turned a) (λr=> [.st 4,.w32 r.e0,.w32 r.e1,.w32 r.e2,.w32 r.e3]):=by
 intro H r hx
 refine Does.enterC Tryz.func144 rfl rfl ?_
 intro w
 unfold mix_words_turned at hx
 refine Run.cl [] 2 ZB rfl (Zf rfl rfl (λi j=>JL.alloc Z141 rfl (λk m=>Run.ll_s [] 11 ZB rfl ?_)))
 obtain⟨b,c,hx⟩:=ZM hx
 refine ZQ (vs:=[_,_]) (args:=[_,_,_]) (K:=[_]) (rst:=[_]) E152 rfl rfl rfl (ZL 1 rfl ZH) (mix_words_turned_1_ok 15 11 a _ _ c) rfl (λp q s d v x=> ?_)
 obtain⟨rfl,rfl,rfl,-⟩:=d
 refine Run.ll_s [] 5 ZB rfl ?_
 obtain⟨y,f,hx⟩:=ZM hx
 refine ZQ (vs:=[_,_]) (args:=[_,_,_]) (K:=[_]) (rst:=[_]) E152 rfl rfl rfl (ZL 0 rfl ZH) (mix_words_turned_1_ok 9 6 b _ _ f) rfl (λz a0 a1 h a2 a3=> ?_)
 obtain⟨rfl,rfl,rfl,-⟩:=h
 refine Run.lnz_s [0,1] 9 ZB rfl ?_
 exact JN.conCQ [1] [] ZB rfl hx rfl rfl
theorem mix_words_often_ok{c f}:Con Tryz.prog 124 true ([.st 4,.w32 c.e0,.w32 c.e1,.w32 c.e2,.w32 c.e3,.i f]) (mix_words_often c f) (λr=> [.st 4,.w32 r.e0,.w32 r.e1,.w32 r.e2,.w32 r.e3]):=by
 intro H r hx
 refine Does.enterC Tryz.func124 rfl rfl ?_
 intro w
 unfold mix_words_often at hx
 refine Run.cl [] 2 ZB rfl (Zf rfl rfl (λh m=>JL.alloc Z141 rfl (λp q=>Run.lc_s [] 9 ZB rfl (Za hx [2,4] [0] rfl rfl (λb l0 o0 l o g=>l=l0∧o= [(h,.cells #[.int .u32 (b.1.toNat:Int),.int .u32 (b.2.1.toNat:Int),.int .u32 (b.2.2.1.toNat:Int),.int .u32 (b.2.2.2.toNat:Int)] 141 (0,0))]::o0∧H=g) (λb s hx=> ?_) (λb v hx=> ?_)))))
 ·
  rintro _ _ _ ⟨rfl,rfl,rfl⟩
  refine Run.nnz_s [0,1] 8 ZB rfl ?_
  exact JN.conCQ [1] [] ZB rfl hx rfl rfl
 ·
  refine JC.block (ZR 1 rfl (Zi [2,4,5] [1] rfl rfl (λl0 o0 a l o g=>l=(6,.int .i64 a.2.2.2.2)::l0∧o= [(h,.cells #[.int .u32 (a.1.toNat:Int),.int .u32 (a.2.1.toNat:Int),.int .u32 (a.2.2.1.toNat:Int),.int .u32 (a.2.2.2.1.toNat:Int)] 141 (0,0))]::o0∧H=g) hx ⟨rfl,rfl,rfl⟩ rfl ?_))
  ·
   rintro x a _ _ _ ⟨rfl,rfl,rfl⟩ y hx j
   unfold mix_words_often_l1 at hx
   refine Run.cc [] 6 ZB rfl (ZK hx rfl (λk hx=> ?_) (λk hx=> ?_))
   ·
    refine Run.cl_s [0] 6 ZB rfl (ZV hx E144 rfl mix_words_turned_ok rfl trivial ?_)
    intro d z hx
    refine Run.lnz_bs [0] 8 ZB rfl ?_
    replace hx:=Zb j hx
    refine ZC 1 rfl (ZC 1 rfl ?_)
    exact ZE ⟨(d.e0,d.e1,d.e2,d.e3,w64 (a.2.2.2.2+1)),⟨rfl,rfl,rfl⟩,hx⟩ rfl rfl rfl
   ·
    refine Run.cnz_k [] 2 ZB rfl ?_
    obtain rfl:=ZP j hx
    refine Run.nnz_kb [] 2 ZB rfl (ZC 1 rfl (ZC 1 rfl ?_))
    exact ZE ⟨rfl,rfl,rfl⟩ rfl rfl rfl
theorem mix_four_ok{a1}:Con Tryz.prog 100 false ([.sl false RU8 1 a1]) (mix_four a1) (λr=> [.st 4,.w32 r.e0,.w32 r.e1,.w32 r.e2,.w32 r.e3]):=by
 intro H d5 d6 d7 c1 r hx
 refine Does.enterMC Tryz.func100 rfl rfl ?_
 intro w
 unfold mix_four at hx
 refine Run.cl [] 2 ZB rfl (JL.alloc Z141 rfl (λc2 j5=>Run.ll_s [] 4 ZB rfl (ZA rfl rfl (R.bldA (vs:=[(0,.int .u32 ((1:UInt32).toNat:Int)),(1,.int .u32 ((2:UInt32).toNat:Int)),(2,.int .u32 ((3:UInt32).toNat:Int)),(3,.int .u32 ((4:UInt32).toNat:Int))]) (cells:=#[.int .u32 ((1:UInt32).toNat:Int),.int .u32 ((2:UInt32).toNat:Int),.int .u32 ((3:UInt32).toNat:Int),.int .u32 ((4:UInt32).toNat:Int)]) Z141 B141 rfl rfl rfl rfl) (JL.alloc Z141 rfl (λa6 j6=>Run.ll_s [0] 6 ZB rfl ?_)))))
 obtain⟨j7,d8,hx⟩:=ZM hx
 refine ZQ (vs:=[_]) (args:=[_]) (K:=[]) (rst:=[_,_]) E122 rfl rfl rfl ZH (slices_Clone_byte_ok a1 _ c1 _ d8) rfl (λj8 j9 k0 d9 k1 e4=> ?_)
 obtain⟨k2,k3,k4,k5,rfl,rfl,rfl,a7,e5,-⟩:=d9
 replace a7:=(RowOf.base (ZZ (H2:=New H H) RU8.const a7) (λp hp=>(e4 p (Zc 0 rfl hp)).resolve_left (e5 p hp)))
 refine JL.pubN 0 RU8.mono rfl a7 (Nat.le_refl _) (λf k6 e6=>JL.forget 0 (ZV hx E121 rfl slices_Clip_byte_ok rfl ⟨(e6.old RU8.mono),trivial⟩ ?_))
 intro k7 k8 hx k9 l1 e7
 refine JL.bslF (HF:=(New H f)) (R:=RU8) (ls:=[(1:UInt8)]) (vs:=[.int .u8 ((1:UInt8).toNat:Int)]) U26 I5 rfl rfl (⟨_,_,rfl,rfl,rfl,rfl⟩) RU8.one rfl rfl rfl (by simp[maxLen]) rfl (λl2 l3 c3=> ?_)
 obtain⟨l4,l5,rfl⟩:=RowOf.val c3
 obtain⟨e8,e9,f0,hx⟩:=app_some hx
 refine JL.appC (HF:=(New H f)) U26 I5 rfl RU8.one (Hle.refl _) e7 (λ_ _ h=>RU8.const _ _ _ _ h) rfl (SrcF.row 0 U26 rfl (ZZ RU8.const c3)) (List.cons_ne_nil _ _) e9 f0 rfl rfl (λl6 f1 c4=> ?_)
 obtain⟨f2,f3,rfl⟩:=RowOf.val c4
 refine Run.lc_s [] 4 ZB rfl (Za hx [0,2,3] [3,2] rfl rfl (λs l0 o0 l o g=>∃a8:Option Addr,∃a9:Nat,∃b0:Nat,∃b1:Own,l=(4,.slice a8 a9 b0)::l0∧o=b1::o0∧f=g∧RowOf (New H f) RU8 w.heap.size 5 1 (.slice a8 a9 b0) s b1) (λs l7 hx=> ?_) (λs l8 hx=> ?_))
 ·
  rintro _ _ _ ⟨a8,a9,b0,b1,rfl,rfl,rfl,f4⟩
  refine Run.nl_s [] 5 ZB rfl (JL.pubN 0 RU8.mono rfl f4 (Nat.le_refl _) (λl9 m0 c5=>JL.forget 0 ?_))
  obtain⟨m1,f5,hx⟩:=ZM hx
  refine ZQ (vs:=[_,_]) (args:=[_,_]) (K:=[]) (rst:=[_,_]) E77 rfl rfl rfl ZH (slices_Chunk_byte_ok s 8 _ (c5.old RU8.mono) _ f5) rfl (λm2 m3 c6 f6 f7 m4=> ?_)
  obtain⟨m5,m6,rfl,rfl,f8,f9,g0,-⟩:=f6
  refine Run.lc_s [] 3 ZB rfl ?_
  obtain⟨g1,g2,hx⟩:=ZM hx
  refine ZR 1 rfl (JC.rangeL (RA:=λH' args (y:List UInt8)=>∃ao:Option Addr,args= #[.slice ao y.length y.length]∧IsSlice H' RU8 1 (.slice ao y.length y.length) y) rfl mix_four_r2 ((1:UInt32),(2:UInt32),(3:UInt32),(4:UInt32)) g1 g2 (λd o g=>∃v:Heaplet,o= [[(a6,.cells #[.int .u32 (d.1.toNat:Int),.int .u32 (d.2.1.toNat:Int),.int .u32 (d.2.2.1.toNat:Int),.int .u32 (d.2.2.2.toNat:Int)] 141 (0,0))],[(c2,.cells #[.int .u32 ((0:UInt32).toNat:Int),.int .u32 ((0:UInt32).toNat:Int),.int .u32 ((0:UInt32).toNat:Int),.int .u32 ((0:UInt32).toNat:Int)] 141 (0,0))]]∧v=g∧Hle c6 v) (λe c o g=>False) rfl E101 (slices_Chunk_byte_it s 8 g0 _ ((c5.mono RU8.mono (New.mono f7)).old RU8.mono) f8 f9) (λ_ _ _ h=>by obtain⟨_,h,_⟩:=h;rw[h];rfl) rfl ⟨c6,rfl,rfl,(Hle.refl _)⟩ ?_ ?_ ?_)
  ·
   rintro m7 x d args o g m8 ⟨v,rfl,rfl,b2⟩ hA hx2
   clear hx;have hx:=hx2;clear hx2;unfold mix_four_r2 at hx
   obtain⟨g3,rfl,c7⟩:=hA
   refine⟨[(0,.slice d5 d6 d7),(2,.pointer (some ⟨c2,0,none⟩)),(3,.pointer (some ⟨a6,0,none⟩)),(5,.slice g3 x.length x.length)],λg4 g5=> ?_,λg4 g5=> ?_⟩
   ·
    refine Run.cnz [] 3 ZB rfl ?_
    exact JN.assigned ⟨rfl,rfl,rfl,rfl,trivial⟩
   ·
    refine Run.cc [] 2 ZB rfl (Za hx [0,2,3,5] [1] rfl rfl (λb3 l0 o0 l o g=>∃b4:Heaplet,l=l0∧o= [(a6,.cells #[.int .u32 (b3.toNat:Int),.int .u32 (d.2.1.toNat:Int),.int .u32 (d.2.2.1.toNat:Int),.int .u32 (d.2.2.2.toNat:Int)] 141 (0,0))]::o0∧b4=g∧Hle v b4) (λb3 m9 hx=> ?_) (λb3 n0 hx=> ?_))
    ·
     rintro _ _ _ ⟨b4,rfl,rfl,rfl,b5⟩
     refine Run.nc_s [] 2 ZB rfl (JC.draw (so:=[_]) 8 rfl Mixed ⟨⟨1,rfl⟩,trivial⟩ (JA.val ⟨by kernel_rfl,by kernel_rfl⟩ (ZI _) (i:=0) rfl ⟨by kernel_rfl,by kernel_rfl,rfl⟩ trivial (ZG (Hle.refl _) ⟨⟨1,rfl⟩,trivial⟩) (R.ixA 2 U141 S27 rfl rfl rfl) rfl (JA.val ⟨by kernel_rfl,by kernel_rfl⟩ (ZI _) (i:=2) rfl ⟨by kernel_rfl,by kernel_rfl,rfl⟩ trivial (ZG (Hle.refl _) ⟨⟨1,rfl⟩,trivial⟩) (R.move rfl) rfl ?_)))
     obtain⟨n1,g6,b6,hx⟩:=slc_some hx
     obtain⟨n2,c8,h1v_59,h2v_59,h3v_59,b7⟩:=IsSlice.cutv (c7.mono RU8.mono b5) g6 b6
     refine JA.val ⟨by kernel_rfl,by kernel_rfl⟩ (ZI _) (i:=3) rfl ⟨by kernel_rfl,by kernel_rfl,rfl⟩ trivial (ZG (Hle.refl _) ⟨⟨1,rfl⟩,trivial⟩) (R.slc (cap:=c8) (a:=4) (b:=(x.length:Int)) (c:=(c8:Int)) (m:=x) (R:=RU8) U26 S5 rfl ⟨_,rfl⟩ rfl (by obtain⟨ao,n,e,_⟩:=h1v_59;exact⟨ao,n,e,rfl⟩) ⟨b6.1,b6.2.1,h2v_59⟩ h3v_59 (.inl rfl)) rfl ?_
     obtain⟨n3,n4,rfl⟩:=IsSlice.val b7
     refine JA.two (i:=1) (j:=4) (by kernel_rfl) ?_ ?_
     ·
      refine JO.step rfl trivial rfl (λK hK=>Run.lnz [0] 2 ZB rfl (hK _ _ _ (ZG (Hle.refl _) ⟨⟨1,rfl⟩,trivial⟩) (JA.one (i:=4) (by kernel_rfl) (JO.step rfl trivial rfl (λK hK=> ?_)))))
      obtain⟨g7,g8,hx⟩:=ZM hx
      refine ZQ (vs:=[_]) (args:=[_]) (K:=[]) (rst:=[_,_]) E123 rfl rfl rfl ZH (mix_number_ok.doesX rfl ⟨b7,trivial⟩ g8) rfl (λn5 n6 g9 h0 z n7=> ?_)
      obtain⟨rfl,rfl,-⟩:=h0
      refine ZW (hK _ _ _ (ZG z ⟨⟨1,rfl⟩,trivial⟩) (JA.val ⟨by kernel_rfl,by kernel_rfl⟩ (ZI _) (i:=5) rfl ⟨by kernel_rfl,by kernel_rfl,rfl⟩ trivial (ZG z ⟨⟨1,rfl⟩,trivial⟩) (R.xor32 (a:=d.2.2.1) (b:=g7) rfl rfl) rfl (JA.val ⟨by kernel_rfl,by kernel_rfl⟩ (ZI _) (i:=6) rfl ⟨by kernel_rfl,by kernel_rfl,rfl⟩ trivial (ZG z ⟨⟨1,rfl⟩,trivial⟩) (R.ixA 2 U141 S27 rfl rfl rfl) rfl (JA.one (i:=7) (by kernel_rfl) (JO.step rfl trivial rfl (λK hK=> ?_))))))
      refine Run.lnz [0] 2 ZB rfl (hK _ _ _ (ZG z ⟨⟨1,rfl⟩,trivial⟩) (JA.doneN (by kernel_rfl) ?_))
      refine Run.nlz_s [0] 3 ZB rfl ?_
      obtain⟨n8,h1,hx⟩:=ZM hx
      refine ZQ (vs:=[_,_]) (args:=[_,_]) (K:=[]) (rst:=[_,_]) E124 rfl rfl rfl ZH (mix_words_often_ok.doesX rfl trivial h1) rfl (λn9 o1 o2 h2 o3 o4=> ?_)
      obtain⟨rfl,rfl,rfl⟩:=h2
      refine Run.lnz_b [0] 3 ZB rfl ?_
      obtain rfl:=Option.some.inj hx
      refine ZC 1 rfl (ZC 1 rfl ?_)
      exact JN.rN ⟨g9,rfl,rfl,((b2.trans (b5.trans z)))⟩
     ·
      refine JO.step rfl trivial rfl (λK hK=> ?_)
      obtain⟨h3,h4,hx⟩:=ZM hx
      refine ZQ (vs:=[_]) (args:=[_]) (K:=[]) (rst:=[_,_]) E123 rfl rfl rfl ZH (mix_number_ok.doesX rfl ⟨b7,trivial⟩ h4) rfl (λo5 o6 h5 h6 k o7=> ?_)
      obtain⟨rfl,rfl,-⟩:=h6
      refine ZW (hK _ _ _ (ZG k ⟨⟨1,rfl⟩,trivial⟩) (JA.one (i:=1) (by kernel_rfl) (JO.step rfl trivial rfl (λK hK=> ?_))))
      refine Run.lnz [0] 2 ZB rfl (hK _ _ _ (ZG k ⟨⟨1,rfl⟩,trivial⟩) (JA.val ⟨by kernel_rfl,by kernel_rfl⟩ (ZI _) (i:=5) rfl ⟨by kernel_rfl,by kernel_rfl,rfl⟩ trivial (ZG k ⟨⟨1,rfl⟩,trivial⟩) (R.xor32 (a:=d.2.2.1) (b:=h3) rfl rfl) rfl (JA.val ⟨by kernel_rfl,by kernel_rfl⟩ (ZI _) (i:=6) rfl ⟨by kernel_rfl,by kernel_rfl,rfl⟩ trivial (ZG k ⟨⟨1,rfl⟩,trivial⟩) (R.ixA 2 U141 S27 rfl rfl rfl) rfl (JA.one (i:=7) (by kernel_rfl) (JO.step rfl trivial rfl (λK hK=> ?_))))))
      refine Run.lnz [0] 2 ZB rfl (hK _ _ _ (ZG k ⟨⟨1,rfl⟩,trivial⟩) (JA.doneN (by kernel_rfl) ?_))
      refine Run.nlz_s [0] 3 ZB rfl ?_
      obtain⟨o8,h7,hx⟩:=ZM hx
      refine ZQ (vs:=[_,_]) (args:=[_,_]) (K:=[]) (rst:=[_,_]) E124 rfl rfl rfl ZH (mix_words_often_ok.doesX rfl trivial h7) rfl (λo9 p0 p1 h8 p2 p3=> ?_)
      obtain⟨rfl,rfl,rfl⟩:=h8
      refine Run.lnz_b [0] 3 ZB rfl ?_
      obtain rfl:=Option.some.inj hx
      refine ZC 1 rfl (ZC 1 rfl ?_)
      exact JN.rN ⟨h5,rfl,rfl,((b2.trans (b5.trans k)))⟩
    ·
     refine JC.draw (so:=[_]) 8 rfl Mixed ⟨⟨1,rfl⟩,trivial⟩ (JA.val ⟨by kernel_rfl,by kernel_rfl⟩ (ZI _) (i:=0) rfl ⟨by kernel_rfl,by kernel_rfl,rfl⟩ trivial (ZG (Hle.refl _) ⟨⟨1,rfl⟩,trivial⟩) (R.ixA 0 U141 S27 rfl rfl rfl) rfl (JA.val ⟨by kernel_rfl,by kernel_rfl⟩ (ZI _) (i:=2) rfl ⟨by kernel_rfl,by kernel_rfl,rfl⟩ trivial (ZG (Hle.refl _) ⟨⟨1,rfl⟩,trivial⟩) (R.move rfl) rfl ?_))
     obtain⟨p4,h9,b8,hx⟩:=slc_some hx
     obtain⟨p5,c9,h1v_48,h2v_48,h3v_48,b9⟩:=IsSlice.cutv c7 h9 b8
     refine JA.val ⟨by kernel_rfl,by kernel_rfl⟩ (ZI _) (i:=3) rfl ⟨by kernel_rfl,by kernel_rfl,rfl⟩ trivial (ZG (Hle.refl _) ⟨⟨1,rfl⟩,trivial⟩) (R.slc (cap:=c9) (a:=0) (b:=4) (c:=(c9:Int)) (m:=x) (R:=RU8) U26 S5 rfl rfl ⟨_,rfl⟩ (by obtain⟨ao,n,e,_⟩:=h1v_48;exact⟨ao,n,e,rfl⟩) ⟨b8.1,b8.2.1,h2v_48⟩ h3v_48 (.inl rfl)) rfl ?_
     obtain⟨p6,p7,rfl⟩:=IsSlice.val b9
     refine JA.two (i:=1) (j:=4) (by kernel_rfl) ?_ ?_
     ·
      refine JO.step rfl trivial rfl (λK hK=>Run.lnz [0] 2 ZB rfl (hK _ _ _ (ZG (Hle.refl _) ⟨⟨1,rfl⟩,trivial⟩) (JA.one (i:=4) (by kernel_rfl) (JO.step rfl trivial rfl (λK hK=> ?_)))))
      obtain⟨i0,i1,hx⟩:=ZM hx
      refine ZQ (vs:=[_]) (args:=[_]) (K:=[]) (rst:=[_,_]) E123 rfl rfl rfl ZH (mix_number_ok.doesX rfl ⟨b9,trivial⟩ i1) rfl (λp8 p9 i2 i3 a0 q0=> ?_)
      obtain⟨rfl,rfl,-⟩:=i3
      refine ZW (hK _ _ _ (ZG a0 ⟨⟨1,rfl⟩,trivial⟩) (JA.val ⟨by kernel_rfl,by kernel_rfl⟩ (ZI _) (i:=5) rfl ⟨by kernel_rfl,by kernel_rfl,rfl⟩ trivial (ZG a0 ⟨⟨1,rfl⟩,trivial⟩) (R.xor32 (a:=d.1) (b:=i0) rfl rfl) rfl (JA.val ⟨by kernel_rfl,by kernel_rfl⟩ (ZI _) (i:=6) rfl ⟨by kernel_rfl,by kernel_rfl,rfl⟩ trivial (ZG a0 ⟨⟨1,rfl⟩,trivial⟩) (R.ixA 0 U141 S27 rfl rfl rfl) rfl (JA.one (i:=7) (by kernel_rfl) (JO.step rfl trivial rfl (λK hK=> ?_))))))
      refine Run.lnz [0] 2 ZB rfl (hK _ _ _ (ZG a0 ⟨⟨1,rfl⟩,trivial⟩) (JA.doneN (by kernel_rfl) ?_))
      obtain rfl:=Option.some.inj hx
      refine ZC 1 rfl (ZC 1 rfl ?_)
      exact ZE ⟨i2,rfl,rfl,rfl,(a0)⟩ rfl rfl rfl
     ·
      refine JO.step rfl trivial rfl (λK hK=> ?_)
      obtain⟨i4,i5,hx⟩:=ZM hx
      refine ZQ (vs:=[_]) (args:=[_]) (K:=[]) (rst:=[_,_]) E123 rfl rfl rfl ZH (mix_number_ok.doesX rfl ⟨b9,trivial⟩ i5) rfl (λq1 q2 i6 i7 q q3=> ?_)
      obtain⟨rfl,rfl,-⟩:=i7
      refine ZW (hK _ _ _ (ZG q ⟨⟨1,rfl⟩,trivial⟩) (JA.one (i:=1) (by kernel_rfl) (JO.step rfl trivial rfl (λK hK=> ?_))))
      refine Run.lnz [0] 2 ZB rfl (hK _ _ _ (ZG q ⟨⟨1,rfl⟩,trivial⟩) (JA.val ⟨by kernel_rfl,by kernel_rfl⟩ (ZI _) (i:=5) rfl ⟨by kernel_rfl,by kernel_rfl,rfl⟩ trivial (ZG q ⟨⟨1,rfl⟩,trivial⟩) (R.xor32 (a:=d.1) (b:=i4) rfl rfl) rfl (JA.val ⟨by kernel_rfl,by kernel_rfl⟩ (ZI _) (i:=6) rfl ⟨by kernel_rfl,by kernel_rfl,rfl⟩ trivial (ZG q ⟨⟨1,rfl⟩,trivial⟩) (R.ixA 0 U141 S27 rfl rfl rfl) rfl (JA.one (i:=7) (by kernel_rfl) (JO.step rfl trivial rfl (λK hK=> ?_))))))
      refine Run.lnz [0] 2 ZB rfl (hK _ _ _ (ZG q ⟨⟨1,rfl⟩,trivial⟩) (JA.doneN (by kernel_rfl) ?_))
      obtain rfl:=Option.some.inj hx
      refine ZC 1 rfl (ZC 1 rfl ?_)
      exact ZE ⟨i6,rfl,rfl,rfl,(q)⟩ rfl rfl rfl
  ·
   rintro i8 d o g q4 htt ⟨v,rfl,rfl,b2⟩ hle2
   subst htt;simp only[Sum.elim_inl]at hx
   refine Run.nl_bs [] 4 ZB rfl (ZA rfl rfl (R.ixA 1 U141 S27 rfl rfl rfl) (Run.llz [1] 2 ZB rfl (ZA rfl rfl (ZN U26 rfl (IsSlice.long c1)) (ZA rfl rfl (R.cv_i64_u32 U3 U27 rfl) (ZA rfl rfl (R.xor32 (a:=d.2.1) (b:=u32i (a1.length:Int)) rfl rfl) (ZA rfl rfl (R.ixA 1 U141 S27 rfl rfl rfl) (Run.ll_s [1,1] 6 ZB rfl (ZV hx E124 rfl mix_words_often_ok rfl trivial ?_))))))))
   intro q5 q6 hx
   refine Run.lnz_s [2] 4 ZB rfl ?_
   exact JN.conCM (own2:=[_,_]) [i8] [1] [] ZB (ZL 0 rfl ZH) ⟨rfl,rfl,rfl,rfl⟩ rfl rfl hx rfl rfl
  ·
   rintro D c e o g hD htt hX;exact hX.elim
 ·
  refine JC.block (JC.forget 1 (ZR 1 rfl (ZR 2 rfl (ZR 2 rfl (Zi [0,2,3] [1,2] rfl rfl (λl0 o0 d0 l o g=>∃a2:Option Addr,∃a3:Nat,∃a4:Nat,∃a5:Own,l=(4,.slice a2 a3 a4)::l0∧o=a5::o0∧f=g∧RowOf (New H f) RU8 w.heap.size 5 1 (.slice a2 a3 a4) d0 a5) hx ⟨f2,e8.length,f3,f1,rfl,rfl,rfl,c4⟩ rfl ?_)))))
  ·
   rintro q7 d0 _ _ _ ⟨a2,a3,a4,a5,rfl,rfl,rfl,c0⟩ q8 hx d1
   unfold mix_four_l1 at hx
   refine Run.cl [] 4 ZB rfl (ZA rfl rfl (ZN U26 rfl (RowOf.long c0)) (ZA rfl rfl (R.rem_i rfl rfl (by decide)) ?_))
   refine Run.lcz_s [] 3 ZB rfl (ZK hx rfl (λi9 hx=> ?_) (λi9 hx=> ?_))
   ·
    refine Run.cl_s [] 5 ZB rfl (JL.bslF (HF:=(New H f)) (R:=RU8) (ls:=[(0:UInt8)]) (vs:=[.int .u8 ((0:UInt8).toNat:Int)]) U26 I5 rfl rfl (⟨_,_,rfl,rfl,rfl,rfl⟩) RU8.one rfl rfl rfl (by simp[maxLen]) rfl (λq9 r0 d2=> ?_))
    obtain⟨r1,r2,rfl⟩:=RowOf.val d2
    obtain⟨d3,j0,j1,hx⟩:=app_some hx
    refine JL.appF (HF:=(New H f)) 1 U26 I5 rfl rfl c0 rfl (SrcF.row 0 U26 rfl d2) j0 j1 rfl (Nat.le_refl _) rfl (λr3 j2 d4=> ?_)
    obtain⟨j3,j4,rfl⟩:=RowOf.val d4
    refine Run.lnz_b [] 3 ZB rfl ?_
    replace hx:=Zb d1 hx
    refine JN.forget 0 (ZC 2 rfl (ZC 2 rfl (ZC 2 rfl ?_)))
    exact ZE ⟨d3,⟨j3,d3.length,j4,j2,rfl,rfl,rfl,d4⟩,hx⟩ rfl rfl rfl
   ·
    refine Run.cnz_k [] 2 ZB rfl ?_
    obtain rfl:=ZP d1 hx
    refine Run.nnz_kb [] 2 ZB rfl (ZC 2 rfl (ZC 2 rfl (ZC 2 rfl ?_)))
    exact ZE ⟨a2,a3,a4,a5,rfl,rfl,rfl,c0⟩ rfl rfl rfl
theorem mix_Sum_ok{a}:Con Tryz.prog 76 false ([.sl false RU8 1 a]) (mix_Sum a) (λr=> [.w32 r]):=by
 intro H c d f b r hx
 refine Does.enterC Tryz.func76 rfl rfl ?_
 intro w
 unfold mix_Sum at hx
 refine Run.cl [] 8 ZB rfl (JL.con hx E100 rfl mix_four_ok rfl ⟨b,trivial⟩ ?_)
 intro h i hx j k
 refine ZA rfl rfl (R.idxAk 0 U141 S27 rfl rfl rfl rfl rfl) (Run.lnz_s [] 4 ZB rfl ?_)
 exact JN.con [] rfl hx rfl rfl
theorem store_put_ok{b a a0}:Con Tryz.prog 68 false (sp_Store false b++sp_Ptr false a++ [.sl false RU8 1 a0]) (store_put b a a0) (λr=> [.st 5,.sl true (RSl RU8 1) 1 r.1.Disk.Blocks,.row true R_Write 78 2 r.1.Disk.Waits,.row true RU8 5 1 r.1.Space,.w32 r.1.Epoch,.w32 r.1.Count]++sp_Ptr true r.2.1++ [.i r.2.2]):=by
 intro H a9 b0 b1 b2 b3 b4 b5 b6 b7 b8 b9 c0 a1 a2 a3 a4 r hx
 refine Does.enterC Tryz.func68 rfl rfl ?_
 intro w
 unfold store_put at hx
 refine Run.cl [] 2 ZB rfl (Zf rfl rfl (λc1 c8=>Zf rfl rfl (λc c9=>JL.alloc Z29 rfl (λd d0=>JL.alloc Z32 rfl (λf d1=>Run.ll_s [3] 8 ZB rfl (ZV hx E92 rfl space_Take_ok rfl ⟨c0,trivial⟩ ?_))))))
 intro h d2 hx j k m a5 c2
 refine Run.lcz_s [2,3] 17 ZB rfl (ZK hx rfl (λc3 hx=> ?_) (λc3 hx=> ?_))
 ·
  refine Run.cnz_k [2,1] 12 ZB rfl (ZO (ZO ?_))
  exact JN.conC [4,3] [0,0] ZB rfl hx rfl ⟨IsSlice.nil _ _ _,⟨0,ZF _ _ _ _ _⟩,⟨0,ZF _ _ _ _ _⟩,rfl⟩
 ·
  refine Run.cl_s [4,3] 10 ZB rfl (JL.con hx E93 rfl dev_Write_ok rfl ⟨b2,b6,a4,trivial⟩ ?_)
  intro a6 d3 hx d4 a7 p q s c4 v x y a8 c5
  refine Run.lcz_s [3] 14 ZB rfl (ZK hx rfl (λc6 hx=> ?_) (λc6 hx=> ?_))
  ·
   refine Run.cnz_k [3,2] 12 ZB rfl (ZO (ZO ?_))
   exact JN.conC [5,4] [0,0] ZB rfl hx rfl ⟨IsSlice.nil _ _ _,⟨0,ZF _ _ _ _ _⟩,⟨0,ZF _ _ _ _ _⟩,rfl⟩
  ·
   refine Run.cc_s [] 3 ZB rfl (JC.drawB (so:=[(_,[]),(_,[]),(_,[]),(_,[5,7]),(_,[]),(_,[])]) 8 rfl Mixed ⟨by kernel_rfl,by kernel_rfl⟩ (kept0 [0,1,2,3,4,5] rfl) ?_)
   refine JB.run 5 [0,1,2,3,4] [4,4] ZB rfl ?_
   refine JB.one (i:=5) (by kernel_rfl) ?_
   refine JOB.step rfl trivial rfl (λK hK=>Run.lnz [3] 2 ZB rfl (hK _ _ _ (Hle.refl _) (kept1 [false,false,false,true,false,false] [0,1,2,0,4,5] (by kernel_rfl) rfl) ?_))
   refine JB.val (i:=6) [] rfl (R.fa F29_3 rfl) ?_
   refine JB.one (i:=7) (by kernel_rfl) ?_
   refine JOB.step rfl trivial rfl (λK hK=>Run.lnz [3] 2 ZB rfl (hK _ _ _ (Hle.refl _) (kept1 [false,false,false,true,false,false] [0,1,2,0,4,5] (by kernel_rfl) rfl) ?_))
   refine JB.doneN (by kernel_rfl) ?_
   refine JN.next (JC.tidy (l':=[(2,.slice a1 a2 a3),(4,.pointer (some ⟨c,0,none⟩)),(6,.pointer (some ⟨d,0,none⟩)),(7,.pointer (some ⟨f,0,none⟩)),(8,.int .i64 a6.2)]) (own':=[a8,a5,[(f,.cells #[.int .i64 0,.int .u32 ((0:UInt32).toNat:Int),.int .u32 ((0:UInt32).toNat:Int),.int .u32 ((0:UInt32).toNat:Int),.int .u32 ((0:UInt32).toNat:Int)] 32 (0,0))],[(d,.cells #[.slice p q s,.slice v x y,.slice j k m,.int .u32 (b.Epoch.toNat:Int),.int .u32 (b.Count.toNat:Int)] 29 (0,0))],[(c,.cells #[.int .i64 h.2.1,.int .u32 (a.Birth.toNat:Int),.int .u32 (a.Iv.toNat:Int),.int .u32 (a.Tag.toNat:Int),.int .u32 (a.Sum.toNat:Int)] 32 (0,0))],[(c1,.cells #[.slice a9 b0 b1,.slice b3 b4 b5,.slice b7 b8 b9,.int .u32 (b.Epoch.toNat:Int),.int .u32 (b.Count.toNat:Int)] 29 (0,0))]]) ⟨rfl,rfl,rfl,rfl,rfl,trivial⟩ rfl (JC.tidyP (l':=[(2,.slice a1 a2 a3),(4,.pointer (some ⟨c,0,none⟩)),(6,.pointer (some ⟨d,0,none⟩)),(7,.pointer (some ⟨f,0,none⟩)),(8,.int .i64 a6.2)]) (own':=[a8,a5,[(f,.cells #[.int .i64 0,.int .u32 ((0:UInt32).toNat:Int),.int .u32 ((0:UInt32).toNat:Int),.int .u32 ((0:UInt32).toNat:Int),.int .u32 ((0:UInt32).toNat:Int)] 32 (0,0))],[(d,.cells #[.slice p q s,.slice v x y,.slice j k m,.int .u32 (b.Epoch.toNat:Int),.int .u32 (b.Count.toNat:Int)] 29 (0,0))],[(c,.cells #[.int .i64 h.2.1,.int .u32 (a.Birth.toNat:Int),.int .u32 (a.Iv.toNat:Int),.int .u32 (a.Tag.toNat:Int),.int .u32 (a.Sum.toNat:Int)] 32 (0,0))]]) (rst:=[_]) ⟨rfl,rfl,rfl,rfl,rfl,trivial⟩ (ZL 0 rfl (ZL 0 rfl (ZL 0 rfl (ZL 0 rfl (ZL 0 rfl ZH))))) (Run.cl [] 3 ZB rfl (JL.con hx E76 rfl mix_Sum_ok rfl ⟨(a4.mono RU8.mono a7),trivial⟩ ?_))))
   intro c7 d5 hx d6 z
   refine Run.lc_s [4] 5 ZB rfl (JC.drawB (so:=[(_,[]),(_,[]),(_,[3]),(_,[2]),(_,[])]) 5 rfl Mixed ⟨by kernel_rfl,by kernel_rfl⟩ (kept0 [0,1,2,3,4] rfl) ?_)
   refine JB.val (i:=0) [2] rfl (R.ldoN 2 (vs:=[.slice p q s,.slice v x y,.slice j k m,.int .u32 (b.Epoch.toNat:Int),.int .u32 (b.Count.toNat:Int)]) S29 rfl rfl rfl rfl) ?_
   refine JB.val (i:=1) [] rfl (R.ldoN 2 (vs:=[.int .i64 h.2.1,.int .u32 (a.Birth.toNat:Int),.int .u32 (a.Iv.toNat:Int),.int .u32 (a.Tag.toNat:Int),.int .u32 (c7.toNat:Int)]) S32 rfl rfl rfl rfl) ?_
   refine JB.one (i:=2) (by kernel_rfl) ?_
   refine JOB.step rfl trivial rfl (λK hK=>Run.lnz [3] 2 ZB rfl (hK _ _ _ (Hle.refl _) (kept1 [false,false,false,true,false] [0,1,2,0,4] (by kernel_rfl) rfl) ?_))
   refine JB.one (i:=3) (by kernel_rfl) ?_
   refine JOB.step rfl trivial rfl (λK hK=>Run.lnz [2] 2 ZB rfl (hK _ _ _ (Hle.refl _) (kept1 [false,false,true,true,false] [0,1,0,0,4] (by kernel_rfl) rfl) ?_))
   refine JB.val (i:=4) [] rfl (R.assign rfl) ?_
   refine JB.doneN (by kernel_rfl) ?_
   refine Run.nnz_s [] 2 ZB rfl ?_
   exact JN.conC [3,2] [0,0] ZB rfl hx rfl ⟨(c4.mono (RSl.mono RU8.mono) (New.mono z)),⟨_,(c5.mono R_Write.mono (New.mono z))⟩,⟨_,(c2.mono RU8.mono (New.mono (a7.trans z)))⟩,rfl⟩
theorem store_Raw_ok{c d f h b}:Con Tryz.prog 44 false (sp_Store false c++ [.w32 d,.w32 f,.w32 h,.sl false RU8 1 b]) (store_Raw c d f h b) (λr=> [.st 5,.sl true (RSl RU8 1) 1 r.1.Disk.Blocks,.row true R_Write 78 2 r.1.Disk.Waits,.row true RU8 5 1 r.1.Space,.w32 r.1.Epoch,.w32 r.1.Count]++sp_Ptr true r.2.1++ [.i r.2.2]):=by
 intro H a3 a4 a5 j a6 a7 a8 k a9 b0 b1 m s v x p r hx
 refine Does.enterC Tryz.func44 rfl rfl ?_
 intro w
 unfold store_Raw at hx
 refine Run.cl [] 2 ZB rfl (Zf rfl rfl (λb2 b3=>JL.alloc Z29 rfl (λb4 b5=>JL.alloc Z32 rfl (λb6 b7=>Run.ll_s [2] 9 ZB rfl (JL.bslF (HF:=H) (R:=(RSl RU8 1)) (ls:=[b]) (vs:=[.slice s v x]) U22 I26 rfl rfl (⟨_,_,rfl,rfl,⟨_,rfl,p⟩,rfl⟩) RSl.one rfl rfl rfl (by simp[maxLen]) rfl (λb8 b9 q=> ?_))))))
 obtain⟨c0,c1,rfl⟩:=RowOf.val q
 refine JL.conL hx E67 rfl store_asked_ok rfl (λc2 a y=>⟨(IsSlice.mono (RSl.mono RU8.mono) a j),(IsSlice.mono R_Write.mono a k),(IsSlice.mono RU8.mono a m),(Lent.row' 0 y (RSl.mono RU8.mono) a rfl q),trivial⟩) (λ_=>trivial) ?_
 intro c3 c4 hx
 refine Run.lcz_s [] 9 ZB rfl (ZK hx rfl (λz hx=> ?_) (λz hx=> ?_))
 ·
  refine Run.cnz_k [] 2 ZB rfl (ZO (ZO ?_))
  exact JN.conC [4,3] [0,0] ZB rfl hx rfl ⟨IsSlice.nil _ _ _,⟨0,ZF _ _ _ _ _⟩,⟨0,ZF _ _ _ _ _⟩,rfl⟩
 ·
  refine Run.cl_s [3] 10 ZB rfl (JL.con hx E68 rfl store_put_ok rfl ⟨j,k,m,p,trivial⟩ ?_)
  intro c5 c6 hx c7 c8 c9 d0 d1 a0 d2 d3 d4 d5 a1 d6 d7 d8 d9 a2
  refine Run.lnz_s [4,3] 9 ZB rfl ?_
  exact JN.conC [4,3] [0,0] ZB rfl hx rfl ⟨a0,⟨_,a1⟩,⟨_,a2⟩,rfl⟩
theorem store_Lay_ok{a b c}:Con Tryz.prog 24 false (sp_Store false a++ [.w32 b,.sl false RU8 1 c]) (store_Lay a b c) (λr=> [.st 5,.sl true (RSl RU8 1) 1 r.1.Disk.Blocks,.row true R_Write 78 2 r.1.Disk.Waits,.row true RU8 5 1 r.1.Space,.w32 r.1.Epoch,.w32 r.1.Count]++sp_Ptr true r.2.1++ [.i r.2.2]):=by
 intro H q s v d x y z f a0 a1 a2 h a3 a4 a5 j r hx
 refine Does.enterC Tryz.func24 rfl rfl ?_
 intro w
 unfold store_Lay at hx
 refine Run.cl [] 2 ZB rfl (Zf rfl rfl (λa6 a7=>JL.alloc Z29 rfl (λa8 a9=>JL.alloc Z32 rfl (λb0 b1=>Run.ll_s [2] 8 ZB rfl (JL.con hx E44 rfl store_Raw_ok rfl ⟨d,f,h,j,trivial⟩ ?_)))))
 intro b2 b3 hx b4 b5 b6 b7 b8 k b9 c0 c1 c2 m c3 c4 c5 c6 p
 refine Run.lnz_s [3,2] 9 ZB rfl ?_
 exact JN.conC [3,2] [0,0] ZB rfl hx rfl ⟨k,⟨_,m⟩,⟨_,p⟩,rfl⟩
theorem dead_Lay_1_ok (b3:List Ptr)(b:Store)(v:UInt32)(a:Ptr)(x:Int)(b4:List Int)(H:Heaplet){y:Option Addr}{z:Nat}{a0:Nat}{c:Nat}{a1:Option Addr}{a2:Nat}{a3:Nat}{a4:Option Addr}{a5:Nat}{a6:Nat}{a7:Option Addr}{a8:Nat}{a9:Nat}{d:Nat}{f:Nat}{h:Nat}{i:Nat}{j:Option Addr}{k:Nat}{m:Nat}{q:Own}(d2:IsSlice H R_Ptr 5 (.slice y z a0) b3)(d3:IsSlice H (RSl RU8 1) 1 (.slice a1 a2 a3) b.Disk.Blocks)(d4:IsSlice H R_Write 2 (.slice a4 a5 a6) b.Disk.Waits)(d5:IsSlice H RU8 1 (.slice a7 a8 a9) b.Space)(b0:RowOf H RInt 0 3 1 (.slice j k m) b4 q)(r:Store×UInt32×Ptr×Int×List Int)(hx:dead_Lay_1 b3 b v a x b4=some r):
  Does Tryz.prog 22 #[.slice y z a0,.pointer (some ⟨c,0,none⟩),.pointer (some ⟨d,0,none⟩),.pointer (some ⟨f,0,none⟩),.pointer (some ⟨h,0,none⟩),.pointer (some ⟨i,0,none⟩)] [[(c,.cells #[.slice a1 a2 a3,.slice a4 a5 a6,.slice a7 a8 a9,.int .u32 (b.Epoch.toNat:Int),.int .u32 (b.Count.toNat:Int)] 29 (0,0))],[(d,.cells #[.int .u32 (v.toNat:Int)] 27 (0,0))],[(f,.cells #[.int .i64 a.At,.int .u32 (a.Birth.toNat:Int),.int .u32 (a.Iv.toNat:Int),.int .u32 (a.Tag.toNat:Int),.int .u32 (a.Sum.toNat:Int)] 32 (0,0))],[(h,.cells #[.int .i64 x] 36 (0,0))],[(i,.cells #[.slice j k m] 35 (0,0))],q] H (λu K' H'=>∃ao0:Option Addr,∃n0:Nat,∃cap0:Nat,∃ao1:Option Addr,∃n1:Nat,∃cap1:Nat,∃K1:Own,∃ao2:Option Addr,∃n2:Nat,∃cap2:Nat,∃K2:Own,∃ao3:Option Addr,∃n3:Nat,∃cap3:Nat,∃K3:Own,u=.tuple #[]∧K'= [[(c,.cells #[.slice ao0 n0 cap0,.slice ao1 n1 cap1,.slice ao2 n2 cap2,.int .u32 (r.1.Epoch.toNat:Int),.int .u32 (r.1.Count.toNat:Int)] 29 (0,0))],K1,K2,[(d,.cells #[.int .u32 (r.2.1.toNat:Int)] 27 (0,0))],[(f,.cells #[.int .i64 r.2.2.1.At,.int .u32 (r.2.2.1.Birth.toNat:Int),.int .u32 (r.2.2.1.Iv.toNat:Int),.int .u32 (r.2.2.1.Tag.toNat:Int),.int .u32 (r.2.2.1.Sum.toNat:Int)] 32 (0,0))],[(h,.cells #[.int .i64 r.2.2.2.1] 36 (0,0))],[(i,.cells #[.slice ao3 n3 cap3] 35 (0,0))],K3]∧IsSlice (New H H') (RSl RU8 1) 1 (.slice ao0 n0 cap0) r.1.Disk.Blocks∧RowOf (New H H') R_Write 0 78 2 (.slice ao1 n1 cap1) r.1.Disk.Waits K1∧(∀p∈K1,p.1∉ids (List.flatten [[(c,.cells #[.slice a1 a2 a3,.slice a4 a5 a6,.slice a7 a8 a9,.int .u32 (b.Epoch.toNat:Int),.int .u32 (b.Count.toNat:Int)] 29 (0,0))],[(d,.cells #[.int .u32 (v.toNat:Int)] 27 (0,0))],[(f,.cells #[.int .i64 a.At,.int .u32 (a.Birth.toNat:Int),.int .u32 (a.Iv.toNat:Int),.int .u32 (a.Tag.toNat:Int),.int .u32 (a.Sum.toNat:Int)] 32 (0,0))],[(h,.cells #[.int .i64 x] 36 (0,0))],[(i,.cells #[.slice j k m] 35 (0,0))],q]))∧RowOf (New H H') RU8 0 5 1 (.slice ao2 n2 cap2) r.1.Space K2∧(∀p∈K2,p.1∉ids (List.flatten [[(c,.cells #[.slice a1 a2 a3,.slice a4 a5 a6,.slice a7 a8 a9,.int .u32 (b.Epoch.toNat:Int),.int .u32 (b.Count.toNat:Int)] 29 (0,0))],[(d,.cells #[.int .u32 (v.toNat:Int)] 27 (0,0))],[(f,.cells #[.int .i64 a.At,.int .u32 (a.Birth.toNat:Int),.int .u32 (a.Iv.toNat:Int),.int .u32 (a.Tag.toNat:Int),.int .u32 (a.Sum.toNat:Int)] 32 (0,0))],[(h,.cells #[.int .i64 x] 36 (0,0))],[(i,.cells #[.slice j k m] 35 (0,0))],q]))∧RowOf (New H H') RInt 0 3 1 (.slice ao3 n3 cap3) r.2.2.2.2 K3∧True):=by
 refine Does.enterL (vs:=[.slice y z a0,.pointer (some ⟨c,0,none⟩),.pointer (some ⟨d,0,none⟩),.pointer (some ⟨f,0,none⟩),.pointer (some ⟨h,0,none⟩),.pointer (some ⟨i,0,none⟩)]) (l:=[(0,.slice y z a0),(1,.pointer (some ⟨c,0,none⟩)),(2,.pointer (some ⟨d,0,none⟩)),(3,.pointer (some ⟨f,0,none⟩)),(4,.pointer (some ⟨h,0,none⟩)),(5,.pointer (some ⟨i,0,none⟩))]) Tryz.func22 rfl rfl ⟨rfl,rfl,rfl,rfl,rfl,rfl,trivial⟩ (λw hlt=> ?_)
 replace b0:=ZZ (H2:=New H H) RInt.const b0
 unfold dead_Lay_1 at hx
 refine Run.cl [] 3 ZB rfl (ZV hx E23 rfl ptr_Row_ok rfl ⟨d2,trivial⟩ ?_)
 intro e5 e6 hx e7 e8 e9 f0 d6
 refine Run.ll_s [1,2] 12 ZB rfl (JL.pubN 0 RU8.mono rfl d6 (Nat.le_refl _) (λf1 s d7=>JL.forget 0 (JL.con hx E24 rfl store_Lay_ok rfl ⟨(d3.mono (RSl.mono RU8.mono) s),(d4.mono R_Write.mono s),(d5.mono RU8.mono s),(d7.old RU8.mono),trivial⟩ ?_)))
 intro b5 f2 hx b6 b7 b8 b9 c0 c1 c2 c3 c4 c5 b1 c6 c7 c8 c9 b2
 refine Run.lcz_s [2,4,5,5] 15 ZB rfl (ZK hx rfl (λd8 hx=> ?_) (λd8 hx=> ?_))
 ·
  refine Run.clz [6,4] 4 ZB rfl (JL.bslF (HF:=(New H b6)) (R:=RInt) (ls:=[b5.2.1.At]) (vs:=[.int .i64 b5.2.1.At]) U35 I3 rfl rfl (⟨_,_,rfl,rfl,rfl,rfl⟩) RInt.one rfl rfl rfl (by simp[maxLen]) rfl (λf3 f4 d0=> ?_))
  obtain⟨f5,f6,rfl⟩:=RowOf.val d0
  obtain⟨d9,e0,e1,hx⟩:=app_some hx
  refine JL.appF (HF:=(New H b6)) 8 U35 I3 rfl rfl (b0.mono RInt.mono (New.mono (s.trans b7))) rfl (SrcF.row 0 U35 rfl d0) e0 e1 rfl (Nat.zero_le _) rfl (λf7 e2 d1=> ?_)
  obtain⟨e3,e4,rfl⟩:=RowOf.val d1
  refine Run.lnz [7] 2 ZB rfl (ZU (vs:=[]) (K:=[_,_,_,_,_,_,_,_]) (rst:=[_]) (.inr rfl) rfl rfl rfl (ZL 3 rfl (ZL 1 rfl (ZL 1 rfl (ZL 1 rfl (ZL 1 rfl (ZL 1 rfl (ZL 1 rfl (ZL 1 rfl ZH)))))))) ?_)
  obtain rfl:=Option.some.inj hx
  exact⟨b8,b9,c0,c2,c3,c4,c5,c6,c7,c8,c9,e3,d9.length,e4,e2,rfl,rfl,c1,(ZX (Nat.zero_le _) b1),(new_ids b1 hlt),(ZX (Nat.zero_le _) b2),(new_ids b2 hlt),(ZX (Nat.zero_le _) d1),trivial⟩
 ·
  refine JC.skip (ZU (vs:=[]) (K:=[_,_,_,_,_,_,_,_]) (rst:=[]) (.inr rfl) rfl rfl rfl (ZL 2 rfl (ZL 0 rfl (ZL 0 rfl (ZL 0 rfl (ZL 0 rfl (ZL 0 rfl (ZL 0 rfl (ZL 0 rfl ZH)))))))) ?_)
  obtain rfl:=Option.some.inj hx
  exact⟨b8,b9,c0,c2,c3,c4,c5,c6,c7,c8,c9,j,k,m,q,rfl,rfl,c1,(ZX (Nat.zero_le _) b1),(new_ids b1 hlt),(ZX (Nat.zero_le _) b2),(new_ids b2 hlt),(ZX (Nat.zero_le _) (b0.mono RInt.mono (New.mono (s.trans b7)))),trivial⟩
theorem dead_Lay_v3_ok{a3 z a4}:Con Tryz.prog 7 false (sp_Store false a3++ [.w32 z,.sl false R_Ptr 5 a4]) (dead_Lay_v3 a3 z a4) (λr=> [.st 5,.sl true (RSl RU8 1) 1 r.1.Disk.Blocks,.row true R_Write 78 2 r.1.Disk.Waits,.row true RU8 5 1 r.1.Space,.w32 r.1.Epoch,.w32 r.1.Count]++sp_Ptr true r.2.1++ [.row true RInt 3 1 r.2.2.1,.i r.2.2.2]):=by
 intro H g4 g5 g6 c7 g7 g8 g9 c8 h0 h1 h2 c9 n4 n5 n6 a5 r hx
 refine Does.enterMC Tryz.func7 rfl rfl ?_
 intro w
 unfold dead_Lay_v3 at hx
 refine Run.cl [] 2 ZB rfl (Zf rfl rfl (λd0 n7=>Zf rfl rfl (λf4 n8=>JL.alloc Z29 rfl (λd1 n9=>JL.alloc Z32 rfl (λa6 o0=>JL.alloc Z35 rfl (λa7 o1=>JL.alloc Z36 rfl (λa8 o2=>Run.ll_s [5] 6 ZB rfl (ZV hx E19 rfl store_Check_ok rfl ⟨c7,c8,c9,trivial⟩ ?_))))))))
 intro o3 o4 hx
 refine Run.llz [] 2 ZB rfl (JL.gX 16 hx rfl (λh3 hx=> ?_) (λh3 hx=> ?_))
 ·
  refine Run.lnz_sk [3,2,1,0] 19 ZB rfl (ZO (ZO (ZO ?_)))
  exact JN.conCM (own2:=[_,_,_,_,_,_,_,_,_]) [] [6,5,4,3] [0,0,0] ZB ZH ⟨rfl,rfl,rfl,rfl⟩ rfl rfl hx rfl ⟨IsSlice.nil _ _ _,⟨0,ZF _ _ _ _ _⟩,⟨0,ZF _ _ _ _ _⟩,⟨0,ZF _ _ _ _ _⟩,rfl⟩
 ·
  refine Run.llz [] 3 ZB rfl (ZV hx E20 rfl dead_Check_ok rfl ⟨a5,trivial⟩ ?_)
  intro o5 o6 hx
  refine Run.lcz_s [] 5 ZB rfl (ZK hx rfl (λh4 hx=> ?_) (λh4 hx=> ?_))
  ·
   refine Run.cnz_k [3,2,1,0] 12 ZB rfl (ZO (ZO (ZO ?_)))
   exact JN.conCM (own2:=[_,_,_,_,_,_,_,_,_]) [] [6,5,4,3] [0,0,0] ZB ZH ⟨rfl,rfl,rfl,rfl⟩ rfl rfl hx rfl ⟨IsSlice.nil _ _ _,⟨0,ZF _ _ _ _ _⟩,⟨0,ZF _ _ _ _ _⟩,⟨0,ZF _ _ _ _ _⟩,rfl⟩
  ·
   refine Run.cl_s [4] 6 ZB rfl (ZA rfl rfl (R.lss32 (a:=z) (b:=(1:UInt32)) rfl rfl) (ZA rfl rfl (R.move rfl) (JL.gX 25 hx rfl (λh5 hx=> ?_) (λh5 hx=> ?_))))
   ·
    refine Run.lnz_sk [3,2,1,0] 18 ZB rfl (ZO (ZO (ZO ?_)))
    exact JN.conCM (own2:=[_,_,_,_,_,_,_,_,_]) [] [6,5,4,3] [0,0,0] ZB ZH ⟨rfl,rfl,rfl,rfl⟩ rfl rfl hx rfl ⟨IsSlice.nil _ _ _,⟨0,ZF _ _ _ _ _⟩,⟨0,ZF _ _ _ _ _⟩,⟨0,ZF _ _ _ _ _⟩,rfl⟩
   ·
    refine Run.llz [4] 3 ZB rfl (ZA rfl rfl (R.gtr32 (a:=z) (b:=(16777215:UInt32)) rfl rfl) (Run.lcz_s [] 3 ZB rfl (ZK hx rfl (λh6 hx=> ?_) (λh6 hx=> ?_))))
    ·
     refine Run.cnz_k [3,2,1,0] 12 ZB rfl (ZO (ZO (ZO ?_)))
     exact JN.conCM (own2:=[_,_,_,_,_,_,_,_,_]) [] [6,5,4,3] [0,0,0] ZB ZH ⟨rfl,rfl,rfl,rfl⟩ rfl rfl hx rfl ⟨IsSlice.nil _ _ _,⟨0,ZF _ _ _ _ _⟩,⟨0,ZF _ _ _ _ _⟩,⟨0,ZF _ _ _ _ _⟩,rfl⟩
    ·
     refine Run.cl_s [] 6 ZB rfl (ZA rfl rfl (ZN U30 rfl (IsSlice.long a5)) (Run.lcz_s [] 3 ZB rfl (ZK hx rfl (λh7 hx=> ?_) (λh7 hx=> ?_))))
     ·
      refine Run.cl [5] 3 ZB rfl ?_
      obtain⟨o7,h8,hx⟩:=ZM hx
      refine ZQ (vs:=[_]) (args:=[_]) (K:=[]) (rst:=[_,_,_,_,_,_]) E21 rfl rfl rfl ZH (store_Twin_ok a3 _ c7 c8 c9 _ h8) rfl (λo8 o9 h9 i0 p0 d2=> ?_)
      obtain⟨p1,p2,p3,p4,p5,p6,p7,p8,p9,q0,q1,q2,rfl,rfl,d3,i1,d4,i2,d5,i3,-⟩:=i0
      replace d3:=(Pcs.base d3 (λp hp=>(d2 p (Zc 0 rfl hp)).resolve_left (i1 p hp)))
      replace d4:=(RowOf.base (RowOf.mono R_Write.mono (New.call (Hle.refl _)) d4) (λp hp=>(d2 p (Zc 1 rfl hp)).resolve_left (i2 p hp)))
      replace d5:=(RowOf.base (ZZ (H2:=New H h9) RU8.const d5) (λp hp=>(d2 p (Zc 2 rfl hp)).resolve_left (i3 p hp)))
      refine Run.lnz_sk [6,5,4,3] 9 ZB rfl (JN.pubPcs 0 rfl d3 (Nat.le_refl _) (λq3 f5 i4=>JN.forget 0 (ZO ?_)))
      exact JN.conCM (own2:=[_,_,_,_,_,_,_,_,_]) [] [6,5,4,3] [1,1,0] ZB ZH ⟨rfl,rfl,rfl,rfl⟩ rfl rfl hx rfl ⟨i4,⟨_,(d4.mono R_Write.mono (New.mono f5))⟩,⟨_,(d5.mono RU8.mono (New.mono f5))⟩,⟨0,ZF _ _ _ _ _⟩,rfl⟩
     ·
      refine Run.cl_s [] 5 ZB rfl (JL.alloc Z60 rfl (λf6 q4=>Run.ll_s [0] 5 ZB rfl (JL.alloc Z30 rfl (λf7 q5=>Run.ll_s [] 6 ZB rfl ?_))))
      obtain⟨q6,i5,hx⟩:=ZM hx
      refine ZQ (vs:=[_,_]) (args:=[_,_]) (K:=[]) (rst:=[_,_,_,_,_,_,_,_]) E25 rfl rfl rfl ZH (slices_Chunk_Ptr_ok a4 16 _ a5 _ i5) rfl (λq7 q8 d6 i6 j q9=> ?_)
      obtain⟨r0,r1,rfl,rfl,i7,i8,i9,-⟩:=i6
      refine Run.lc_s [] 3 ZB rfl ?_
      obtain⟨j0,j1,hx⟩:=ZM hx
      refine JC.seg0 (JC.seg0 (ZR 3 rfl (ZR 7 rfl (ZR 2 rfl (ZR 4 rfl (ZR 8 rfl (ZR 6 rfl (ZR 6 rfl (ZR 7 rfl (ZR 8 rfl (ZR 9 rfl (JC.rangeL (RA:=λH' args (y:List Ptr)=>∃ao:Option Addr,args= #[.slice ao y.length y.length]∧IsSlice H' R_Ptr 5 (.slice ao y.length y.length) y) rfl dead_Lay_v3_r1 (a3,Ptr.mk 0 (0:UInt32) (0:UInt32) (0:UInt32) (0:UInt32),([]:List Int),0,z,([]:List Ptr)) j0 j1 (λd o g=>∃f:Heaplet,∃a9:Option Addr,∃b0:Nat,∃b1:Nat,∃b2:Option Addr,∃b3:Nat,∃b4:Nat,∃b5:Option Addr,∃b6:Nat,∃b7:Nat,∃b8:Option Addr,∃b9:Nat,∃c0:Nat,∃c1:Own,∃c2:Option Addr,∃c3:Nat,∃c4:Nat,∃c5:Own,o= [[(d0,.cells #[.slice a9 b0 b1,.slice b2 b3 b4,.slice b5 b6 b7,.int .u32 (d.1.Epoch.toNat:Int),.int .u32 (d.1.Count.toNat:Int)] 29 (0,0))],[(a6,.cells #[.int .i64 d.2.1.At,.int .u32 (d.2.1.Birth.toNat:Int),.int .u32 (d.2.1.Iv.toNat:Int),.int .u32 (d.2.1.Tag.toNat:Int),.int .u32 (d.2.1.Sum.toNat:Int)] 32 (0,0))],[(a7,.cells #[.slice b8 b9 c0] 35 (0,0))],c1,[(a8,.cells #[.int .i64 d.2.2.2.1] 36 (0,0))],[(f4,.cells #[.int .u32 (d.2.2.2.2.1.toNat:Int)] 27 (0,0))],[(f7,.cells #[.slice c2 c3 c4] 30 (0,0))],c5,[(d1,.cells #[.slice none 0 0,.slice none 0 0,.slice none 0 0,.int .u32 ((0:UInt32).toNat:Int),.int .u32 ((0:UInt32).toNat:Int)] 29 (0,0))],[(f6,.cells #[.func (.func 22) #[] #[.pointer (some ⟨d0,0,none⟩),.pointer (some ⟨f4,0,none⟩),.pointer (some ⟨a6,0,none⟩),.pointer (some ⟨a8,0,none⟩),.pointer (some ⟨a7,0,none⟩)]] 60 (0,0))]]∧f=g∧Hle d6 f∧IsSlice f (RSl RU8 1) 1 (.slice a9 b0 b1) d.1.Disk.Blocks∧IsSlice f R_Write 2 (.slice b2 b3 b4) d.1.Disk.Waits∧IsSlice f RU8 1 (.slice b5 b6 b7) d.1.Space∧RowOf (New H f) RInt 0 3 1 (.slice b8 b9 c0) d.2.2.1 c1∧RowOf (New H f) R_Ptr w.heap.size 32 5 (.slice c2 c3 c4) d.2.2.2.2.2 c5) (λe c o g=>(c=.ret∧∃t_38e0:Int,t_38e0=e∧∃d7:Heaplet,o= [[(a8,.cells #[.int .i64 t_38e0] 36 (0,0))],[(d1,.cells #[.slice none 0 0,.slice none 0 0,.slice none 0 0,.int .u32 ((0:UInt32).toNat:Int),.int .u32 ((0:UInt32).toNat:Int)] 29 (0,0))],[(a6,.cells #[.int .i64 0,.int .u32 ((0:UInt32).toNat:Int),.int .u32 ((0:UInt32).toNat:Int),.int .u32 ((0:UInt32).toNat:Int),.int .u32 ((0:UInt32).toNat:Int)] 32 (0,0))],[(a7,.cells #[.slice none 0 0] 35 (0,0))]]∧d7=g∧Hle d6 d7)) rfl E45 (slices_Chunk_Ptr_it a4 16 i9 _ (a5.mono R_Ptr.mono j) i7 i8) (λ_ _ _ h=>by obtain⟨_,h,_⟩:=h;rw[h];rfl) rfl ⟨d6,g4,g5,g6,g7,g8,g9,h0,h1,h2,none,0,0,[],none,0,0,[],rfl,rfl,(Hle.refl _),(c7.mono (RSl.mono RU8.mono) j),(c8.mono R_Write.mono j),(c9.mono RU8.mono j),(ZF _ _ _ _ _),(ZF _ _ _ _ _)⟩ ?_ ?_ ?_))))))))))))
      ·
       rintro r2 d8 d args o g r3 ⟨f,a9,b0,b1,b2,b3,b4,b5,b6,b7,b8,b9,c0,c1,c2,c3,c4,c5,rfl,rfl,k,d9,e0,e1,e2,e3⟩ hA hx2
       clear hx;have hx:=hx2;clear hx2;unfold dead_Lay_v3_r1 at hx
       obtain⟨j2,rfl,j3⟩:=hA
       refine⟨[(3,.pointer (some ⟨d0,0,none⟩)),(6,.pointer (some ⟨d1,0,none⟩)),(7,.pointer (some ⟨a6,0,none⟩)),(8,.pointer (some ⟨a7,0,none⟩)),(9,.pointer (some ⟨a8,0,none⟩)),(10,.pointer (some ⟨f6,0,none⟩)),(11,.pointer (some ⟨f7,0,none⟩)),(12,.slice j2 d8.length d8.length)],λj4 f8=> ?_,λj4 f8=> ?_⟩
       ·
        refine Run.cnz [] 3 ZB rfl ?_
        exact JN.assigned ⟨rfl,rfl,rfl,rfl,rfl,rfl,rfl,rfl,trivial⟩
       ·
        refine Run.cl [9] 6 ZB rfl ?_
        obtain⟨m,j5,hx⟩:=ZM hx
        refine ZQ (vs:=[_]) (args:=[_,_,_,_,_,_]) (K:=[_,_,_,_,_,_]) (rst:=[_,_,_,_]) E22 rfl rfl rfl (ZL 0 rfl (ZL 4 rfl (ZL 0 rfl (ZL 2 rfl (ZL 0 rfl (ZL 0 rfl ZH)))))) (dead_Lay_1_ok d8 d.1 d.2.2.2.2.1 d.2.1 d.2.2.2.1 d.2.2.1 _ j3 d9 e0 e1 (ZX (Nat.zero_le _) (ZZ RInt.const e2)) _ j5) rfl (λr4 r5 a0 j6 e4 f9=> ?_)
        obtain⟨j7,j8,j9,k0,k1,k2,r6,k3,k4,k5,r7,e5,e6,e7,g0,rfl,rfl,e8,e9,k6,f0,k7,q,-⟩:=j6
        replace e9:=(RowOf.base (RowOf.mono R_Write.mono (New.call (j.trans k)) e9) (λp hp=>(f9 p (Zc 1 rfl hp)).resolve_left (k6 p hp)))
        replace f0:=(RowOf.base (ZZ (H2:=New H a0) RU8.const f0) (λp hp=>(f9 p (Zc 2 rfl hp)).resolve_left (k7 p hp)))
        replace q:=(ZZ (H2:=New H a0) RInt.const q)
        replace e8:=IsSlice.mono (RSl.mono RU8.mono) (New.call (j.trans k)) e8
        refine Run.lcz_s [5] 8 ZB rfl (ZK hx rfl (λk8 hx=> ?_) (λk8 hx=> ?_))
        ·
         refine JC.seq (JC.drawB (so:=[(_,[]),(_,[]),(_,[]),(_,[]),(_,[4]),(_,[6]),(_,[5]),(_,[]),(_,[]),(_,[]),(_,[3]),(_,[])]) 7 rfl Mixed ⟨by kernel_rfl,by kernel_rfl⟩ (kept0 [0,1,2,3,4,5,6,7,8,9,10,11] rfl) ?_)
         refine JB.run 2 [0,1] [] ZB rfl ?_
         refine JB.val (i:=2) [6] rfl (R.ldo 4 S36 rfl rfl rfl) ?_
         refine JB.one (i:=3) (by kernel_rfl) ?_
         refine JOB.step rfl trivial rfl (λK hK=>Run.lnz [10] 2 ZB rfl (hK _ _ _ (Hle.refl _) (kept1 [false,false,false,false,false,false,false,false,false,false,true,false] [0,1,2,3,4,5,6,7,8,9,0,11] (by kernel_rfl) rfl) ?_))
         refine JB.one (i:=4) (by kernel_rfl) ?_
         refine JOB.step rfl trivial rfl (λK hK=>Run.lnz [4] 2 ZB rfl (hK _ _ _ (Hle.refl _) (kept1 [false,false,false,false,true,false,false,false,false,false,true,false] [0,1,2,3,0,5,6,7,8,9,0,11] (by kernel_rfl) rfl) ?_))
         refine JB.one (i:=5) (by kernel_rfl) ?_
         refine JOB.step rfl trivial rfl (λK hK=>Run.lnz [6] 2 ZB rfl (hK _ _ _ (Hle.refl _) (kept1 [false,false,false,false,true,false,true,false,false,false,true,false] [0,1,2,3,0,5,0,7,8,9,0,11] (by kernel_rfl) rfl) ?_))
         refine JB.one (i:=6) (by kernel_rfl) ?_
         refine JOB.step rfl trivial rfl (λK hK=>Run.lnz [5] 2 ZB rfl (hK _ _ _ (Hle.refl _) (kept1 [false,false,false,false,true,true,true,false,false,false,true,false] [0,1,2,3,0,0,0,7,8,9,0,11] (by kernel_rfl) rfl) ?_))
         refine JB.doneN (by kernel_rfl) ?_
         refine Run.nnz_sk [] 3 ZB rfl (JN.blkR ?_)
         obtain rfl:=Option.some.inj hx
         refine JN.forget 11 (JN.forget 9 (JN.forget 8 (JN.forget 7 (JN.forget 3 (JN.forget 2 (JN.forget 1 (JN.forget 0 (ZC 2 rfl (ZC 1 rfl (ZC 3 rfl (ZC 3 rfl ?_)))))))))))
         exact JN.rR ⟨rfl,m.2.2.2.1,rfl,a0,rfl,rfl,((k.trans e4))⟩
        ·
         refine Run.clz_s [8,4] 5 ZB rfl (JL.bslF (HF:=(New H a0)) (R:=R_Ptr) (ls:=[m.2.2.1]) (vs:=[.agg #[.int .i64 m.2.2.1.At,.int .u32 (m.2.2.1.Birth.toNat:Int),.int .u32 (m.2.2.1.Iv.toNat:Int),.int .u32 (m.2.2.1.Tag.toNat:Int),.int .u32 (m.2.2.1.Sum.toNat:Int)]]) U30 I32 rfl rfl (⟨_,_,rfl,rfl,rfl,rfl⟩) R_Ptr.one rfl rfl rfl (by simp[maxLen]) rfl (λr8 k9 v=> ?_))
         obtain⟨l0,l1,rfl⟩:=RowOf.val v
         obtain⟨l2,l3,l4,hx⟩:=app_some hx
         refine JL.appF (HF:=(New H a0)) 10 U30 I32 rfl rfl (e3.mono R_Ptr.mono (New.mono e4)) rfl (SrcF.row 0 U30 rfl v) l3 l4 rfl f8 rfl (λr9 l5 g1=> ?_)
         obtain⟨l6,l7,rfl⟩:=RowOf.val g1
         refine Run.lnz_b [9] 3 ZB rfl ?_
         obtain rfl:=Option.some.inj hx
         refine JN.pub 2 R_Write.mono rfl (e9.old R_Write.mono) (Nat.le_refl _) (λl8 a1 l9=>JN.forget 2 (JN.pubN 2 RU8.mono rfl (ZZ (H2:=New f l8) RU8.const (f0.mono RU8.mono (New.mono a1))) (Nat.le_refl _) (λm0 a2 f1=> ?_)))
         replace f1:=IsSlice.mono RU8.mono (New.call (j.trans k)) f1
         refine JN.forget 2 (JN.forget 0 (ZC 9 rfl (ZC 9 rfl (ZC 9 rfl (ZC 9 rfl (ZC 5 rfl (ZC 7 rfl (ZC 9 rfl (ZC 9 rfl (ZC 9 rfl (ZC 9 rfl ?_)))))))))))
         exact JN.rN ⟨m0,j7,j8,j9,k0,k1,k2,k3,k4,k5,e5,e6,e7,g0,l6,l2.length,l7,l5,rfl,rfl,((k.trans (e4.trans (a1.trans a2)))),((e8.mono (RSl.mono RU8.mono) (New.mono (a1.trans a2))).old (RSl.mono RU8.mono)),(l9.mono R_Write.mono a2),(f1.old RU8.mono),(q.mono RInt.mono (New.mono (a1.trans a2))),(g1.mono R_Ptr.mono (New.mono (a1.trans a2)))⟩
      ·
       rintro c6 d o g m1 htt ⟨f,a9,b0,b1,b2,b3,b4,b5,b6,b7,b8,b9,c0,c1,c2,c3,c4,c5,rfl,rfl,k,d9,e0,e1,e2,e3⟩ hle2
       subst htt;simp only[Sum.elim_inl]at hx
       refine Run.nl_bs [10,7] 7 ZB rfl (JL.pubN 8 R_Ptr.mono rfl e3 (Nat.le_refl _) (λs0 x m2=>JL.forget 8 ?_))
       obtain⟨s,m3,hx⟩:=ZM hx
       refine ZQ (vs:=[_]) (args:=[_,_,_,_,_,_]) (K:=[_,_,_,_,_,_]) (rst:=[_,_,_,_]) E22 rfl rfl rfl (ZL 1 rfl (ZL 5 rfl (ZL 1 rfl (ZL 3 rfl (ZL 1 rfl (ZL 1 rfl ZH)))))) (dead_Lay_1_ok d.2.2.2.2.2 d.1 d.2.2.2.2.1 d.2.1 d.2.2.2.1 d.2.2.1 _ (m2.old R_Ptr.mono) (d9.mono (RSl.mono RU8.mono) x) (e0.mono R_Write.mono x) (e1.mono RU8.mono x) (ZX (Nat.zero_le _) (ZZ RInt.const (e2.mono RInt.mono (New.mono x)))) _ m3) rfl (λs1 s2 g2 m4 s3 g3=> ?_)
       obtain⟨m5,m6,m7,e5,e6,e7,g0,m8,m9,n0,s4,l0,s5,l1,k9,rfl,rfl,f2,q,n1,f3,n2,v,-⟩:=m4
       replace q:=(RowOf.base (RowOf.mono R_Write.mono (New.call (j.trans (k.trans x))) q) (λp hp=>(g3 p (Zc 1 rfl hp)).resolve_left (n1 p hp)))
       replace f3:=(RowOf.base (ZZ (H2:=New H g2) RU8.const f3) (λp hp=>(g3 p (Zc 2 rfl hp)).resolve_left (n2 p hp)))
       replace v:=(ZZ (H2:=New H g2) RInt.const v)
       replace f2:=IsSlice.mono (RSl.mono RU8.mono) (New.call (j.trans (k.trans x))) f2
       refine Run.lcz_s [5] 8 ZB rfl (ZK hx rfl (λn3 hx=> ?_) (λn3 hx=> ?_))
       ·
        refine JC.seq (JC.drawB (so:=[(_,[]),(_,[]),(_,[]),(_,[]),(_,[4]),(_,[6]),(_,[5]),(_,[]),(_,[]),(_,[]),(_,[3]),(_,[])]) 7 rfl Mixed ⟨by kernel_rfl,by kernel_rfl⟩ (kept0 [0,1,2,3,4,5,6,7,8,9,10,11] rfl) ?_)
        refine JB.run 2 [0,1] [] ZB rfl ?_
        refine JB.val (i:=2) [6] rfl (R.ldo 4 S36 rfl rfl rfl) ?_
        refine JB.one (i:=3) (by kernel_rfl) ?_
        refine JOB.step rfl trivial rfl (λK hK=>Run.lnz [10] 2 ZB rfl (hK _ _ _ (Hle.refl _) (kept1 [false,false,false,false,false,false,false,false,false,false,true,false] [0,1,2,3,4,5,6,7,8,9,0,11] (by kernel_rfl) rfl) ?_))
        refine JB.one (i:=4) (by kernel_rfl) ?_
        refine JOB.step rfl trivial rfl (λK hK=>Run.lnz [4] 2 ZB rfl (hK _ _ _ (Hle.refl _) (kept1 [false,false,false,false,true,false,false,false,false,false,true,false] [0,1,2,3,0,5,6,7,8,9,0,11] (by kernel_rfl) rfl) ?_))
        refine JB.one (i:=5) (by kernel_rfl) ?_
        refine JOB.step rfl trivial rfl (λK hK=>Run.lnz [6] 2 ZB rfl (hK _ _ _ (Hle.refl _) (kept1 [false,false,false,false,true,false,true,false,false,false,true,false] [0,1,2,3,0,5,0,7,8,9,0,11] (by kernel_rfl) rfl) ?_))
        refine JB.one (i:=6) (by kernel_rfl) ?_
        refine JOB.step rfl trivial rfl (λK hK=>Run.lnz [5] 2 ZB rfl (hK _ _ _ (Hle.refl _) (kept1 [false,false,false,false,true,true,true,false,false,false,true,false] [0,1,2,3,0,0,0,7,8,9,0,11] (by kernel_rfl) rfl) ?_))
        refine JB.doneN (by kernel_rfl) ?_
        refine Run.nnz_sk [] 3 ZB rfl (ZO (ZO (ZO ?_)))
        exact JN.conCM (own2:=[_,_,_,_,_,_,_,_,_,_,_,_,_,_]) [c6] [12,7,9,8] [0,0,0] ZB (ZL 11 rfl ZH) ⟨rfl,rfl,rfl,rfl⟩ rfl rfl hx rfl ⟨IsSlice.nil _ _ _,⟨0,ZF _ _ _ _ _⟩,⟨0,ZF _ _ _ _ _⟩,⟨0,ZF _ _ _ _ _⟩,rfl⟩
       ·
        refine Run.cc_s [] 3 ZB rfl (JC.drawB (so:=[(_,[]),(_,[]),(_,[]),(_,[]),(_,[4]),(_,[6]),(_,[5]),(_,[]),(_,[]),(_,[]),(_,[3]),(_,[])]) 7 rfl Mixed ⟨by kernel_rfl,by kernel_rfl⟩ (kept0 [0,1,2,3,4,5,6,7,8,9,10,11] rfl) ?_)
        refine JB.val (i:=0) [] rfl (R.ldoN 0 (vs:=[.slice m5 m6 m7,.slice e5 e6 e7,.slice m8 m9 n0,.int .u32 (s.1.Epoch.toNat:Int),.int .u32 (s.1.Count.toNat:Int)]) S29 rfl rfl rfl rfl) ?_
        refine JB.val (i:=1) [4] rfl (R.ldoN 4 (vs:=[.int .i64 s.2.2.1.At,.int .u32 (s.2.2.1.Birth.toNat:Int),.int .u32 (s.2.2.1.Iv.toNat:Int),.int .u32 (s.2.2.1.Tag.toNat:Int),.int .u32 (s.2.2.1.Sum.toNat:Int)]) S32 rfl rfl rfl rfl) ?_
        refine JB.val (i:=2) [5] rfl (R.ldo 4 S35 rfl rfl rfl) ?_
        refine JB.one (i:=3) (by kernel_rfl) ?_
        refine JOB.step rfl trivial rfl (λK hK=>Run.lnz [10] 2 ZB rfl (hK _ _ _ (Hle.refl _) (kept1 [false,false,false,false,false,false,false,false,false,false,true,false] [0,1,2,3,4,5,6,7,8,9,0,11] (by kernel_rfl) rfl) ?_))
        refine JB.one (i:=4) (by kernel_rfl) ?_
        refine JOB.step rfl trivial rfl (λK hK=>Run.lnz [4] 2 ZB rfl (hK _ _ _ (Hle.refl _) (kept1 [false,false,false,false,true,false,false,false,false,false,true,false] [0,1,2,3,0,5,6,7,8,9,0,11] (by kernel_rfl) rfl) ?_))
        refine JB.one (i:=5) (by kernel_rfl) ?_
        refine JOB.step rfl trivial rfl (λK hK=>Run.lnz [6] 2 ZB rfl (hK _ _ _ (Hle.refl _) (kept1 [false,false,false,false,true,false,true,false,false,false,true,false] [0,1,2,3,0,5,0,7,8,9,0,11] (by kernel_rfl) rfl) ?_))
        refine JB.one (i:=6) (by kernel_rfl) ?_
        refine JOB.step rfl trivial rfl (λK hK=>Run.lnz [5] 2 ZB rfl (hK _ _ _ (Hle.refl _) (kept1 [false,false,false,false,true,true,true,false,false,false,true,false] [0,1,2,3,0,0,0,7,8,9,0,11] (by kernel_rfl) rfl) ?_))
        refine JB.doneN (by kernel_rfl) ?_
        refine Run.nnz_s [] 2 ZB rfl ?_
        exact JN.conCM (own2:=[_,_,_,_,_,_,_,_,_,_,_]) [c6] [9,4,6,5] [1,1,5] ZB (ZL 8 rfl ZH) ⟨rfl,rfl,rfl,rfl⟩ rfl rfl hx rfl ⟨f2,⟨_,q⟩,⟨_,f3⟩,⟨_,v⟩,rfl⟩
      ·
       rintro c6 c e o g m1 htt hX hle2
       rcases hX with⟨rfl,t_38e0,rfl,d7,rfl,rfl,s6⟩
       subst htt;simp only[Sum.elim_inl,Sum.elim_inr]at hx
       refine Run.cnz_bk [] 3 ZB rfl (ZO (ZO (ZO ?_)))
       exact JN.conCM (own2:=[_,_,_,_,_,_,_]) [c6] [4,5,6,3] [0,0,0] ZB (ZL 3 rfl ZH) ⟨rfl,rfl,rfl,rfl⟩ rfl rfl hx rfl ⟨IsSlice.nil _ _ _,⟨0,ZF _ _ _ _ _⟩,⟨0,ZF _ _ _ _ _⟩,⟨0,ZF _ _ _ _ _⟩,rfl⟩
theorem slices_Clone_byte_L_ok (b:List (List UInt8))(H:Heaplet){ao:Option Addr}{n cap:Nat}(hs:IsSlice H (RSl RU8 1) 1 (.slice ao n cap) b)(r:List (List UInt8))(hx:slices_Clone_byte_L b=some r):
  Does Tryz.prog 119 #[.slice ao n cap] [] H (λu K' H'=>∃ao0:Option Addr,∃n0:Nat,∃cap0:Nat,∃K0:Own,u=.slice ao0 n0 cap0∧K'= [K0]∧H=H'∧RowOf H' (RSl RU8 1) 0 26 1 (.slice ao0 n0 cap0) r K0∧(∀p∈K0,p.1∉ids (List.flatten []))∧True):=by
 rw[slices_Clone_byte_L.eq_1]at hx
 obtain⟨q,hq,hl,hx⟩:=app_some hx
 obtain rfl:=Option.some.inj hx
 refine Does.enter (vs:=[.slice ao n cap]) (l:=[(0,.slice ao n cap)]) Tryz.func119 rfl rfl ⟨rfl,trivial⟩ (λw=>Run.cl [] 9 ZB rfl (ZA rfl rfl (R.eqlNil U22 rfl rfl) (Run.lcz_s [] 2 ZB rfl ?_)))
 cases ao with
 |none=>
  have hp:=hs.none_nil
  subst hp
  simp only[List.append_nil]at hq
  subst hq
  refine Run.cnz_k [] 8 ZB rfl (ZO (ZU (vs:=[.slice none 0 0]) (K:=[_]) (rst:=[]) (.inl rfl) rfl rfl (Ze rfl rfl) (ZL 0 rfl ZH) ?_))
  exact⟨none,0,0,[],rfl,rfl,rfl,ZF _ _ _ _ _,(λp hp=>by cases hp),trivial⟩
 |some a=>
  refine Run.cl_s [] 5 ZB rfl (JL.bslF (HF:=H) (R:=(RSl RU8 1)) (ls:=[]) (vs:=[]) U22 I26 rfl rfl rfl RSl.one rfl rfl rfl (by simp[maxLen]) rfl (λv1 K1 h1=> ?_))
  obtain⟨ao1,cap1,rfl⟩:=RowOf.val h1
  refine ZA rfl rfl (R.move rfl) (JL.appF (HF:=H) 0 U22 I26 rfl rfl h1 rfl (SrcF.slice RSl.one U22 (Hle.refl _) hs) hq hl rfl (Nat.le_refl _) rfl (λv2 K2 h2=> ?_))
  obtain⟨ao2,cap2,rfl⟩:=RowOf.val h2
  refine Run.lnz_s [] 4 ZB rfl (ZU (vs:=[.slice ao2 _ cap2]) (K:=[_]) (rst:=[]) (.inl rfl) rfl rfl (Ze rfl rfl) (ZL 0 rfl ZH) ?_)
  exact⟨_,_,_,_,rfl,rfl,rfl,ZX (Nat.zero_le _) h2,(λp hp hm=>by cases hm),trivial⟩
theorem dev_all_ok{a}:Con Tryz.prog 99 true ([.i a]) (dev_all a) (λr=> [.b r]):=by
 intro H r hx
 refine Does.enterC Tryz.func99 rfl rfl ?_
 intro w
 unfold dev_all at hx
 refine Run.cnz [] 11 ZB rfl ?_
 exact ZJ [] rfl hx rfl rfl
theorem dev_lasts_ok (y:Disk)(H:Heaplet){m:Value}{c:Option Addr}{d:Nat}{f:Nat}(h:IsSlice H R_Write 2 (.slice c d f) y.Waits)(r:(List (Int×Write)))(hx:dev_lasts y=some r):
  Does Tryz.prog 120 #[.agg #[m,.slice c d f],.func (.func 99) #[] #[]] [] H (λu K' H'=>∃ao0:Option Addr,∃n0:Nat,∃cap0:Nat,∃K0:Own,u=.map (some n0)∧K'= [K0]∧H=H'∧MapOf H R_Write 0 n0 r K0∧(∀p∈K0,p.1∉ids (List.flatten []))∧True):=by
 refine Does.enterL (vs:=[.agg #[m,.slice c d f],.func (.func 99) #[] #[]]) (l:=[(0,.agg #[m,.slice c d f]),(1,.func (.func 99) #[] #[])]) Tryz.func120 rfl rfl ⟨rfl,rfl,trivial⟩ (λw hlt=> ?_)
 unfold dev_lasts at hx
 refine Run.cl [] 2 ZB rfl (Zf rfl rfl (λb2 b3=>Run.ll_s [] 5 ZB rfl (JL.mkMapF (New H H) R_Write rfl (λi a1 a2=>Run.ll_s [1] 8 ZB rfl (ZA rfl rfl (ZN U23 rfl (IsSlice.long h)) (Run.lcz_s [] 3 ZB rfl (Za hx [5] [] rfl rfl (λq l0 o0 l o g=>∃j:Own,l=l0∧o=j::o0∧H=g∧MapOf H R_Write w.heap.size i q j) (λq b4 hx=> ?_) (λq b5 hx=> ?_))))))))
 ·
  rintro _ _ _ ⟨j,rfl,rfl,rfl,z⟩
  refine Run.nnz_s [] 8 ZB rfl (ZU (vs:=[.map (some i)]) (K:=[_]) (rst:=[]) (.inl rfl) rfl rfl (Ze rfl rfl) (ZL 0 rfl ZH) ?_)
  obtain rfl:=Option.some.inj hx
  exact⟨none,i,0,j,rfl,rfl,rfl,(MapOf.weak (Nat.zero_le _) z),(newM_ids z hlt),trivial⟩
 ·
  refine JC.block (JC.forget 1 (Zi [1,5,10,11] [] rfl rfl (λl0 o0 a l o g=>∃b:Own,l=(12,.int .i64 ((a.2:Nat):Int))::l0∧o=b::o0∧H=g∧MapOf H R_Write w.heap.size i a.1 b) hx ⟨a1,rfl,rfl,rfl,(a2.old R_Write.mono)⟩ rfl ?_))
  ·
   rintro b6 a _ _ _ ⟨b,rfl,rfl,rfl,s⟩ b7 hx v
   unfold dev_lasts_l1 at hx
   refine Run.cc [] 6 ZB rfl (ZK hx rfl (λx hx=> ?_) (λx hx=> ?_))
   ·
    refine Run.cl_s [] 7 ZB rfl ?_
    obtain⟨k,a3,hx⟩:=ZS hx
    obtain⟨b8,b9,c0,a4,a5,c1,a6⟩:=IsSlice.elem h a3
    obtain⟨c2,rfl,a0⟩:=a5
    obtain⟨a7,a8,rfl⟩:=IsSlice.val a0
    refine ZA rfl rfl (R.ix U23 S78 rfl rfl a4) (ZA rfl rfl (R.ldHF 0 S78 rfl a6 rfl rfl) (JL.alloc Z78 rfl (λc3 c4=>Run.ll_s [0] 8 ZB rfl (ZV hx E99 rfl dev_all_ok rfl trivial ?_))))
    intro c5 c6 hx
    refine Run.lcz_s [] 2 ZB rfl (ZK hx rfl (λa9 hx=> ?_) (λa9 hx=> ?_))
    ·
     refine Run.clz [0,0] 5 ZB rfl (JL.mapUpdF 1 (cs:=[.int .i64 k.At,.slice a7 k.Data.length a8]) U160 U3 rfl rfl rfl rfl s ⟨_,rfl,a0⟩ (λb0 b1=>Run.llz_bs [] 4 ZB rfl (ZA rfl rfl (R.inc rfl rfl (of_decide_eq_true x) (IsSlice.lenI h)) (Run.lnz [] 2 ZB rfl ?_))))
     replace hx:=Zb v hx
     refine JN.forget 0 ?_
     exact ZE ⟨((putM a.1 k.At k),a.2+1),⟨b0,rfl,rfl,rfl,b1⟩,hx⟩ rfl rfl rfl
    ·
     refine Run.clz_bs [] 4 ZB rfl (ZA rfl rfl (R.inc rfl rfl (of_decide_eq_true x) (IsSlice.lenI h)) (Run.lnz [] 2 ZB rfl ?_))
     replace hx:=Zb v hx
     refine JN.forget 0 ?_
     exact ZE ⟨(a.1,a.2+1),⟨b,rfl,rfl,rfl,s⟩,hx⟩ rfl rfl rfl
   ·
    refine Run.cnz_k [] 2 ZB rfl ?_
    obtain rfl:=ZP v hx
    refine Run.nnz_kb [] 2 ZB rfl ?_
    exact ZE ⟨b,rfl,rfl,rfl,s⟩ rfl rfl rfl
theorem dev_left_ok (s:Disk)(H:Heaplet){a4:Option Addr}{a5:Nat}{a6:Nat}{c:Option Addr}{d:Nat}{m:Nat}(b5:IsSlice H (RSl RU8 1) 1 (.slice a4 a5 a6) s.Blocks)(e9:IsSlice H R_Write 2 (.slice c d m) s.Waits)(r:Disk)(hx:dev_left s=some r):
  Does Tryz.prog 98 #[.agg #[.slice a4 a5 a6,.slice c d m],.func (.func 99) #[] #[]] [] H (λu K' H'=>∃ao0:Option Addr,∃n0:Nat,∃cap0:Nat,∃K0:Own,∃ao1:Option Addr,∃n1:Nat,∃cap1:Nat,∃K1:Own,u=.agg #[.slice ao0 n0 cap0,.slice ao1 n1 cap1]∧K'= [K0,K1]∧Pcs 0 5 26 (.slice ao0 n0 cap0) r.Blocks K0∧(∀p∈K0,p.1∉ids (List.flatten []))∧RowOf (New H H') R_Write 0 78 2 (.slice ao1 n1 cap1) r.Waits K1∧(∀p∈K1,p.1∉ids (List.flatten []))∧True):=by
 refine Does.enterL (vs:=[.agg #[.slice a4 a5 a6,.slice c d m],.func (.func 99) #[] #[]]) (l:=[(0,.agg #[.slice a4 a5 a6,.slice c d m]),(1,.func (.func 99) #[] #[])]) Tryz.func98 rfl rfl ⟨rfl,rfl,trivial⟩ (λw hlt=> ?_)
 unfold dev_left at hx
 refine Run.cl [] 2 ZB rfl (Zf rfl rfl (λb6 j2=>JL.alloc Z25 rfl (λd3 j3=>Run.lc_s [] 3 ZB rfl (Za hx [1,2,4] [0] rfl rfl (λv l0 o0 l o g=>∃a0:Option Addr,∃a1:Nat,∃a2:Nat,∃a7:Own,l=l0∧o= [(b6,.cells #[.slice a0 a1 a2,.slice c d m] 25 (0,0))]::a7::o0∧H=g∧RowOf H (RSl RU8 1) w.heap.size 26 1 (.slice a0 a1 a2) v a7) (λv j4 hx=> ?_) (λv j5 hx=> ?_)))))
 ·
  rintro _ _ _ ⟨a0,a1,a2,a7,rfl,rfl,rfl,f0⟩
  refine Run.nl_s [0] 6 ZB rfl ?_
  obtain⟨x,f1,hx⟩:=ZM hx
  refine ZQ (vs:=[_,_]) (args:=[_,_]) (K:=[]) (rst:=[_,_,_]) E120 rfl rfl rfl ZH (dev_lasts_ok (Disk.mk v s.Waits) _ e9 _ f1) rfl (λj6 j7 j8 f2 j9 f3=> ?_)
  obtain⟨k0,d4,k1,k2,rfl,rfl,rfl,b7,f4,-⟩:=f2
  replace b7:=(MapOf.base b7 (λp hp=>(f3 p (Zc 0 rfl hp)).resolve_left (f4 p hp)))
  refine JL.rangeMapF 0 U160 rfl rfl b7 rfl (λd5 f5 f6 a8=> ?_)
  subst f6
  refine Run.lcz_s [] 2 ZB rfl ?_
  obtain⟨f7,f8,b8,hx⟩:=layR_some hx
  refine JC.block (JC.loop (ι:=Array Nat×(List (List UInt8))×Own) (λ_=> [(2,.pointer (some ⟨b6,0,none⟩)),(4,.pointer (some ⟨d3,0,none⟩)),(16,.pointer (some ⟨d5,0,none⟩))]) (λi=> [[(d5,.mapIter (some d4) (x).length i.1 (x).length)],[(d4,.map f5 (x).length)],[(b6,.cells #[.slice a0 a1 a2,.slice c d m] 25 (0,0))],i.2.2,[(d3,.cells #[.slice none 0 0,.slice none 0 0] 25 (0,0))]]) (λ_=>H) (λi=>i.1.toList.Nodup∧(∀q∈i.1.toList,q<(x).length)∧Laid (λy:Write=>y.Data) v x i.1.toList i.2.1∧RowOf H (RSl RU8 1) w.heap.size 26 1 (.slice a0 a1 a2) i.2.1 i.2.2) (λi=>(x).length-i.1.size) (#[],v,a7) ⟨by simp,by simp,Laid.start _ _ _,f0⟩ ⟨rfl,rfl,rfl,trivial⟩ rfl rfl ?_)
  rintro⟨d6,a3,f9⟩ ⟨b9,c0,a9,b0⟩
  dsimp only at b9 c0 a9 b0⊢
  refine Run.cl [] 2 ZB rfl (JL.nextMap 0 1 rfl rfl rfl a8 (Nat.le_refl _) rfl (λg0=> ?_) (λg1 z b1 k3 b2 g2 d7 g3=> ?_))
  ·
   refine Run.lnz_sk [] 8 ZB rfl (JN.exitSame ?_)
   obtain rfl:=f8.trans (a9.full a8.nodup b8 g0).symm
   refine JN.forget 1 (JN.forget 0 (Run.nl_s [0,0] 10 ZB rfl (JL.pub 1 (RSl.mono RU8.mono) rfl b0 (Nat.le_refl _) (λk4 g4 g5=>JL.forget 1 ?_))))
   obtain⟨k5,g6,hx⟩:=ZM hx
   refine ZQ (vs:=[_]) (args:=[_]) (K:=[]) (rst:=[_,_]) E41 rfl rfl rfl ZH (dev_Twin_ok (Disk.mk f7 ([]:List Write)) _ g5 (IsSlice.nil _ _ _) _ g6) rfl (λk6 k7 k8 g7 k9 d8=> ?_)
   obtain⟨d9,e0,e1,g8,e2,e3,e4,g9,rfl,rfl,b3,h0,b4,h1,-⟩:=g7
   replace b3:=(Pcs.base b3 (λp hp=>(d8 p (Zc 0 rfl hp)).resolve_left (h0 p hp)))
   replace b4:=(RowOf.base (RowOf.mono R_Write.mono (New.call g4) b4) (λp hp=>(d8 p (Zc 1 rfl hp)).resolve_left (h1 p hp)))
   refine Run.lnz_s [3] 4 ZB rfl (ZU (vs:=[.agg #[.slice d9 e0 e1,.slice e2 e3 e4]]) (K:=[_,_]) (rst:=[_,_]) (.inl rfl) rfl rfl (Res.cellN 3 rfl rfl S25 rfl) (ZL 0 rfl (ZL 0 rfl ZH)) ?_)
   obtain rfl:=Option.some.inj hx
   exact⟨d9,e0,e1,g8,e2,e3,e4,g9,rfl,rfl,(Pcs.weak (Nat.zero_le _) b3),(newP_ids b3 hlt),(ZX (Nat.zero_le _) b4),(new_ids b4 hlt),trivial⟩
  ·
   have h2:=seen_more b9 c0 (List.getElem?_eq_some_iff.1 b2).1 d7
   refine Run.ll_s [] 10 ZB rfl ?_
   obtain⟨l1,rfl,e5⟩:=g3
   obtain⟨l2,l3,rfl⟩:=IsSlice.val e5
   refine JL.entryMap 0 1 rfl rfl rfl a8 g2 rfl ?_
   have e6:=b8 _ (List.mem_of_getElem? b2)
   rw[←a9.len]at e6
   clear hx
   have hx:(chk (0≤z∧z.toNat<a3.length)<|setI a3 z b1.Data λe7=>some e7)=some (a3.set z.toNat b1.Data):=lay_step e6
   refine Run.llz [] 2 ZB rfl (JL.alloc Z78 rfl (λl4 l5=>Run.llz_s [0,3,0] 10 ZB rfl ?_))
   obtain⟨h3,hx⟩:=chk_some hx
   obtain⟨l6,l7,e8⟩:=RowOf.place b0 h3
   refine ZA rfl rfl (R.ix U22 S26 rfl rfl e8) ?_
   obtain⟨e7,h4,l8,hx⟩:=setI_some hx
   refine JL.stE 4 (k:=z) (y:=b1.Data) S26 rfl b0 rfl e8 rfl rfl (⟨_,rfl,e5⟩) RSl.one h4 (λh5 h6 l9=>Run.lnz_b [] 2 ZB rfl ?_)
   obtain rfl:=Option.some.inj hx
   refine JN.forget 0 (ZC 4 rfl (ZC 4 rfl (ZC 4 rfl (ZC 4 rfl (ZC 4 rfl ?_)))))
   exact JN.again (i:=(d6,a3,f9)) (d6.push g1,a3.set z.toNat b1.Data,h5) ⟨by simp only[Array.toList_push];exact List.nodup_append.2 ⟨b9,by simp,λa ha b hb e=>by simp at hb;subst hb;subst e;exact d7 ha⟩,by simp only[Array.toList_push];intro q hq;rcases List.mem_append.1 hq with h|h;exact c0 q h;simp at h;subst h;exact(List.getElem?_eq_some_iff.1 b2).1,a9.step (f:=(λy:Write=>y.Data)) a8.nodup b8 b2 _ (λq=>by simp),h6⟩ (by simp only[Array.size_push];simp only[Array.length_toList]at h2;omega) ⟨rfl,rfl,rfl,trivial⟩ rfl rfl
 ·
  refine JC.draw (so:=[_]) 7 rfl Mixed ⟨⟨0,rfl⟩,trivial⟩ (JA.val ⟨by kernel_rfl,by kernel_rfl⟩ (ZI _) (i:=0) rfl ⟨by kernel_rfl,by kernel_rfl,rfl⟩ trivial (ZG (Hle.refl _) ⟨⟨0,rfl⟩,trivial⟩) (R.fa F25_0 rfl) rfl (JA.val ⟨by kernel_rfl,by kernel_rfl⟩ (ZI _) (i:=3) rfl ⟨by kernel_rfl,by kernel_rfl,rfl⟩ trivial (ZG (Hle.refl _) ⟨⟨0,rfl⟩,trivial⟩) (R.fa F25_1 rfl) rfl (JA.two (i:=1) (j:=4) (by kernel_rfl) ?_ ?_)))
  ·
   refine JO.step rfl trivial rfl (λK hK=>Run.lnz [1] 2 ZB rfl (hK _ _ _ (ZG (Hle.refl _) ⟨⟨0,rfl⟩,trivial⟩) (JA.two (i:=2) (j:=4) (by kernel_rfl) ?_ ?_)))
   ·
    refine JO.step rfl trivial rfl (λK hK=> ?_)
    obtain⟨m0,h7,hx⟩:=ZM hx
    refine ZQ (vs:=[_]) (args:=[_]) (K:=[]) (rst:=[_,_]) E119 rfl rfl rfl ZH (slices_Clone_byte_L_ok s.Blocks _ b5 _ h7) rfl (λm1 m2 m3 h8 m4 h9=> ?_)
    obtain⟨c1,c2,c3,i0,rfl,rfl,rfl,c4,i1,-⟩:=h8
    replace c4:=(RowOf.base c4 (λp hp=>(h9 p (Zc 0 rfl hp)).resolve_left (i1 p hp)))
    refine ZW (hK _ _ _ (ZG (Hle.refl _) ⟨⟨1,rfl⟩,trivial⟩) (JA.one (i:=4) (by kernel_rfl) (JO.step rfl trivial rfl (λK hK=> ?_))))
    refine Run.lnz [2] 2 ZB rfl (hK _ _ _ (ZG (Hle.refl _) ⟨⟨1,rfl⟩,trivial⟩) (JA.val ⟨by kernel_rfl,by kernel_rfl⟩ (ZI _) (i:=5) rfl ⟨by kernel_rfl,by kernel_rfl,rfl⟩ trivial (ZG (Hle.refl _) ⟨⟨1,rfl⟩,trivial⟩) (R.bldP (vs:=[(0,.slice c1 c2 c3),(1,.slice c d m)]) (cs:=[.slice c1 c2 c3,.slice c d m]) Z25 B25 rfl rfl rfl) rfl (JA.one (i:=6) (by kernel_rfl) (JO.step rfl trivial rfl (λK hK=> ?_)))))
    refine Run.lnz [2] 2 ZB rfl (hK _ _ _ (ZG (Hle.refl _) ⟨⟨1,rfl⟩,trivial⟩) (JA.doneN (by kernel_rfl) ?_))
    obtain rfl:=Option.some.inj hx
    refine ZC 1 rfl (ZC 1 rfl (ZC 2 rfl ?_))
    exact ZE ⟨c1,c2,c3,i0,rfl,rfl,rfl,c4⟩ rfl rfl rfl
   ·
    refine JO.step rfl trivial rfl (λK hK=>Run.lnz [1] 2 ZB rfl (hK _ _ _ (ZG (Hle.refl _) ⟨⟨0,rfl⟩,trivial⟩) (JA.one (i:=2) (by kernel_rfl) (JO.step rfl trivial rfl (λK hK=> ?_)))))
    obtain⟨m5,i2,hx⟩:=ZM hx
    refine ZQ (vs:=[_]) (args:=[_]) (K:=[]) (rst:=[_,_]) E119 rfl rfl rfl ZH (slices_Clone_byte_L_ok s.Blocks _ b5 _ i2) rfl (λm6 m7 m8 i3 m9 i4=> ?_)
    obtain⟨c5,c6,c7,i5,rfl,rfl,rfl,c8,i6,-⟩:=i3
    replace c8:=(RowOf.base c8 (λp hp=>(i4 p (Zc 0 rfl hp)).resolve_left (i6 p hp)))
    refine ZW (hK _ _ _ (ZG (Hle.refl _) ⟨⟨1,rfl⟩,trivial⟩) (JA.val ⟨by kernel_rfl,by kernel_rfl⟩ (ZI _) (i:=5) rfl ⟨by kernel_rfl,by kernel_rfl,rfl⟩ trivial (ZG (Hle.refl _) ⟨⟨1,rfl⟩,trivial⟩) (R.bldP (vs:=[(0,.slice c5 c6 c7),(1,.slice c d m)]) (cs:=[.slice c5 c6 c7,.slice c d m]) Z25 B25 rfl rfl rfl) rfl (JA.one (i:=6) (by kernel_rfl) (JO.step rfl trivial rfl (λK hK=> ?_)))))
    refine Run.lnz [2] 2 ZB rfl (hK _ _ _ (ZG (Hle.refl _) ⟨⟨1,rfl⟩,trivial⟩) (JA.doneN (by kernel_rfl) ?_))
    obtain rfl:=Option.some.inj hx
    refine ZC 1 rfl (ZC 1 rfl (ZC 2 rfl ?_))
    exact ZE ⟨c5,c6,c7,i5,rfl,rfl,rfl,c8⟩ rfl rfl rfl
  ·
   refine JO.step rfl trivial rfl (λK hK=>Run.lnz [1] 2 ZB rfl (hK _ _ _ (ZG (Hle.refl _) ⟨⟨0,rfl⟩,trivial⟩) (JA.one (i:=1) (by kernel_rfl) (JO.step rfl trivial rfl (λK hK=> ?_)))))
   refine Run.lnz [1] 2 ZB rfl (hK _ _ _ (ZG (Hle.refl _) ⟨⟨0,rfl⟩,trivial⟩) (JA.one (i:=2) (by kernel_rfl) (JO.step rfl trivial rfl (λK hK=> ?_))))
   obtain⟨n2,i7,hx⟩:=ZM hx
   refine ZQ (vs:=[_]) (args:=[_]) (K:=[]) (rst:=[_,_]) E119 rfl rfl rfl ZH (slices_Clone_byte_L_ok s.Blocks _ b5 _ i7) rfl (λn3 n4 n5 i8 n6 i9=> ?_)
   obtain⟨c9,d0,d1,j0,rfl,rfl,rfl,d2,j1,-⟩:=i8
   replace d2:=(RowOf.base d2 (λp hp=>(i9 p (Zc 0 rfl hp)).resolve_left (j1 p hp)))
   refine ZW (hK _ _ _ (ZG (Hle.refl _) ⟨⟨1,rfl⟩,trivial⟩) (JA.val ⟨by kernel_rfl,by kernel_rfl⟩ (ZI _) (i:=5) rfl ⟨by kernel_rfl,by kernel_rfl,rfl⟩ trivial (ZG (Hle.refl _) ⟨⟨1,rfl⟩,trivial⟩) (R.bldP (vs:=[(0,.slice c9 d0 d1),(1,.slice c d m)]) (cs:=[.slice c9 d0 d1,.slice c d m]) Z25 B25 rfl rfl rfl) rfl (JA.one (i:=6) (by kernel_rfl) (JO.step rfl trivial rfl (λK hK=> ?_)))))
   refine Run.lnz [2] 2 ZB rfl (hK _ _ _ (ZG (Hle.refl _) ⟨⟨1,rfl⟩,trivial⟩) (JA.doneN (by kernel_rfl) ?_))
   obtain rfl:=Option.some.inj hx
   refine ZC 1 rfl (ZC 1 rfl (ZC 2 rfl ?_))
   exact ZE ⟨c9,d0,d1,j0,rfl,rfl,rfl,d2⟩ rfl rfl rfl
theorem dev_Read_1_ok (j:Disk)(H:Heaplet){a:Nat}{b:Option Addr}{c:Nat}{d:Nat}{f:Option Addr}{h:Nat}{i:Nat}(q:IsSlice H (RSl RU8 1) 1 (.slice b c d) j.Blocks)(s:IsSlice H R_Write 2 (.slice f h i) j.Waits)(r:Disk×Disk)(hx:dev_Read_1 j=some r):
  Does Tryz.prog 97 #[.pointer (some ⟨a,0,none⟩)] [[(a,.cells #[.slice b c d,.slice f h i] 25 (0,0))]] H (λu K' H'=>∃ao0:Option Addr,∃n0:Nat,∃cap0:Nat,∃ao1:Option Addr,∃n1:Nat,∃cap1:Nat,∃ao2:Option Addr,∃n2:Nat,∃cap2:Nat,∃K2:Own,∃ao3:Option Addr,∃n3:Nat,∃cap3:Nat,∃K3:Own,u=.agg #[.slice ao2 n2 cap2,.slice ao3 n3 cap3]∧K'= [[(a,.cells #[.slice ao0 n0 cap0,.slice ao1 n1 cap1] 25 (0,0))],K2,K3]∧IsSlice H' (RSl RU8 1) 1 (.slice ao0 n0 cap0) r.2.Blocks∧IsSlice H' R_Write 2 (.slice ao1 n1 cap1) r.2.Waits∧Pcs 0 5 26 (.slice ao2 n2 cap2) r.1.Blocks K2∧(∀p∈K2,p.1∉ids (List.flatten [[(a,.cells #[.slice b c d,.slice f h i] 25 (0,0))]]))∧RowOf (New H H') R_Write 0 78 2 (.slice ao3 n3 cap3) r.1.Waits K3∧(∀p∈K3,p.1∉ids (List.flatten [[(a,.cells #[.slice b c d,.slice f h i] 25 (0,0))]]))∧True):=by
 refine Does.enterL (vs:=[.pointer (some ⟨a,0,none⟩)]) (l:=[(0,.pointer (some ⟨a,0,none⟩))]) Tryz.func97 rfl rfl ⟨rfl,trivial⟩ (λw hlt=> ?_)
 unfold dev_Read_1 at hx
 refine Run.cl [] 2 ZB rfl (JL.alloc Z25 rfl (λb0 b1=>Run.ll_s [1] 5 ZB rfl ?_))
 obtain⟨b2,a4,hx⟩:=ZM hx
 refine ZQ (vs:=[_,_]) (args:=[_,_]) (K:=[]) (rst:=[_,_]) E98 rfl rfl rfl ZH (dev_left_ok j _ q s _ a4) rfl (λb3 b4 b5 a5 v x=> ?_)
 obtain⟨y,z,a0,a6,a1,a2,a3,a7,rfl,rfl,k,a8,m,a9,-⟩:=a5
 replace k:=(Pcs.base k (λp hp=>(x p (Zc 0 rfl hp)).resolve_left (a8 p hp)))
 replace m:=(RowOf.base (RowOf.mono R_Write.mono (New.call (Hle.refl _)) m) (λp hp=>(x p (Zc 1 rfl hp)).resolve_left (a9 p hp)))
 refine Run.lnz_s [2] 4 ZB rfl (ZU (vs:=[.agg #[.slice y z a0,.slice a1 a2 a3]]) (K:=[_,_,_]) (rst:=[_]) (.inl rfl) rfl rfl (Res.cellN 2 rfl rfl S25 rfl) (ZL 3 rfl (ZL 0 rfl (ZL 0 rfl ZH))) ?_)
 obtain rfl:=Option.some.inj hx
 exact⟨b,c,d,f,h,i,y,z,a0,a6,a1,a2,a3,a7,rfl,rfl,(q.mono (RSl.mono RU8.mono) v),(s.mono R_Write.mono v),(Pcs.weak (Nat.zero_le _) k),(newP_ids k hlt),(ZX (Nat.zero_le _) m),(new_ids m hlt),trivial⟩
theorem dev_guarded_v2_ok (a1:Disk)(j:Bool)(k:Disk)(H:Heaplet){m:Option Addr}{q:Nat}{s:Nat}{v:Option Addr}{x:Nat}{y:Nat}{a:Nat}{b:Option Addr}{c:Nat}{d:Nat}{f:Option Addr}{h:Nat}{i:Nat}(b2:IsSlice H (RSl RU8 1) 1 (.slice m q s) a1.Blocks)(b3:IsSlice H R_Write 2 (.slice v x y) a1.Waits)(a2:IsSlice H (RSl RU8 1) 1 (.slice b c d) k.Blocks)(a3:IsSlice H R_Write 2 (.slice f h i) k.Waits)(r:Disk×Int×Disk)(hx:dev_guarded_v2 a1 j k=some r):
  Does Tryz.prog 96 #[.agg #[.slice m q s,.slice v x y],.bool j,.func (.func 97) #[] #[.pointer (some ⟨a,0,none⟩)]] [[(a,.cells #[.slice b c d,.slice f h i] 25 (0,0))]] H (λu K' H'=>∃ao0:Option Addr,∃n0:Nat,∃cap0:Nat,∃ao1:Option Addr,∃n1:Nat,∃cap1:Nat,∃ao2:Option Addr,∃n2:Nat,∃cap2:Nat,∃ao3:Option Addr,∃n3:Nat,∃cap3:Nat,∃K3:Own,u=.tuple #[.agg #[.slice ao2 n2 cap2,.slice ao3 n3 cap3],.int .i64 r.2.1]∧K'= [[(a,.cells #[.slice ao0 n0 cap0,.slice ao1 n1 cap1] 25 (0,0))],K3]∧IsSlice H' (RSl RU8 1) 1 (.slice ao0 n0 cap0) r.2.2.Blocks∧IsSlice H' R_Write 2 (.slice ao1 n1 cap1) r.2.2.Waits∧IsSlice (New H H') (RSl RU8 1) 1 (.slice ao2 n2 cap2) r.1.Blocks∧RowOf (New H H') R_Write 0 78 2 (.slice ao3 n3 cap3) r.1.Waits K3∧(∀p∈K3,p.1∉ids (List.flatten [[(a,.cells #[.slice b c d,.slice f h i] 25 (0,0))]]))∧True):=by
 refine Does.enterL (vs:=[.agg #[.slice m q s,.slice v x y],.bool j,.func (.func 97) #[] #[.pointer (some ⟨a,0,none⟩)]]) (l:=[(0,.agg #[.slice m q s,.slice v x y]),(1,.bool j),(2,.func (.func 97) #[] #[.pointer (some ⟨a,0,none⟩)])]) Tryz.func96 rfl rfl ⟨rfl,rfl,rfl,trivial⟩ (λw hlt=> ?_)
 unfold dev_guarded_v2 at hx
 refine Run.cl [] 2 ZB rfl (Zf rfl rfl (λd1 d2=>JL.alloc Z25 rfl (λd3 d4=>Run.ll_s [1] 6 ZB rfl (ZV hx E38 rfl dev_Check_ok rfl ⟨b2,b3,trivial⟩ ?_))))
 intro b4 d5 hx
 refine Run.lc_s [] 12 ZB rfl (ZK hx rfl (λb5 hx=> ?_) (λb5 hx=> ?_))
 ·
  refine Run.cnz_bk [0] 11 ZB rfl (ZO (ZU (vs:=[.agg #[.slice none 0 0,.slice none 0 0],.int .i64 b4]) (K:=[_,_]) (rst:=[_,_]) (.inl rfl) rfl rfl (Res.cellN 1 rfl rfl S25 (Ze rfl rfl)) (ZL 3 rfl (ZL 0 rfl ZH)) ?_))
  obtain rfl:=Option.some.inj hx
  exact⟨b,c,d,f,h,i,none,0,0,none,0,0,[],rfl,rfl,a2,a3,(IsSlice.nil _ _ _),(ZF _ _ _ _ _),(λp hp=>by cases hp),trivial⟩
 ·
  refine Run.ccz [] 7 ZB rfl (ZK hx rfl (λb6 hx=> ?_) (λb6 hx=> ?_))
  ·
   refine Run.cnz_bk [0] 10 ZB rfl (ZO (ZU (vs:=[.agg #[.slice none 0 0,.slice none 0 0],.int .i64 2]) (K:=[_,_]) (rst:=[_,_]) (.inl rfl) rfl rfl (Res.cellN 1 rfl rfl S25 (Ze rfl rfl)) (ZL 3 rfl (ZL 0 rfl ZH)) ?_))
   obtain rfl:=Option.some.inj hx
   exact⟨b,c,d,f,h,i,none,0,0,none,0,0,[],rfl,rfl,a2,a3,(IsSlice.nil _ _ _),(ZF _ _ _ _ _),(λp hp=>by cases hp),trivial⟩
  ·
   refine Run.cl_bs [] 6 ZB rfl ?_
   obtain⟨d6,b7,hx⟩:=ZM hx
   refine ZQ (vs:=[]) (args:=[_]) (K:=[_]) (rst:=[_,_]) E97 rfl rfl rfl (ZL 2 rfl ZH) (dev_Read_1_ok k _ a2 a3 _ b7) rfl (λd7 d8 d9 b8 e0 a5=> ?_)
   obtain⟨b9,c0,c1,c2,c3,c4,a6,a7,a8,e1,a9,b0,b1,c5,rfl,rfl,c6,c7,a4,c8,z,c9,-⟩:=b8
   replace a4:=(Pcs.base a4 (λp hp=>(a5 p (Zc 1 rfl hp)).resolve_left (c8 p hp)))
   replace z:=(RowOf.base (RowOf.mono R_Write.mono (New.call (Hle.refl _)) z) (λp hp=>(a5 p (Zc 2 rfl hp)).resolve_left (c9 p hp)))
   refine Run.lnz_s [3] 5 ZB rfl (JN.pubPcs 1 rfl a4 (Nat.le_refl _) (λe2 a0 d0=>JN.forget 1 (ZU (vs:=[.agg #[.slice a6 a7 a8,.slice a9 b0 b1],.int .i64 0]) (K:=[_,_]) (rst:=[_,_]) (.inl rfl) rfl rfl (Res.cellN 2 rfl rfl S25 (Ze rfl rfl)) (ZL 0 rfl (ZL 0 rfl ZH)) ?_)))
   obtain rfl:=Option.some.inj hx
   exact⟨b9,c0,c1,c2,c3,c4,a6,a7,a8,a9,b0,b1,c5,rfl,rfl,(c6.mono (RSl.mono RU8.mono) a0),(c7.mono R_Write.mono a0),d0,(ZX (Nat.zero_le _) (z.mono R_Write.mono (New.mono a0))),(new_ids (z.mono R_Write.mono (New.mono a0)) hlt),trivial⟩
theorem dev_Read_ok{d b3}:Con Tryz.prog 75 false (sp_Disk false d++ [.i b3]) (dev_Read d b3) (λr=> [.sl true RU8 1 r.1,.i r.2]):=by
 intro H e0 e1 e2 k e3 e4 e5 m r hx
 refine Does.enterC Tryz.func75 rfl rfl ?_
 intro w
 unfold dev_Read at hx
 refine Run.cl [] 2 ZB rfl (Zf rfl rfl (λe6 e7=>Run.lc_s [] 5 ZB rfl (Za hx [1] [] rfl rfl (λf l0 o0 l o g=>∃h:Heaplet,∃q:Nat,∃s:Option Addr,∃v:Nat,∃x:Nat,∃y:Option Addr,∃z:Nat,∃a0:Nat,∃a1:Own,l=(6,.pointer (some ⟨q,0,none⟩))::(7,.int .i64 f.2.2)::l0∧o= [(q,.cells #[.slice s v x,.slice y z a0] 25 (0,0))]::a1::o0∧h=g∧Hle H h∧w.heap.size≤q∧IsSlice (New H h) (RSl RU8 1) 1 (.slice s v x) f.1∧RowOf (New H h) R_Write w.heap.size 78 2 (.slice y z a0) f.2.1 a1) (λf e8 hx=> ?_) (λf e9 hx=> ?_))))
 ·
  rintro _ _ _ ⟨h,q,s,v,x,y,z,a0,a1,rfl,rfl,rfl,f0,f1,b8,f2⟩
  refine Run.nc_s [] 8 ZB rfl (ZK hx rfl (λb9 hx=> ?_) (λb9 hx=> ?_))
  ·
   refine Run.cnz_k [] 9 ZB rfl ?_
   exact JN.con [] rfl hx rfl ⟨IsSlice.nil _ _ _,rfl⟩
  ·
   refine Run.cl_s [0] 7 ZB rfl ?_
   obtain⟨f3,c0,hx⟩:=ZS hx
   obtain⟨f4,f5,f6,c1,c2,f7,c3⟩:=IsSlice.elem b8 c0
   obtain⟨f8,rfl,b4⟩:=c2
   obtain⟨f9,g0,rfl⟩:=IsSlice.val b4
   refine ZA rfl rfl (R.ix U22 S26 rfl rfl c1) (ZA rfl rfl (R.ldH S26 rfl ((λj u e=>New.le _ _ _ _ _ (c3 j u e)) 0 _ rfl)) (Run.lnz_s [] 5 ZB rfl ?_))
   exact JN.con [] rfl hx rfl ⟨b4,rfl⟩
 ·
  refine JC.draw (so:=[]) 11 rfl Mixed trivial (JA.val ⟨by kernel_rfl,by kernel_rfl⟩ (ZI _) (i:=1) rfl ⟨by kernel_rfl,by kernel_rfl,rfl⟩ trivial (ZG (Hle.refl _) trivial) (R.move rfl) rfl (JA.val ⟨by kernel_rfl,by kernel_rfl⟩ (ZI _) (i:=3) rfl ⟨by kernel_rfl,by kernel_rfl,rfl⟩ trivial (ZG (Hle.refl _) trivial) (R.func (vf:=[]) (vc:=[_]) rfl rfl) rfl (JAA.start [⟨8,6,25,.agg #[.slice none 0 0,.slice none 0 0]⟩] rfl ?_)))
  obtain⟨b5,b6,hx⟩:=ZM hx
  obtain⟨g1,b7,hx⟩:=ZM hx
  refine JAA.two (i:=0) (j:=2) ⟨⟨_,_,_,rfl,Z25,rfl⟩,trivial⟩ (Hle.refl _) trivial rfl (by kernel_rfl) ?_ ?_
  ·
   refine JOA.step rfl trivial rfl (λg2 g3 K hK=>Run.lnz [0] 2 ZB rfl (hK (by repeat constructor) (by repeat constructor) (ZG (Hle.refl _) trivial) (JAA.one (i:=2) ⟨⟨_,_,_,rfl,Z25,rfl⟩,trivial⟩ (Hle.refl _) trivial rfl (by kernel_rfl) (JOA.step rfl trivial rfl (λg4 g5 K hK=> ?_)))))
   refine JL.conQ' b6 E60 rfl dev_place_ok rfl trivial (ZW (hK (by repeat constructor) (by repeat constructor) (ZG (Hle.refl _) trivial) (JAA.one (i:=4) ⟨⟨_,_,_,rfl,Z25,rfl⟩,trivial⟩ (Hle.refl _) trivial rfl (by kernel_rfl) (JOA.step rfl trivial rfl (λg6 c4 K hK=>ZQ (vs:=[_,_,_]) (args:=[_,_,_]) (K:=[_]) (rst:=c4) E96 rfl rfl rfl (ZL 0 rfl ZH) (dev_guarded_v2_ok d b5 d _ k m k m _ b7) rfl (λc5 c6 a2 a3 a a4=> ?_))))))
   obtain⟨c7,c8,c9,d0,d1,d2,a5,a6,a7,a8,a9,b0,b1,rfl,rfl,d3,d4,b,c,b2,-⟩:=a3
   replace c:=(RowOf.base (RowOf.mono R_Write.mono (New.call (Hle.refl _)) c) (λp hp=>(a4 p (Zc 1 rfl hp)).resolve_left (b2 p hp)))
   replace b:=IsSlice.mono (RSl.mono RU8.mono) (New.call (Hle.refl _)) b
   refine ZW (hK (by repeat constructor) (by repeat constructor) (ZG a trivial) (JAA.val ⟨by kernel_rfl,by kernel_rfl⟩ (ZI _) (i:=5) rfl (by kernel_rfl) rfl trivial a trivial (R.move rfl) rfl (JAA.val ⟨by kernel_rfl,by kernel_rfl⟩ (ZI _) (i:=6) rfl (by kernel_rfl) rfl trivial a trivial (R.extract rfl rfl) rfl (JAA.val ⟨by kernel_rfl,by kernel_rfl⟩ (ZI _) (i:=7) rfl (by kernel_rfl) rfl trivial a trivial (R.extract rfl rfl) rfl (JAA.all ⟨⟨_,_,_,rfl,Z25,rfl⟩,trivial⟩ a trivial rfl (by kernel_rfl) (λd5 d6=>JA.one (i:=9) (by kernel_rfl) (JO.step rfl trivial rfl (λK hK=> ?_))))))))
   refine Run.lnz [2] 2 ZB rfl (hK _ _ _ (ZG a trivial) (JA.val ⟨by kernel_rfl,by kernel_rfl⟩ (ZI _) (i:=10) rfl ⟨by kernel_rfl,by kernel_rfl,rfl⟩ trivial (ZG a trivial) (R.assign rfl) rfl (JA.doneN (by kernel_rfl) ?_)))
   obtain rfl:=Option.some.inj hx
   refine JN.forget 0 (ZC 1 rfl ?_)
   exact ZE ⟨a2,d5,a5,a6,a7,a8,a9,b0,b1,rfl,rfl,rfl,(a),d6,b,c⟩ rfl rfl rfl
  ·
   refine JOA.step rfl trivial rfl (λg7 g8 K hK=>JL.conQ' b6 E60 rfl dev_place_ok rfl trivial (ZW (hK (by repeat constructor) (by repeat constructor) (ZG (Hle.refl _) trivial) (JAA.one (i:=0) ⟨⟨_,_,_,rfl,Z25,rfl⟩,trivial⟩ (Hle.refl _) trivial rfl (by kernel_rfl) (JOA.step rfl trivial rfl (λg9 h0 K hK=> ?_))))))
   refine Run.lnz [0] 2 ZB rfl (hK (by repeat constructor) (by repeat constructor) (ZG (Hle.refl _) trivial) (JAA.one (i:=4) ⟨⟨_,_,_,rfl,Z25,rfl⟩,trivial⟩ (Hle.refl _) trivial rfl (by kernel_rfl) (JOA.step rfl trivial rfl (λh1 d7 K hK=>ZQ (vs:=[_,_,_]) (args:=[_,_,_]) (K:=[_]) (rst:=d7) E96 rfl rfl rfl (ZL 0 rfl ZH) (dev_guarded_v2_ok d b5 d _ k m k m _ b7) rfl (λc5 c6 a2 a3 a a4=> ?_)))))
   obtain⟨c7,c8,c9,d0,d1,d2,a5,a6,a7,a8,a9,b0,b1,rfl,rfl,d3,d4,b,c,b2,-⟩:=a3
   replace c:=(RowOf.base (RowOf.mono R_Write.mono (New.call (Hle.refl _)) c) (λp hp=>(a4 p (Zc 1 rfl hp)).resolve_left (b2 p hp)))
   replace b:=IsSlice.mono (RSl.mono RU8.mono) (New.call (Hle.refl _)) b
   refine ZW (hK (by repeat constructor) (by repeat constructor) (ZG a trivial) (JAA.val ⟨by kernel_rfl,by kernel_rfl⟩ (ZI _) (i:=5) rfl (by kernel_rfl) rfl trivial a trivial (R.move rfl) rfl (JAA.val ⟨by kernel_rfl,by kernel_rfl⟩ (ZI _) (i:=6) rfl (by kernel_rfl) rfl trivial a trivial (R.extract rfl rfl) rfl (JAA.val ⟨by kernel_rfl,by kernel_rfl⟩ (ZI _) (i:=7) rfl (by kernel_rfl) rfl trivial a trivial (R.extract rfl rfl) rfl (JAA.all ⟨⟨_,_,_,rfl,Z25,rfl⟩,trivial⟩ a trivial rfl (by kernel_rfl) (λd8 d9=>JA.one (i:=9) (by kernel_rfl) (JO.step rfl trivial rfl (λK hK=> ?_))))))))
   refine Run.lnz [2] 2 ZB rfl (hK _ _ _ (ZG a trivial) (JA.val ⟨by kernel_rfl,by kernel_rfl⟩ (ZI _) (i:=10) rfl ⟨by kernel_rfl,by kernel_rfl,rfl⟩ trivial (ZG a trivial) (R.assign rfl) rfl (JA.doneN (by kernel_rfl) ?_)))
   obtain rfl:=Option.some.inj hx
   refine JN.forget 0 (ZC 1 rfl ?_)
   exact ZE ⟨a2,d8,a5,a6,a7,a8,a9,b0,b1,rfl,rfl,rfl,(a),d9,b,c⟩ rfl rfl rfl
theorem store_Look_ok{q c}:Con Tryz.prog 51 false (sp_Store false q++sp_Ptr false c) (store_Look q c) (λr=> [.sl true RU8 1 r.1,.i r.2]):=by
 intro H b0 b1 b2 s b3 b4 b5 v b6 b7 b8 a2 r hx
 refine Does.enterC Tryz.func51 rfl rfl ?_
 intro w
 unfold store_Look at hx
 refine Run.cl [] 2 ZB rfl (Zf rfl rfl (λb9 c0=>Zf rfl rfl (λc1 c2=>Run.ll_s [1] 8 ZB rfl (ZV hx E19 rfl store_Check_ok rfl ⟨s,v,a2,trivial⟩ ?_))))
 intro c3 c4 hx
 refine Run.llz [] 2 ZB rfl (JL.gX 11 hx rfl (λa3 hx=> ?_) (λa3 hx=> ?_))
 ·
  refine Run.lnz_sk [] 15 ZB rfl ?_
  exact JN.con [] rfl hx rfl ⟨IsSlice.nil _ _ _,rfl⟩
 ·
  refine Run.llz [0] 3 ZB rfl (ZV hx E29 rfl ptr_Check_ok rfl trivial ?_)
  intro c5 c6 hx
  refine Run.lcz_s [] 5 ZB rfl (ZK hx rfl (λa4 hx=> ?_) (λa4 hx=> ?_))
  ·
   refine Run.cnz_k [] 8 ZB rfl ?_
   exact JN.con [] rfl hx rfl ⟨IsSlice.nil _ _ _,rfl⟩
  ·
   refine Run.cl_s [0] 7 ZB rfl (ZA rfl rfl (R.eqlAgg QU32 QP32 QG32 QF32 rfl rfl (EqF.i (by decide) S3 U3 rfl rfl (EqF.u32 (a:=c.Birth) (b:=(0:UInt32)) (by decide) S27 U27 rfl rfl (EqF.u32 (a:=c.Iv) (b:=(0:UInt32)) (by decide) S27 U27 rfl rfl (EqF.u32 (a:=c.Tag) (b:=(0:UInt32)) (by decide) S27 U27 rfl rfl (EqF.u32 (a:=c.Sum) (b:=(0:UInt32)) (by decide) S27 U27 rfl rfl EqF.nil)))))) ?_)
   refine Run.lcz_s [] 2 ZB rfl (ZK hx rfl (λa5 hx=> ?_) (λa5 hx=> ?_))
   ·
    refine Run.cnz_k [] 8 ZB rfl ?_
    exact JN.con [] rfl hx rfl ⟨IsSlice.nil _ _ _,rfl⟩
   ·
    refine Run.cl_s [1,0] 8 ZB rfl (JL.con hx E75 rfl dev_Read_ok rfl ⟨s,v,trivial⟩ ?_)
    intro c7 c8 hx x c9 y z a0 j
    refine Run.lc_s [] 8 ZB rfl (Za hx [] [] rfl rfl (λd l0 o0 l o g=>∃f:Heaplet,∃k:Option Addr,∃m:Nat,∃p:Nat,l=(6,.slice k m p)::(7,.int .i64 d.2)::l0∧o=o0∧f=g∧Hle x f∧IsSlice (New H f) RU8 1 (.slice k m p) d.1) (λd d0 hx=> ?_) (λd d1 hx=> ?_))
    ·
     rintro _ _ _ ⟨f,k,m,p,rfl,rfl,rfl,d2,a6⟩
     refine Run.nnz_s [] 10 ZB rfl ?_
     exact JN.con [] rfl hx rfl ⟨a6,rfl⟩
    ·
     refine JC.seq (JC.drawB (so:=[(_,[]),(_,[])]) 9 rfl Mixed ⟨by kernel_rfl,by kernel_rfl⟩ (kept0 [0,1] rfl) ?_)
     refine JB.run 3 [0,1,2] [] ZB rfl ?_
     refine JB.gX 29 hx rfl (λa7 hx=> ?_) (λa7 hx=> ?_)
     ·
      refine JB.run 3 [3,5,6] [0] ZB rfl ?_
      refine JB.one (i:=4) (by kernel_rfl) ?_
      refine JOB.step rfl ⟨_,_,rfl,rfl,rfl⟩ rfl (λK hK=>JL.con hx E76 rfl mix_Sum_ok rfl ⟨(j.old RU8.mono),trivial⟩ ?_)
      intro a8 d3 hx a1 h
      refine ZW (hK _ _ _ h (kept0 [0,1] rfl) ?_)
      refine JB.val (i:=7) [] rfl (R.neq32 (a:=a8) (b:=c.Sum) rfl rfl) ?_
      refine JB.val (i:=8) [] rfl (R.pickT rfl rfl) ?_
      refine JB.doneN (by kernel_rfl) ?_
      refine JN.next (ZK hx rfl (λa9 hx=> ?_) (λa9 hx=> ?_))
      ·
       refine Run.cnz [] 4 ZB rfl ?_
       obtain rfl:=Option.some.inj hx
       refine JN.forget 1 (JN.forget 0 ?_)
       exact ZE ⟨a1,none,0,0,rfl,rfl,rfl,(h),(IsSlice.nil _ _ _)⟩ rfl rfl rfl
      ·
       refine JC.skip ?_
       obtain rfl:=Option.some.inj hx
       refine JN.forget 1 (JN.forget 0 ?_)
       exact ZE ⟨a1,y,z,a0,rfl,rfl,rfl,(h),(j.mono RU8.mono (New.mono h))⟩ rfl rfl rfl
     ·
      refine JB.run 6 [3,4,5,6,7,8] [] ZB rfl ?_
      refine JB.doneN (by kernel_rfl) ?_
      refine Run.nnz_s [] 3 ZB rfl ?_
      obtain rfl:=Option.some.inj hx
      refine JN.forget 1 (JN.forget 0 ?_)
      exact ZE ⟨x,y,z,a0,rfl,rfl,rfl,(Hle.refl _),j⟩ rfl rfl rfl
theorem ptr_Read_ok{k}:Con Tryz.prog 78 false ([.sl false RU8 1 k]) (ptr_Read k) (λr=>sp_Ptr true r.1++ [.i r.2]):=by
 intro H a6 a7 a8 m r hx
 refine Does.enterC Tryz.func78 rfl rfl ?_
 intro w
 unfold ptr_Read at hx
 refine Run.cl [] 2 ZB rfl (JL.alloc Z32 rfl (λa9 b0=>Run.ll_s [] 7 ZB rfl (ZA rfl rfl (ZN U26 rfl (IsSlice.long m)) (Run.lcz_s [] 3 ZB rfl (ZK hx rfl (λv hx=> ?_) (λv hx=> ?_))))))
 ·
  refine Run.cnz_k [0] 9 ZB rfl ?_
  exact JN.conC [0] [] ZB rfl hx rfl rfl
 ·
  refine Run.cl_s [] 4 ZB rfl (JL.alloc Z103 rfl (λp b1=>Run.ll_s [] 10 ZB rfl (ZV hx E65 rfl ptr_sizes_ok rfl trivial ?_)))
  intro x b2 hx
  refine Run.lcz_s [] 3 ZB rfl (Za hx [2,4] [1] rfl rfl (λd l0 o0 l o g=>∃h:Heaplet,l=l0∧o= [(p,.cells #[.int .i64 d.1,.int .i64 d.2.1,.int .i64 d.2.2.1,.int .i64 d.2.2.2.1,.int .i64 d.2.2.2.2] 103 (0,0))]::o0∧h=g∧Hle H h) (λd b3 hx=> ?_) (λd b4 hx=> ?_))
  ·
   rintro _ _ _ ⟨h,rfl,rfl,rfl,b5⟩
   refine Run.nl_s [] 3 ZB rfl (ZA rfl rfl (R.ixA 0 U103 S3 rfl rfl rfl) (ZA rfl rfl (R.ldo 0 S3 rfl rfl rfl) (ZA rfl rfl (R.ixA 1 U103 S3 rfl rfl rfl) (ZA rfl rfl (R.ldo 0 S3 rfl rfl rfl) (ZA rfl rfl (R.cv_i64_u32 U3 U27 rfl) (ZA rfl rfl (R.ixA 2 U103 S3 rfl rfl rfl) (ZA rfl rfl (R.ldo 0 S3 rfl rfl rfl) (ZA rfl rfl (R.cv_i64_u32 U3 U27 rfl) (ZA rfl rfl (R.ixA 3 U103 S3 rfl rfl rfl) (ZA rfl rfl (R.ldo 0 S3 rfl rfl rfl) (ZA rfl rfl (R.cv_i64_u32 U3 U27 rfl) (ZA rfl rfl (R.ixA 4 U103 S3 rfl rfl rfl) (ZA rfl rfl (R.ldo 0 S3 rfl rfl rfl) (ZA rfl rfl (R.cv_i64_u32 U3 U27 rfl) (Run.ll_s [1,1] 8 ZB rfl (ZV hx E29 rfl ptr_Check_ok rfl trivial ?_))))))))))))))))
   intro b6 b7 hx
   refine Run.lcz_s [] 9 ZB rfl (ZK hx rfl (λy hx=> ?_) (λy hx=> ?_))
   ·
    refine Run.cnz_k [1] 10 ZB rfl ?_
    exact JN.conC [1] [] ZB rfl hx rfl rfl
   ·
    refine Run.cnz_s [1,1] 10 ZB rfl ?_
    exact JN.conC [1] [] ZB rfl hx rfl rfl
  ·
   refine JC.block (ZR 1 rfl (ZR 1 rfl (Zi [0,2,4,13] [1] rfl rfl (λl0 o0 b l o g=>∃f:Heaplet,l=(5,.int .i64 b.2.2.2.2.2.1)::(14,.int .i64 ((b.2.2.2.2.2.2:Nat):Int))::l0∧o= [(p,.cells #[.int .i64 b.1,.int .i64 b.2.1,.int .i64 b.2.2.1,.int .i64 b.2.2.2.1,.int .i64 b.2.2.2.2.1] 103 (0,0))]::o0∧f=g∧Hle H f) hx ⟨H,rfl,rfl,rfl,(Hle.refl _)⟩ rfl ?_)))
   ·
    rintro b8 b _ _ _ ⟨f,rfl,rfl,rfl,j⟩ b9 hx q
    unfold ptr_Read_l1 at hx
    refine Run.cc [] 6 ZB rfl (ZK hx rfl (λs hx=> ?_) (λs hx=> ?_))
    ·
     refine Run.cl_s [] 7 ZB rfl ?_
     obtain⟨z,a0,hx⟩:=ZS hx
     refine ZA rfl rfl (R.idxA (enc:=(λa:Int=>Value.int .i64 a)) (L:=x.l) U103 S3 rfl rfl rfl rfl rfl a0) (Run.ll_s [] 10 ZB rfl (JL.con hx E102 rfl code_Get_ok rfl ⟨(m.mono RU8.mono j),trivial⟩ ?_))
     intro c0 c1 hx a1 a2
     refine Run.llz [] 3 ZB rfl ?_
     obtain⟨a3,hx⟩:=chk_some hx
     refine ZA rfl rfl (R.ixAs U103 S3 rfl rfl a3) ?_
     obtain⟨c,a4,a5,hx⟩:=A5.setI_some hx
     refine JL.stA 0 (enc:=(λa:Int=>Value.int .i64 a)) (L:=(A5.mk b.1 b.2.1 b.2.2.1 b.2.2.2.1 b.2.2.2.2.1).l) (L':=c.l) (cur':=#[.int .i64 c.e0,.int .i64 c.e1,.int .i64 c.e2,.int .i64 c.e3,.int .i64 c.e4]) S3 rfl rfl rfl rfl rfl rfl rfl a4 a5.2 rfl (Run.llz_sbs [] 11 ZB rfl (ZA rfl rfl (R.inc rfl rfl (of_decide_eq_true s) (by decide)) ?_))
     refine Run.lnz [] 2 ZB rfl ?_
     replace hx:=Zb q hx
     refine ZC 1 rfl (ZC 1 rfl ?_)
     exact ZE ⟨(c.e0,c.e1,c.e2,c.e3,c.e4,w64 (b.2.2.2.2.2.1+z),b.2.2.2.2.2.2+1),⟨a1,rfl,rfl,rfl,((j.trans a2))⟩,hx⟩ rfl rfl rfl
    ·
     refine Run.cnz_k [] 2 ZB rfl ?_
     obtain rfl:=ZP q hx
     refine Run.nnz_kb [] 2 ZB rfl (ZC 1 rfl (ZC 1 rfl ?_))
     exact ZE ⟨f,rfl,rfl,rfl,(j)⟩ rfl rfl rfl
theorem ptr_Rows_ok{d}:Con Tryz.prog 52 false ([.sl false RU8 1 d]) (ptr_Rows d) (λr=> [.row true R_Ptr 32 5 r.1,.i r.2]):=by
 intro H d1 d2 d3 q r hx
 refine Does.enterMC Tryz.func52 rfl rfl ?_
 intro w
 unfold ptr_Rows at hx
 refine Run.cl [] 2 ZB rfl (JL.alloc Z30 rfl (λs d4=>JL.alloc Z36 rfl (λv d5=>Run.ll_s [] 6 ZB rfl (ZA rfl rfl (ZN U26 rfl (IsSlice.long q)) (Run.lcz_s [] 3 ZB rfl (ZK hx rfl (λa9 hx=> ?_) (λa9 hx=> ?_)))))))
 ·
  refine Run.cnz_k [1,0] 8 ZB rfl (ZO ?_)
  exact JN.conCM (own2:=[_,_,_]) [] [2,1] [0] ZB ZH ⟨rfl,rfl,rfl,rfl⟩ rfl rfl hx rfl ⟨⟨0,ZF _ _ _ _ _⟩,rfl⟩
 ·
  refine Run.cl_s [] 6 ZB rfl ?_
  obtain⟨d6,b0,hx⟩:=ZM hx
  refine ZQ (vs:=[_,_]) (args:=[_,_]) (K:=[]) (rst:=[_,_]) E77 rfl rfl rfl ZH (slices_Chunk_byte_ok d 16 _ q _ b0) rfl (λd7 d8 x b1 b2 d9=> ?_)
  obtain⟨e0,e1,rfl,rfl,b3,b4,b5,-⟩:=b1
  refine Run.lc_s [] 3 ZB rfl ?_
  obtain⟨b6,b7,hx⟩:=ZM hx
  refine JC.seg0 (ZR 1 rfl (ZR 1 rfl (ZR 2 rfl (JC.rangeL (RA:=λH' args (y:List UInt8)=>∃ao:Option Addr,args= #[.slice ao y.length y.length]∧IsSlice H' RU8 1 (.slice ao y.length y.length) y) rfl ptr_Rows_r1 ([]:List Ptr) b6 b7 (λz o g=>∃b:Heaplet,∃f:Option Addr,∃j:Nat,∃k:Nat,∃m:Own,o= [[(s,.cells #[.slice f j k] 30 (0,0))],m,[(v,.cells #[.int .i64 0] 36 (0,0))]]∧b=g∧Hle x b∧RowOf (New H b) R_Ptr w.heap.size 32 5 (.slice f j k) z m) (λe c o g=>(c=.ret∧∃t_10e0:Int,t_10e0=e∧∃a0:Heaplet,o= [[(v,.cells #[.int .i64 t_10e0] 36 (0,0))],[(s,.cells #[.slice none 0 0] 30 (0,0))]]∧a0=g∧Hle x a0)) rfl E101 (slices_Chunk_byte_it d 16 b5 _ (q.mono RU8.mono b2) b3 b4) (λ_ _ _ h=>by obtain⟨_,h,_⟩:=h;rw[h];rfl) rfl ⟨x,none,0,0,[],rfl,rfl,(Hle.refl _),(ZF _ _ _ _ _)⟩ ?_ ?_ ?_))))
  ·
   rintro e2 a5 z args o g e3 ⟨b,f,j,k,m,rfl,rfl,a1,a2⟩ hA hx2
   clear hx;have hx:=hx2;clear hx2;unfold ptr_Rows_r1 at hx
   obtain⟨b8,rfl,b9⟩:=hA
   refine⟨[(2,.pointer (some ⟨s,0,none⟩)),(3,.pointer (some ⟨v,0,none⟩)),(4,.slice b8 a5.length a5.length)],λc0 a6=> ?_,λc0 a6=> ?_⟩
   ·
    refine Run.cnz [] 3 ZB rfl ?_
    exact JN.assigned ⟨rfl,rfl,rfl,trivial⟩
   ·
    refine Run.cl [] 4 ZB rfl ?_
    obtain⟨a,c1,hx⟩:=ZM hx
    refine ZQ (vs:=[_]) (args:=[_]) (K:=[]) (rst:=[_,_,_]) E78 rfl rfl rfl ZH (ptr_Read_ok.doesX rfl ⟨b9,trivial⟩ c1) rfl (λe4 e5 p c2 a3 e6=> ?_)
    obtain⟨rfl,rfl,-⟩:=c2
    refine Run.llz [] 3 ZB rfl (JL.alloc Z32 rfl (λe7 e8=>Run.lc_s [0] 11 ZB rfl (ZK hx rfl (λc3 hx=> ?_) (λc3 hx=> ?_))))
    ·
     refine Run.cnz_kb [1,3] 10 ZB rfl ?_
     obtain rfl:=Option.some.inj hx
     refine JN.forget 2 (JN.forget 0 (ZC 1 rfl ?_))
     exact JN.rR ⟨rfl,a.2,rfl,p,rfl,rfl,((a1.trans a3))⟩
    ·
     refine Run.clz_s [1,0] 5 ZB rfl (JL.bslF (HF:=(New H p)) (R:=R_Ptr) (ls:=[a.1]) (vs:=[.agg #[.int .i64 a.1.At,.int .u32 (a.1.Birth.toNat:Int),.int .u32 (a.1.Iv.toNat:Int),.int .u32 (a.1.Tag.toNat:Int),.int .u32 (a.1.Sum.toNat:Int)]]) U30 I32 rfl rfl (⟨_,_,rfl,rfl,rfl,rfl⟩) R_Ptr.one rfl rfl rfl (by simp[maxLen]) rfl (λe9 f0 a7=> ?_))
     obtain⟨f1,f2,rfl⟩:=RowOf.val a7
     obtain⟨c4,c5,c6,hx⟩:=app_some hx
     refine JL.appF (HF:=(New H p)) 3 U30 I32 rfl rfl (a2.mono R_Ptr.mono (New.mono a3)) rfl (SrcF.row 0 U30 rfl a7) c5 c6 rfl a6 rfl (λf3 c7 a8=> ?_)
     obtain⟨c8,c9,rfl⟩:=RowOf.val a8
     refine Run.lnz_b [2] 3 ZB rfl ?_
     obtain rfl:=Option.some.inj hx
     refine JN.forget 1 (JN.forget 0 (ZC 2 rfl (ZC 2 rfl (ZC 2 rfl ?_))))
     exact JN.rN ⟨p,c8,c4.length,c9,c7,rfl,rfl,((a1.trans a3)),a8⟩
  ·
   rintro a4 z o g d0 htt ⟨b,f,j,k,m,rfl,rfl,a1,a2⟩ hle2
   subst htt;simp only[Sum.elim_inl]at hx
   refine Run.nnz_bs [1,1,3] 10 ZB rfl ?_
   exact JN.conCM (own2:=[_,_,_]) [a4] [0,2] [1] ZB (ZL 0 rfl ZH) ⟨rfl,rfl,rfl,rfl⟩ rfl rfl hx rfl ⟨⟨_,a2⟩,rfl⟩
  ·
   rintro a4 c e o g d0 htt hX hle2
   rcases hX with⟨rfl,t_10e0,rfl,a0,rfl,rfl,f4⟩
   subst htt;simp only[Sum.elim_inl,Sum.elim_inr]at hx
   refine Run.cnz_bk [] 3 ZB rfl (ZO ?_)
   exact JN.conCM (own2:=[_,_,_]) [a4] [2,1] [0] ZB (ZL 1 rfl ZH) ⟨rfl,rfl,rfl,rfl⟩ rfl rfl hx rfl ⟨⟨0,ZF _ _ _ _ _⟩,rfl⟩
theorem slices_Index_Ptr_ok{m c}:Con Tryz.prog 53 true ([.sl false R_Ptr 5 m]++sp_Ptr false c) (slices_Index_Ptr m c) (λr=> [.i r]):=by
 intro H a1 a2 a3 f r hx
 refine Does.enterC Tryz.func53 rfl rfl ?_
 intro w
 unfold slices_Index_Ptr at hx
 refine Run.cl [] 2 ZB rfl (Zf rfl rfl (λa4 a5=>Run.ll_s [] 7 ZB rfl (ZA rfl rfl (ZN U30 rfl (IsSlice.long f)) (Run.lcz_s [] 3 ZB rfl (Za hx [] [] rfl rfl (λh l0 o0 l o g=>∃p:Unit,l=l0∧o=o0∧H=g∧h=.inl p) (λh a6 hx=> ?_) (λh s hx=> ?_))))))
 ·
  rintro _ _ _ ⟨p,rfl,rfl,rfl,rfl⟩
  simp only[Sum.elim_inl]at hx
  refine Run.nnz_s [] 7 ZB rfl ?_
  exact ZJ [] rfl hx rfl rfl
 ·
  refine JC.block (Zi [0,3,7] [0] rfl rfl (λl0 o0 j l o g=>l=(8,.int .i64 ((j:Nat):Int))::l0∧o=o0∧H=g) hx ⟨rfl,rfl,rfl⟩ rfl ?_)
  ·
   rintro a7 j _ _ _ ⟨rfl,rfl,rfl⟩ a8 hx k
   unfold slices_Index_Ptr_l1 at hx
   refine Run.cc [] 6 ZB rfl (ZK hx rfl (λq hx=> ?_) (λq hx=> ?_))
   ·
    refine Run.cc_s [] 11 ZB rfl (JC.drawB (so:=[(_,[])]) 6 rfl Mixed ⟨by kernel_rfl,by kernel_rfl⟩ (kept0 [0] rfl) ?_)
    refine JB.run 3 [0,1,2] [0] ZB rfl ?_
    obtain⟨d,v,hx⟩:=ZS hx
    obtain⟨a9,b0,b1,x,y,b2,z⟩:=IsSlice.elem f v
    obtain rfl:=y
    refine JB.val (i:=3) [] rfl (R.ix U30 S32 rfl rfl x) ?_
    refine JB.val (i:=4) [] rfl (R.ldHF 0 S32 rfl z rfl rfl) ?_
    refine JB.val (i:=5) [] rfl (R.eqlAgg QU32 QP32 QG32 QF32 rfl rfl (EqF.i (by decide) S3 U3 rfl rfl (EqF.u32 (a:=c.Birth) (b:=d.Birth) (by decide) S27 U27 rfl rfl (EqF.u32 (a:=c.Iv) (b:=d.Iv) (by decide) S27 U27 rfl rfl (EqF.u32 (a:=c.Tag) (b:=d.Tag) (by decide) S27 U27 rfl rfl (EqF.u32 (a:=c.Sum) (b:=d.Sum) (by decide) S27 U27 rfl rfl EqF.nil)))))) ?_
    refine JB.doneN (by kernel_rfl) ?_
    refine JN.next (ZK hx rfl (λa0 hx=> ?_) (λa0 hx=> ?_))
    ·
     refine Run.cnz_bk [] 9 ZB rfl ?_
     obtain rfl:=ZP k hx
     refine Run.nnz_kb [] 2 ZB rfl ?_
     clear hx;have hx:=s
     simp only[Sum.elim_inl,Sum.elim_inr]at hx
     refine Run.nnz_kk [] 2 ZB rfl ?_
     exact ZJ [] rfl hx rfl rfl
    ·
     refine Run.clz_bs [] 4 ZB rfl (ZA rfl rfl (R.inc rfl rfl (of_decide_eq_true q) (IsSlice.lenI f)) (Run.lnz [] 2 ZB rfl ?_))
     replace hx:=Zb k hx
     exact ZE ⟨j+1,⟨rfl,rfl,rfl⟩,hx⟩ rfl rfl rfl
   ·
    refine Run.cnz_k [] 2 ZB rfl ?_
    obtain rfl:=ZP k hx
    refine Run.nnz_kb [] 2 ZB rfl (JN.forget 0 ?_)
    exact ZE ⟨(),rfl,rfl,rfl,rfl⟩ rfl rfl rfl
theorem dead_read_1_ok{c}:Con Tryz.prog 55 true (sp_Ptr false c) (dead_read_1 c) (λr=> [.b r]):=by
 intro H r hx
 refine Does.enterC Tryz.func55 rfl rfl ?_
 intro w
 unfold dead_read_1 at hx
 refine Run.cl [] 2 ZB rfl (Zf rfl rfl (λd f=>Run.ll_s [0] 7 ZB rfl (ZA rfl rfl (R.neqAgg QU32 QP32 QG32 QF32 rfl rfl (EqF.i (by decide) S3 U3 rfl rfl (EqF.u32 (a:=c.Birth) (b:=(0:UInt32)) (by decide) S27 U27 rfl rfl (EqF.u32 (a:=c.Iv) (b:=(0:UInt32)) (by decide) S27 U27 rfl rfl (EqF.u32 (a:=c.Tag) (b:=(0:UInt32)) (by decide) S27 U27 rfl rfl (EqF.u32 (a:=c.Sum) (b:=(0:UInt32)) (by decide) S27 U27 rfl rfl EqF.nil)))))) ?_)))
 refine Run.lnz_s [] 4 ZB rfl ?_
 exact ZJ [] rfl hx rfl rfl
theorem slices_IndexFunc_Ptr_v2_ok{f}:Con Tryz.prog 79 true ([.sl false R_Ptr 5 f,.fv 55]) (slices_IndexFunc_Ptr_v2 f) (λr=> [.i r]):=by
 intro H x y z a r hx
 refine Does.enterC Tryz.func79 rfl rfl ?_
 intro w
 unfold slices_IndexFunc_Ptr_v2 at hx
 refine Run.cl [] 9 ZB rfl (ZA rfl rfl (ZN U30 rfl (IsSlice.long a)) (Run.lcz_s [] 3 ZB rfl (Za hx [] [] rfl rfl (λb l0 o0 l o g=>∃h:Unit,l=l0∧o=o0∧H=g∧b=.inl h) (λb a0 hx=> ?_) (λb k hx=> ?_))))
 ·
  rintro _ _ _ ⟨h,rfl,rfl,rfl,rfl⟩
  simp only[Sum.elim_inl]at hx
  refine Run.nnz_s [] 7 ZB rfl ?_
  exact ZJ [] rfl hx rfl rfl
 ·
  refine JC.block (Zi [0,1,7] [] rfl rfl (λl0 o0 c l o g=>l=(8,.int .i64 ((c:Nat):Int))::l0∧o=o0∧H=g) hx ⟨rfl,rfl,rfl⟩ rfl ?_)
  ·
   rintro a1 c _ _ _ ⟨rfl,rfl,rfl⟩ a2 hx d
   unfold slices_IndexFunc_Ptr_v2_l1 at hx
   refine Run.cc [] 6 ZB rfl (ZK hx rfl (λj hx=> ?_) (λj hx=> ?_))
   ·
    refine Run.cl_s [] 15 ZB rfl ?_
    obtain⟨a3,m,hx⟩:=ZS hx
    obtain⟨a4,a5,a6,p,q,a7,s⟩:=IsSlice.elem a m
    obtain rfl:=q
    refine ZA rfl rfl (R.ix U30 S32 rfl rfl p) (ZA rfl rfl (R.ldHF 0 S32 rfl s rfl rfl) (ZV hx E55 rfl dead_read_1_ok rfl trivial ?_))
    intro a8 a9 hx
    refine Run.lcz_s [] 2 ZB rfl (ZK hx rfl (λv hx=> ?_) (λv hx=> ?_))
    ·
     refine Run.cnz_bk [] 9 ZB rfl ?_
     obtain rfl:=ZP d hx
     refine Run.nnz_kb [] 2 ZB rfl ?_
     clear hx;have hx:=k
     simp only[Sum.elim_inl,Sum.elim_inr]at hx
     refine Run.nnz_kk [] 2 ZB rfl ?_
     exact ZJ [] rfl hx rfl rfl
    ·
     refine Run.clz_bs [] 4 ZB rfl (ZA rfl rfl (R.inc rfl rfl (of_decide_eq_true j) (IsSlice.lenI a)) (Run.lnz [] 2 ZB rfl ?_))
     replace hx:=Zb d hx
     exact ZE ⟨c+1,⟨rfl,rfl,rfl⟩,hx⟩ rfl rfl rfl
   ·
    refine Run.cnz_k [] 2 ZB rfl ?_
    obtain rfl:=ZP d hx
    refine Run.nnz_kb [] 2 ZB rfl ?_
    exact ZE ⟨(),rfl,rfl,rfl,rfl⟩ rfl rfl rfl
theorem slices_ContainsFunc_Ptr_v2_ok{a}:Con Tryz.prog 54 true ([.sl false R_Ptr 5 a,.fv 55]) (slices_ContainsFunc_Ptr_v2 a) (λr=> [.b r]):=by
 intro H d f h c r hx
 refine Does.enterC Tryz.func54 rfl rfl ?_
 intro w
 unfold slices_ContainsFunc_Ptr_v2 at hx
 refine Run.cl [] 9 ZB rfl (ZV hx E79 rfl slices_IndexFunc_Ptr_v2_ok rfl ⟨c,trivial⟩ ?_)
 intro i j hx
 refine Run.lnz_s [] 5 ZB rfl ?_
 exact ZJ [] rfl hx rfl rfl
theorem dead_must_M:MustP Tryz.prog 32 69:=by
 intro b e H
 refine DoesP.enterC (vs:=[.bool b,.int .i64 e]) Tryz.func32 rfl rfl ?_
 intro w
 cases b
 ·
  exact JC.seq (JC.region (JL.move rfl rfl (ZW (JN.next (JC.condF rfl (JC.skip (JN.retP (JN.out0 (.inr rfl) rfl rfl ⟨rfl,rfl,rfl,rfl⟩))))))))
 ·
  exact JC.seq (JC.region (JL.move rfl rfl (ZW (JN.next (JC.condT rfl (JC.region (JL.move rfl rfl (ZA rfl rfl (R.bldP (vs:=[(0,.int .i64 e)]) (cs:=[.int .i64 e]) (z:=.agg #[.int .i64 0]) (places:=[(0,1)]) (by kernel_rfl) (by kernel_rfl) rfl rfl rfl) (ZA rfl rfl (R.mkI (by kernel_rfl) rfl) (JL.panic rfl (JN.panicP rfl ⟨rfl,rfl⟩)))))))))))
theorem dead_read_ok{j k}:ConP Tryz.prog 31 false (sp_Store false j++sp_Ptr false k) (dead_read j k) (λr=> [.sl true R_Ptr 5 r]) 69:=by
 intro H b4 b5 b6 a0 b7 b8 b9 a1 c0 c1 c2 a2 r hx
 refine DoesP.enterC Tryz.func31 rfl rfl ?_
 intro w
 unfold dead_read at hx
 refine Run.cl [] 2 ZB rfl (Zf rfl rfl (λc3 c4=>Zf rfl rfl (λc5 c6=>Run.ll_s [1,0] 7 ZB rfl (JL.con hx E51 rfl store_Look_ok rfl ⟨a0,a1,a2,trivial⟩ ?_))))
 intro c7 c8 hx c9 d0 d1 d2 d3 a3
 refine Run.ll_s [] 12 ZB rfl (JL.must hx E32 rfl dead_must_M (λa4 hx d4 d5=> ?_) (λa4 hx=> ?_))
 ·
  refine JN.passP ?_
  exact JN.inrP hx rfl
 ·
  refine Run.ll_s [] 5 ZB rfl (JL.con hx E52 rfl ptr_Rows_ok rfl ⟨(a3.old RU8.mono),trivial⟩ ?_)
  intro d d6 hx d7 d8 d9 e0 e1 e2 f
  refine Run.ll_s [] 11 ZB rfl (JL.must hx E32 rfl dead_must_M (λa5 hx e3 e4=> ?_) (λa5 hx=> ?_))
  ·
   refine JN.passP ?_
   exact JN.inrP hx rfl
  ·
   refine Run.ll_s [] 6 ZB rfl (JL.conL hx E53 rfl slices_Index_Ptr_ok rfl (λe5 a6 a7=>⟨(Lent.row' 0 a7 R_Ptr.mono a6 rfl (f.old R_Ptr.mono)),trivial⟩) (λ_=>trivial) ?_)
   intro p e6 hx
   refine Run.lc_s [] 10 ZB rfl (ZK hx rfl (λa8 hx=> ?_) (λa8 hx=> ?_))
   ·
    refine Run.cnz_k [] 8 ZB rfl (JN.pubN 0 R_Ptr.mono rfl f (Nat.le_refl _) (λe7 e8 a9=>JN.forget 0 ?_))
    exact JN.inlP hx (JN.con [] rfl rfl rfl ⟨a9,rfl⟩)
   ·
    refine Run.cl_s [] 7 ZB rfl (JL.gX 35 hx rfl (λb0 hx=> ?_) (λb0 hx=> ?_))
    ·
     refine Run.llz [] 5 ZB rfl (JL.must hx E32 rfl dead_must_M (λq hx e9 f0=> ?_) (λq hx=> ?_))
     ·
      refine JN.passP ?_
      exact JN.inrP hx rfl
     ·
      cases q
    ·
     refine Run.llz [] 5 ZB rfl (JL.pubN 0 R_Ptr.mono rfl f (Nat.le_refl _) (λf1 f2 s=>JL.forget 0 ?_))
     obtain⟨f3,b1,h,hx⟩:=slc_some hx
     obtain⟨f4,v,h1v_34,h2v_34,h3v_34,x⟩:=IsSlice.cutv s b1 h
     refine ZA rfl rfl (R.slc (cap:=v) (a:=p) (b:=(d.1.length:Int)) (c:=(v:Int)) (m:=d.1) (R:=R_Ptr) U30 S32 rfl ⟨_,rfl⟩ rfl (by obtain⟨ao,n,e,_⟩:=h1v_34;exact⟨ao,n,e,rfl⟩) ⟨h.1,h.2.1,h2v_34⟩ h3v_34 (.inl rfl)) ?_
     obtain⟨f5,f6,rfl⟩:=IsSlice.val x
     refine JL.gYes rfl rfl rfl (ZV hx E54 rfl slices_ContainsFunc_Ptr_v2_ok rfl ⟨(x.old R_Ptr.mono),trivial⟩ ?_)
     intro f7 f8 hx
     refine ZA rfl rfl (R.pickF rfl rfl) (JL.must hx E32 rfl dead_must_M (λb2 hx f9 g0=> ?_) (λb2 hx=> ?_))
     ·
      refine JN.passP ?_
      exact JN.inrP hx rfl
     ·
      refine Run.ll_s [] 6 ZB rfl ?_
      obtain⟨g1,b3,i,hx⟩:=slc_some hx
      obtain⟨g2,y,h1v_43,h2v_43,h3v_43,z⟩:=IsSlice.cutv s b3 i
      refine ZA rfl rfl (R.slc (cap:=y) (a:=0) (b:=p) (c:=(y:Int)) (m:=d.1) (R:=R_Ptr) U30 S32 rfl rfl ⟨_,rfl⟩ (by obtain⟨ao,n,e,_⟩:=h1v_43;exact⟨ao,n,e,rfl⟩) ⟨i.1,i.2.1,h2v_43⟩ h3v_43 (.inl rfl)) ?_
      obtain⟨g3,g4,rfl⟩:=IsSlice.val z
      refine Run.lnz_s [] 4 ZB rfl ?_
      exact JN.inlP hx (JN.con [] rfl rfl rfl ⟨z,rfl⟩)
theorem dead_Load_1_D{b0 b1 b2:Nat}{v0 v1 v2:Value}{H:Heaplet}:DefP Tryz.prog 30 #[.pointer (some ⟨b0,0,none⟩),.pointer (some ⟨b1,0,none⟩),.pointer (some ⟨b2,0,none⟩)] 69 none [[(b0,.cells #[v0] 30 (0,0))],[(b1,.cells #[v1] 35 (0,0))],[(b2,.cells #[v2] 36 (0,0))]] [[(b0,.cells #[v0] 30 (0,0))],[(b1,.cells #[v1] 35 (0,0))],[(b2,.cells #[v2] 36 (0,0))]] H:=by
 refine DefP.of (vs:=[_,_,_]) Tryz.func30 rfl rfl rfl ?_
 intro w
 show JC _ _ _ ((6,.nilIface)::_) _ _
 refine JC.block (JC.seq (JC.region (ZA rfl rfl (R.eqlNN (by kernel_rfl) rfl) (ZW (JN.next (JC.condT rfl (JC.region (JL.assign rfl rfl (ZW (JN.blkN ?_))))))))))
 exact ZU (vs:=[]) (K:=[_,_,_]) (rst:=[]) (.inr rfl) rfl rfl rfl (by simp) ⟨rfl,rfl⟩
theorem dead_Load_1_P{b0 b1 b2:Nat}{v0 v1 v2:Value}{e:Int}{H:Heaplet}:DefP Tryz.prog 30 #[.pointer (some ⟨b0,0,none⟩),.pointer (some ⟨b1,0,none⟩),.pointer (some ⟨b2,0,none⟩)] 69 (some e) [[(b0,.cells #[v0] 30 (0,0))],[(b1,.cells #[v1] 35 (0,0))],[(b2,.cells #[v2] 36 (0,0))]] [[(b0,.cells #[.slice none 0 0] 30 (0,0))],[(b1,.cells #[.slice none 0 0] 35 (0,0))],[(b2,.cells #[.int .i64 e] 36 (0,0))]] H:=by
 refine DefP.of (vs:=[_,_,_]) Tryz.func30 rfl rfl rfl ?_
 intro w
 show JC _ _ _ ((6,.iface 69 (.agg #[.int .i64 e]))::_) _ _
 refine JC.block (JC.seq (JC.region (ZA rfl rfl (R.eqlIN (by kernel_rfl) rfl rfl) (ZW (JN.next (JC.condF rfl (JC.seq (JC.region (ZA rfl rfl (R.asrt Tryz.underlying69 rfl) (ZA (v:=.bool true) rfl rfl (R.extract rfl rfl) (ZA (v:=.agg #[.int .i64 e]) rfl rfl (R.extract rfl rfl) (ZW (JN.next (JC.condT rfl (JC.seq (JC.region (JL.alloc (z:=.agg #[.int .i64 0]) (by kernel_rfl) rfl (λb hb=>JL.store (n:=1) (g:=true) 0 (by kernel_rfl) rfl rfl rfl rfl rfl (Nat.le_of_ble_eq_true rfl) (ZW (JN.next (JC.drawB (so:=[(_,[])]) 5 rfl (by kernel_rfl) ⟨by kernel_rfl,by kernel_rfl⟩ (kept0 [0] rfl) ?_)))))))))))))))))))))
 refine JB.val (i:=0) [] rfl (R.fa (show fieldOff Tryz.prog 69 0=some 0 by kernel_rfl) rfl) ?_
 refine JB.val (i:=1) (v:=.int .i64 e) [] rfl (R.ldo 0 (n:=1) (by kernel_rfl) rfl rfl rfl) ?_
 refine JB.one (i:=2) (by kernel_rfl) ?_
 refine JOB.step rfl trivial rfl (λK hK=>JL.store (n:=1) (g:=false) 1 (by kernel_rfl) rfl rfl rfl rfl rfl (Nat.le_of_ble_eq_true rfl) (ZW (hK _ _ _ (Hle.refl _) (kept0 [0] rfl) ?_)))
 refine JB.one (i:=3) (by kernel_rfl) ?_
 refine JOB.step rfl trivial rfl (λK hK=>JL.store (n:=1) (g:=false) 2 (by kernel_rfl) rfl rfl rfl rfl rfl (Nat.le_of_ble_eq_true rfl) (ZW (hK _ _ _ (Hle.refl _) (kept0 [0] rfl) ?_)))
 refine JB.one (i:=4) (by kernel_rfl) ?_
 refine JOB.step rfl trivial rfl (λK hK=>JL.store (n:=1) (g:=false) 3 (by kernel_rfl) rfl rfl rfl rfl rfl (Nat.le_of_ble_eq_true rfl) (ZW (hK _ _ _ (Hle.refl _) (kept0 [0] rfl) ?_)))
 refine JB.doneN (by kernel_rfl) (JN.blkN (JN.forget 0 ?_))
 exact ZU (vs:=[]) (K:=[[(b0,.cells #[.slice none 0 0] 30 (0,0))],[(b1,.cells #[.slice none 0 0] 35 (0,0))],[(b2,.cells #[.int .i64 e] 36 (0,0))]]) (rst:=[]) (.inr rfl) rfl rfl rfl (List.Perm.of_eq (List.append_nil _).symm) ⟨rfl,rfl⟩
end Go.Proofs.YtgiefadcpnegcaaGreat
