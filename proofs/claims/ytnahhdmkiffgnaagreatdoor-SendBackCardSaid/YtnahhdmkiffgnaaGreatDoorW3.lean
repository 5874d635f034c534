import Derived.Test.YtnahhdmkiffgnaaGreatDoorT2
import Derived.Test.YtnahhdmkiffgnaaGreatDoorA29
import Derived.Test.YtnahhdmkiffgnaaGreatDoorOwMg
import Derived.Test.YtnahhdmkiffgnaaGreatDoorOwMf
/- walks: what the code computes, function by function. -/
set_option linter.unusedSimpArgs false
set_option linter.unusedVariables false
namespace Go.Proofs.YtnahhdmkiffgnaaGreatDoor
open Go.Ow Go.RowKit Go.Proofs
set_option maxHeartbeats 8000000
theorem law29_alive_ok (H:Heaplet)(r:Bool)(hx:law29_alive=some r):
  Does Tryz.prog 4 #[] [] H (λu K' H'=>u=.bool r∧K'= []∧H=H'∧True):=by cases hx;exact Go.Ev.true_does (λw=>true_run nat29_ok alive29 w) H
theorem ref29_Great_ok{i}:Con Tryz.prog 5 true (sp_Stream false i) (ref29_Great i) (λr=> [.b r]):=by
 intro H a4 a5 a6 p a7 a8 a9 a b0 b1 b2 q r hx
 refine Does.enterC Tryz.func5 rfl rfl ?_
 intro w
 unfold ref29_Great at hx
 refine Run.cl [] 2 tbo rfl (JL.box rfl rfl (λb3 b4=>Run.lc_s [] 9 tbo rfl (JC.cutX hx [1] [0] rfl rfl (λd l0 o0 l o g=>∃j:Unit,l=l0∧o=o0∧H=g∧d=.inl j) (λd b5 hx=> ?_) (λd s hx=> ?_))))
 ·
  rintro _ _ _ ⟨j,rfl,rfl,rfl,rfl⟩
  simp only[Sum.elim_inl]at hx
  refine Run.nc_s [] 2 tbo rfl (JC.cutX hx [] [] rfl rfl (λf l0 o0 l o g=>l=(2,.bool f)::l0∧o=o0∧H=g) (λf b6 hx=> ?_) (λf b7 hx=> ?_))
  ·
   rintro _ _ _ ⟨rfl,rfl,rfl⟩
   refine Run.nnz_s [] 2 tbo rfl ?_
   exact JN.conQ [] rfl hx rfl rfl
  ·
   refine Run.clz [0] 3 tbo rfl (JL.val rfl rfl (R.lenL U24 rfl (IsSlice.long a)) (Run.llz [] 2 tbo rfl (JL.gX 27 hx rfl (λv hx=> ?_) (λv hx=> ?_))))
   ·
    refine Run.lnz [] 13 tbo rfl ?_
    obtain rfl:=Option.some.inj hx
    refine JN.forget 0 ?_
    exact JN.cutR ⟨rfl,rfl,rfl⟩ rfl rfl rfl
   ·
    refine Run.llz [0] 5 tbo rfl (JL.val rfl rfl (R.lenL U23 rfl (IsSlice.long p)) (Run.llz [] 4 tbo rfl (JL.gX 33 hx rfl (λx hx=> ?_) (λx hx=> ?_))))
    ·
     refine Run.lnz [] 7 tbo rfl ?_
     obtain rfl:=Option.some.inj hx
     refine JN.forget 0 ?_
     exact JN.cutR ⟨rfl,rfl,rfl⟩ rfl rfl rfl
    ·
     refine Run.llz [0] 5 tbo rfl (JL.val rfl rfl (R.lenL U23 rfl (IsSlice.long q)) (Run.lnz [] 5 tbo rfl ?_))
     obtain rfl:=Option.some.inj hx
     refine JN.forget 0 ?_
     exact JN.cutR ⟨rfl,rfl,rfl⟩ rfl rfl rfl
 ·
  refine JC.block (JC.loopX [1] [0] rfl rfl (λl0 o0 h l o g=>l=(3,.int .i64 ((h:Nat):Int))::l0∧o=o0∧H=g) hx ⟨rfl,rfl,rfl⟩ rfl ?_)
  ·
   rintro b8 h _ _ _ ⟨rfl,rfl,rfl⟩ b9 hx c
   unfold ref29_Great_l1 at hx
   refine Run.cl [0] 6 tbo rfl (JL.val rfl rfl (R.lenL U24 rfl (IsSlice.long a)) (Run.llz [] 2 tbo rfl (JL.gX 9 hx rfl (λk hx=> ?_) (λk hx=> ?_))))
   ·
    refine Run.lcz_s [] 7 tbo rfl (JC.ifx hx rfl (λy hx=> ?_) (λy hx=> ?_))
    ·
     refine Run.cl_s [0] 9 tbo rfl ?_
     obtain⟨c0,z,hx⟩:=idx_some hx
     obtain⟨c1,c2,c3,a0,a1,c4,a2⟩:=IsSlice.elem a z
     obtain⟨c5,rfl,m⟩:=a1
     obtain⟨c6,c7,rfl⟩:=IsSlice.val m
     refine JL.val rfl rfl (R.ix U24 S57 rfl rfl a0) (JL.val rfl rfl (R.fa F57_4 rfl) (JL.val rfl rfl (R.ldH S23 rfl (a2 4 _ rfl)) (JL.val rfl rfl (R.lenL U23 rfl (IsSlice.long m)) (Run.lcz_s [] 3 tbo rfl (JC.ifx hx rfl (λa3 hx=> ?_) (λa3 hx=> ?_))))))
     ·
      refine Run.cnz_bk [] 8 tbo rfl ?_
      obtain rfl:=run_done c hx
      refine Run.nnz_kb [] 2 tbo rfl ?_
      clear hx;have hx:=s
      simp only[Sum.elim_inl,Sum.elim_inr]at hx
      refine Run.nnz_kk [] 2 tbo rfl ?_
      exact JN.conQ [] rfl hx rfl rfl
     ·
      refine Run.clz_bs [] 5 tbo rfl (JL.val rfl rfl (R.inc rfl rfl (of_decide_eq_true k) (IsSlice.lenI a)) (Run.lnz [] 2 tbo rfl ?_))
      replace hx:=run_next c hx
      exact JN.cutR ⟨h+1,⟨rfl,rfl,rfl⟩,hx⟩ rfl rfl rfl
    ·
     refine Run.cnz_k [] 2 tbo rfl ?_
     obtain rfl:=run_done c hx
     refine Run.nnz_kb [] 2 tbo rfl ?_
     exact JN.cutR ⟨(),rfl,rfl,rfl,rfl⟩ rfl rfl rfl
   ·
    refine Run.lnz_sk [] 8 tbo rfl ?_
    obtain rfl:=run_done c hx
    refine Run.nnz_kb [] 2 tbo rfl ?_
    exact JN.cutR ⟨(),rfl,rfl,rfl,rfl⟩ rfl rfl rfl
theorem send_place_ok{a}:Con Tryz.prog 28 true (sp_Part false a) (send_place a) (λr=> [.i r]):=by
 intro H b c d f r hx
 refine Does.enterC Tryz.func28 rfl rfl ?_
 intro w
 unfold send_place at hx
 refine Run.cl [] 2 tbo rfl (JL.box rfl rfl (λh j=>Run.ll_s [0,0] 11 tbo rfl (JL.val rfl rfl (R.rem_i rfl rfl (by decide)) ?_)))
 refine Run.lnz_s [] 5 tbo rfl ?_
 exact JN.conQ [] rfl hx rfl rfl
theorem cmp_isNaN_int_ok{a}:Con Tryz.prog 55 true ([.i a]) (cmp_isNaN_int a) (λr=> [.b r]):=by
 intro H r hx
 refine Does.enterC Tryz.func55 rfl rfl ?_
 intro w
 unfold cmp_isNaN_int at hx
 refine Run.cnz [] 14 tbo rfl ?_
 exact JN.conQ [] rfl hx rfl rfl
theorem cmp_Compare_int_ok{a b}:Con Tryz.prog 27 true ([.i a,.i b]) (cmp_Compare_int a b) (λr=> [.i r]):=by
 intro H r hx
 refine Does.enterC Tryz.func27 rfl rfl ?_
 intro w
 unfold cmp_Compare_int at hx
 refine Run.cl [] 8 tbo rfl (JL.conQ hx E55 rfl cmp_isNaN_int_ok rfl trivial ?_)
 intro k m hx
 refine Run.ll_s [] 6 tbo rfl (JL.conQ hx E55 rfl cmp_isNaN_int_ok rfl trivial ?_)
 intro p q hx
 refine Run.lc_s [] 9 tbo rfl (JC.ifx hx rfl (λc hx=> ?_) (λc hx=> ?_))
 ·
  refine Run.cc [] 6 tbo rfl (JC.ifx hx rfl (λd hx=> ?_) (λd hx=> ?_))
  ·
   refine Run.cnz_kk [] 8 tbo rfl ?_
   exact JN.conQ [] rfl hx rfl rfl
  ·
   refine Run.cnz_sk [] 9 tbo rfl ?_
   exact JN.conQ [] rfl hx rfl rfl
 ·
  refine Run.cc_s [] 8 tbo rfl (JC.ifx hx rfl (λf hx=> ?_) (λf hx=> ?_))
  ·
   refine Run.cnz_k [] 7 tbo rfl ?_
   exact JN.conQ [] rfl hx rfl rfl
  ·
   refine Run.cc_s [] 10 tbo rfl (JC.ifx hx rfl (λh hx=> ?_) (λh hx=> ?_))
   ·
    refine Run.cnz_k [] 7 tbo rfl ?_
    exact JN.conQ [] rfl hx rfl rfl
   ·
    refine Run.cc_s [] 10 tbo rfl (JC.ifx hx rfl (λj hx=> ?_) (λj hx=> ?_))
    ·
     refine Run.cnz_k [] 7 tbo rfl ?_
     exact JN.conQ [] rfl hx rfl rfl
    ·
     refine Run.cnz_s [] 8 tbo rfl ?_
     exact JN.conQ [] rfl hx rfl rfl
theorem send_may_1_ok{a b}:Con Tryz.prog 26 true (sp_Part false a++sp_Part false b) (send_may_1 a b) (λr=> [.i r]):=by
 intro H f h j c k m p d r hx
 refine Does.enterC Tryz.func26 rfl rfl ?_
 intro w
 unfold send_may_1 at hx
 refine Run.cl [] 2 tbo rfl (JL.box rfl rfl (λq s=>JL.box rfl rfl (λv x=>Run.lc_s [] 4 tbo rfl (JC.drawB (so:=[(_,[]),(_,[])]) 6 rfl Mixed ⟨by kernel_rfl,by kernel_rfl⟩ (kept0 [0,1] rfl) ?_))))
 refine JB.run 2 [0,2] [1,0] tbo rfl ?_
 refine JB.one (i:=1) (by kernel_rfl) ?_
 refine JOB.step rfl trivial rfl (λK hK=>JL.conQ hx E28 rfl send_place_ok rfl ⟨c,trivial⟩ ?_)
 intro y z hx
 refine JL.nil (hK _ _ _ (Hle.refl _) (kept0 [0,1] rfl) ?_)
 refine JB.one (i:=3) (by kernel_rfl) ?_
 refine JOB.step rfl trivial rfl (λK hK=>JL.conQ hx E28 rfl send_place_ok rfl ⟨d,trivial⟩ ?_)
 intro a0 a1 hx
 refine JL.nil (hK _ _ _ (Hle.refl _) (kept0 [0,1] rfl) ?_)
 refine JB.one (i:=4) (by kernel_rfl) ?_
 refine JOB.step rfl trivial rfl (λK hK=>JL.conQ hx E27 rfl cmp_Compare_int_ok rfl trivial ?_)
 intro a2 a3 hx
 refine JL.nil (hK _ _ _ (Hle.refl _) (kept0 [0,1] rfl) ?_)
 refine JB.val (i:=5) [] rfl (R.assign rfl) ?_
 refine JB.doneN (by kernel_rfl) ?_
 refine Run.nnz_s [] 2 tbo rfl ?_
 exact JN.conQ [] rfl hx rfl rfl
theorem slices_IsSortedFunc_Part_ok{h}:Con Tryz.prog 25 true ([.sl false R_Part 5 h,.fv 26]) (slices_IsSortedFunc_Part h) (λr=> [.b r]):=by
 intro H a4 a5 a6 a r hx
 refine Does.enterC Tryz.func25 rfl rfl ?_
 intro w
 unfold slices_IsSortedFunc_Part at hx
 refine Run.cl [] 9 tbo rfl (JL.val rfl rfl (R.lenL U24 rfl (IsSlice.long a)) (Run.lcz_s [] 4 tbo rfl (JC.cutX hx [] [] rfl rfl (λc l0 o0 l o g=>∃j:Unit,l=l0∧o=o0∧H=g∧c=.inl j) (λc a7 hx=> ?_) (λc p hx=> ?_))))
 ·
  rintro _ _ _ ⟨j,rfl,rfl,rfl,rfl⟩
  simp only[Sum.elim_inl]at hx
  refine Run.nnz_s [] 7 tbo rfl ?_
  exact JN.conQ [] rfl hx rfl rfl
 ·
  refine JC.block (JC.loopX [0,1] [] rfl rfl (λl0 o0 d l o g=>l=(5,.int .i64 d)::l0∧o=o0∧H=g) hx ⟨rfl,rfl,rfl⟩ rfl ?_)
  ·
   rintro a8 d _ _ _ ⟨rfl,rfl,rfl⟩ a9 hx f
   unfold slices_IsSortedFunc_Part_l1 at hx
   refine Run.cc [] 7 tbo rfl (JC.ifx hx rfl (λq hx=> ?_) (λq hx=> ?_))
   ·
    refine Run.cc_s [] 5 tbo rfl (JC.drawB (so:=[]) 12 rfl Mixed ⟨by kernel_rfl,by kernel_rfl⟩ (kept0 [] rfl) ?_)
    refine JB.run 3 [0,1,2] [] tbo rfl ?_
    obtain⟨b0,s,hx⟩:=idx_some hx
    obtain⟨b1,b2,b3,v,x,b4,y⟩:=IsSlice.elem a s
    obtain⟨b5,rfl,k⟩:=x
    obtain⟨b6,b7,rfl⟩:=IsSlice.val k
    refine JB.val (i:=3) [] rfl (R.ix U24 S57 rfl rfl v) ?_
    refine JB.val (i:=4) [] rfl (R.ldHF 0 S57 rfl y rfl rfl) ?_
    refine JB.run 3 [5,6,7] [] tbo rfl ?_
    obtain⟨b8,z,hx⟩:=idx_some hx
    obtain⟨b9,c0,c1,a0,a1,c2,a2⟩:=IsSlice.elem a z
    obtain⟨c3,rfl,m⟩:=a1
    obtain⟨c4,c5,rfl⟩:=IsSlice.val m
    refine JB.val (i:=8) [] rfl (R.ix U24 S57 rfl rfl a0) ?_
    refine JB.val (i:=9) [] rfl (R.ldHF 0 S57 rfl a2 rfl rfl) ?_
    refine JB.one (i:=10) (by kernel_rfl) ?_
    refine JOB.step rfl trivial rfl (λK hK=>JL.conQ hx E26 rfl send_may_1_ok rfl ⟨k,m,trivial⟩ ?_)
    intro c6 c7 hx
    refine JL.nil (hK _ _ _ (Hle.refl _) (kept0 [] rfl) ?_)
    refine JB.val (i:=11) [] rfl (R.lss_i rfl rfl) ?_
    refine JB.doneN (by kernel_rfl) ?_
    refine JN.next (JC.ifx hx rfl (λa3 hx=> ?_) (λa3 hx=> ?_))
    ·
     refine Run.cnz_bk [] 8 tbo rfl ?_
     obtain rfl:=run_done f hx
     refine Run.nnz_kb [] 2 tbo rfl ?_
     clear hx;have hx:=p
     simp only[Sum.elim_inl,Sum.elim_inr]at hx
     refine Run.nnz_kk [] 2 tbo rfl ?_
     exact JN.conQ [] rfl hx rfl rfl
    ·
     refine Run.cnz_bs [] 8 tbo rfl ?_
     replace hx:=run_next f hx
     exact JN.cutR ⟨w64 (d-1),⟨rfl,rfl,rfl⟩,hx⟩ rfl rfl rfl
   ·
    refine Run.cnz_k [] 2 tbo rfl ?_
    obtain rfl:=run_done f hx
    refine Run.nnz_kb [] 2 tbo rfl ?_
    exact JN.cutR ⟨(),rfl,rfl,rfl,rfl⟩ rfl rfl rfl
theorem send_blank_1_ok{c}:Con Tryz.prog 100 true ([.w8 c]) (send_blank_1 c) (λr=> [.b r]):=by
 intro H r hx
 refine Does.enterC Tryz.func100 rfl rfl ?_
 intro w
 unfold send_blank_1 at hx
 refine Run.cl [] 8 tbo rfl (JL.val rfl rfl (R.neq8 (a:=c) (b:=(0:UInt8)) rfl rfl) (Run.lnz_s [] 4 tbo rfl ?_))
 exact JN.conQ [] rfl hx rfl rfl
theorem slices_IndexFunc_byte_ok{f}:Con Tryz.prog 137 true ([.sl false RU8 1 f,.fv 100]) (slices_IndexFunc_byte f) (λr=> [.i r]):=by
 intro H x y z a r hx
 refine Does.enterC Tryz.func137 rfl rfl ?_
 intro w
 unfold slices_IndexFunc_byte at hx
 refine Run.cl [] 9 tbo rfl (JL.val rfl rfl (R.lenL U23 rfl (IsSlice.long a)) (Run.lcz_s [] 3 tbo rfl (JC.cutX hx [] [] rfl rfl (λb l0 o0 l o g=>∃h:Unit,l=l0∧o=o0∧H=g∧b=.inl h) (λb a0 hx=> ?_) (λb k hx=> ?_))))
 ·
  rintro _ _ _ ⟨h,rfl,rfl,rfl,rfl⟩
  simp only[Sum.elim_inl]at hx
  refine Run.nnz_s [] 7 tbo rfl ?_
  exact JN.conQ [] rfl hx rfl rfl
 ·
  refine JC.block (JC.loopX [0,1,7] [] rfl rfl (λl0 o0 c l o g=>l=(8,.int .i64 ((c:Nat):Int))::l0∧o=o0∧H=g) hx ⟨rfl,rfl,rfl⟩ rfl ?_)
  ·
   rintro a1 c _ _ _ ⟨rfl,rfl,rfl⟩ a2 hx d
   unfold slices_IndexFunc_byte_l1 at hx
   refine Run.cc [] 6 tbo rfl (JC.ifx hx rfl (λj hx=> ?_) (λj hx=> ?_))
   ·
    refine Run.cl_s [] 15 tbo rfl ?_
    obtain⟨a3,m,hx⟩:=idx_some hx
    obtain⟨a4,a5,a6,p,q,a7,s⟩:=IsSlice.elem a m
    obtain rfl:=q
    refine JL.val rfl rfl (R.ix U23 S5 rfl rfl p) (JL.val rfl rfl (R.ldH S5 rfl (s 0 _ rfl)) (JL.conQ hx E100 rfl send_blank_1_ok rfl trivial ?_))
    intro a8 a9 hx
    refine Run.lcz_s [] 2 tbo rfl (JC.ifx hx rfl (λv hx=> ?_) (λv hx=> ?_))
    ·
     refine Run.cnz_bk [] 9 tbo rfl ?_
     obtain rfl:=run_done d hx
     refine Run.nnz_kb [] 2 tbo rfl ?_
     clear hx;have hx:=k
     simp only[Sum.elim_inl,Sum.elim_inr]at hx
     refine Run.nnz_kk [] 2 tbo rfl ?_
     exact JN.conQ [] rfl hx rfl rfl
    ·
     refine Run.clz_bs [] 4 tbo rfl (JL.val rfl rfl (R.inc rfl rfl (of_decide_eq_true j) (IsSlice.lenI a)) (Run.lnz [] 2 tbo rfl ?_))
     replace hx:=run_next d hx
     exact JN.cutR ⟨c+1,⟨rfl,rfl,rfl⟩,hx⟩ rfl rfl rfl
   ·
    refine Run.cnz_k [] 2 tbo rfl ?_
    obtain rfl:=run_done d hx
    refine Run.nnz_kb [] 2 tbo rfl ?_
    exact JN.cutR ⟨(),rfl,rfl,rfl,rfl⟩ rfl rfl rfl
theorem slices_ContainsFunc_byte_ok{a}:Con Tryz.prog 99 true ([.sl false RU8 1 a,.fv 100]) (slices_ContainsFunc_byte a) (λr=> [.b r]):=by
 intro H d f h c r hx
 refine Does.enterC Tryz.func99 rfl rfl ?_
 intro w
 unfold slices_ContainsFunc_byte at hx
 refine Run.cl [] 9 tbo rfl (JL.conQ hx E137 rfl slices_IndexFunc_byte_ok rfl ⟨c,trivial⟩ ?_)
 intro i j hx
 refine Run.lnz_s [] 5 tbo rfl ?_
 exact JN.conQ [] rfl hx rfl rfl
theorem send_blank_ok{a}:Con Tryz.prog 56 true ([.sl false RU8 1 a]) (send_blank a) (λr=> [.b r]):=by
 intro H d f h c r hx
 refine Does.enterC Tryz.func56 rfl rfl ?_
 intro w
 unfold send_blank at hx
 refine Run.cl [] 8 tbo rfl (JL.conQ hx E99 rfl slices_ContainsFunc_byte_ok rfl ⟨c,trivial⟩ ?_)
 intro i j hx
 refine Run.lnz_s [] 5 tbo rfl ?_
 exact JN.conQ [] rfl hx rfl rfl
theorem send_part_ok{d}:Con Tryz.prog 29 false (sp_Part false d) (send_part d) (λr=> [.b r]):=by
 intro H b9 c0 c1 c r hx
 refine Does.enterC Tryz.func29 rfl rfl ?_
 intro w
 unfold send_part at hx
 refine Run.cl [] 2 tbo rfl (JL.box rfl rfl (λc2 c3=>Run.lc_s [] 4 tbo rfl (JC.cutX hx [1] [0] rfl rfl (λf l0 o0 l o g=>l=(3,.bool f)::l0∧o=o0∧H=g) (λf c4 hx=> ?_) (λf c5 hx=> ?_))))
 ·
  rintro _ _ _ ⟨rfl,rfl,rfl⟩
  refine Run.nc_s [0] 12 tbo rfl (JC.cutX hx [1,3] [0] rfl rfl (λh l0 o0 l o g=>l=(14,.bool h)::l0∧o=o0∧H=g) (λh c6 hx=> ?_) (λh c7 hx=> ?_))
  ·
   rintro _ _ _ ⟨rfl,rfl,rfl⟩
   refine JN.next (JC.ifx hx rfl (λp hx=> ?_) (λp hx=> ?_))
   ·
    refine Run.cnz_bk [] 8 tbo rfl ?_
    exact JN.con [] rfl hx rfl rfl
   ·
    refine Run.ccz [0] 8 tbo rfl (JC.ifx hx rfl (λq hx=> ?_) (λq hx=> ?_))
    ·
     refine JC.seq (JC.cutX hx [] [] rfl rfl (λi l0 o0 l o g=>l=(2,.bool i)::l0∧o=o0∧H=g) (λi c8 hx=> ?_) (λi c9 hx=> ?_))
     ·
      rintro _ _ _ ⟨rfl,rfl,rfl⟩
      refine Run.nnz_sbk [] 4 tbo rfl ?_
      exact JN.con [] rfl hx rfl rfl
     ·
      refine Run.clz [0] 3 tbo rfl (JL.val rfl rfl (R.lenL U23 rfl (IsSlice.long c)) (Run.llz [] 2 tbo rfl (JL.gX 35 hx rfl (λs hx=> ?_) (λs hx=> ?_))))
      ·
       refine Run.llz [] 6 tbo rfl (JL.gX 39 hx rfl (λv hx=> ?_) (λv hx=> ?_))
       ·
        refine Run.lnz [] 7 tbo rfl ?_
        obtain rfl:=Option.some.inj hx
        refine JN.forget 0 ?_
        exact JN.cutR ⟨rfl,rfl,rfl⟩ rfl rfl rfl
       ·
        refine Run.llz [0] 5 tbo rfl (JL.val rfl rfl (R.lenL U23 rfl (IsSlice.long c)) (Run.lnz [] 5 tbo rfl ?_))
        obtain rfl:=Option.some.inj hx
        refine JN.forget 0 ?_
        exact JN.cutR ⟨rfl,rfl,rfl⟩ rfl rfl rfl
      ·
       refine Run.llz [0] 9 tbo rfl (JL.val rfl rfl (R.lenL U23 rfl (IsSlice.long c)) (Run.lnz [] 5 tbo rfl ?_))
       obtain rfl:=Option.some.inj hx
       refine JN.forget 0 ?_
       exact JN.cutR ⟨rfl,rfl,rfl⟩ rfl rfl rfl
    ·
     refine Run.cl [0] 5 tbo rfl (JL.val rfl rfl (R.lenL U23 rfl (IsSlice.long c)) (Run.lcz_s [] 4 tbo rfl (JC.cutX hx [1] [0] rfl rfl (λj l0 o0 l o g=>l=(45,.bool j)::l0∧o=o0∧H=g) (λj d0 hx=> ?_) (λj d1 hx=> ?_))))
     ·
      rintro _ _ _ ⟨rfl,rfl,rfl⟩
      refine JN.next (JC.ifx hx rfl (λx hx=> ?_) (λx hx=> ?_))
      ·
       refine Run.cnz_bk [] 8 tbo rfl ?_
       exact JN.con [] rfl hx rfl rfl
      ·
       refine Run.cl_bs [0] 7 tbo rfl ?_
       obtain⟨d2,y,hx⟩:=bnd_some hx
       refine JL.callC (vs:=[_,_,_]) (args:=[_,_,_]) (K:=[]) (rst:=[_]) E17 rfl rfl rfl picks0 (code_Get_ok d.Data 2 2 _ c _ y) rfl (λd3 d4 z a0 m d5=> ?_)
       obtain⟨rfl,rfl,-⟩:=a0
       refine Run.lc_s [] 8 tbo rfl (JC.cutX hx [] [] rfl rfl (λk l0 o0 l o g=>l=(2,.bool k)::l0∧o=o0∧z=g) (λk d6 hx=> ?_) (λk d7 hx=> ?_))
       ·
        rintro _ _ _ ⟨rfl,rfl,rfl⟩
        refine Run.nnz_s [] 2 tbo rfl ?_
        exact JN.con [] rfl hx rfl rfl
       ·
        refine Run.clz [] 4 tbo rfl (JL.gX 64 hx rfl (λa1 hx=> ?_) (λa1 hx=> ?_))
        ·
         refine Run.llz [0] 5 tbo rfl ?_
         obtain⟨a2,a3,hx⟩:=idx_some hx
         obtain⟨d8,d9,e0,a4,a5,e1,a6⟩:=IsSlice.elem (c.mono RU8.mono m) a3
         obtain rfl:=a5
         refine JL.val rfl rfl (R.ix U23 S5 rfl rfl a4) (JL.gYes rfl rfl rfl (JL.val rfl rfl (R.ldH S5 rfl (a6 0 _ rfl)) (JL.gYes rfl rfl rfl (JL.val rfl rfl (R.gtr8 (a:=a2) (b:=(0:UInt8)) rfl rfl) (Run.llz [] 2 tbo rfl (JL.gX 70 hx rfl (λa7 hx=> ?_) (λa7 hx=> ?_)))))))
         ·
          refine Run.lnz [] 8 tbo rfl ?_
          obtain rfl:=Option.some.inj hx
          refine JN.forget 0 ?_
          exact JN.cutR ⟨rfl,rfl,rfl⟩ rfl rfl rfl
         ·
          refine Run.llz [0] 5 tbo rfl (JL.conQ hx E56 rfl send_blank_ok rfl ⟨(c.mono RU8.mono m),trivial⟩ ?_)
          intro e2 e3 hx
          refine Run.lnz [] 5 tbo rfl ?_
          obtain rfl:=Option.some.inj hx
          refine JN.forget 0 ?_
          exact JN.cutR ⟨rfl,rfl,rfl⟩ rfl rfl rfl
        ·
         refine Run.lnz [] 13 tbo rfl ?_
         obtain rfl:=Option.some.inj hx
         refine JN.forget 0 ?_
         exact JN.cutR ⟨rfl,rfl,rfl⟩ rfl rfl rfl
     ·
      refine JC.ifx hx rfl (λa8 hx=> ?_) (λa8 hx=> ?_)
      ·
       refine JC.skip ?_
       obtain rfl:=Option.some.inj hx
       exact JN.cutR ⟨rfl,rfl,rfl⟩ rfl rfl rfl
      ·
       refine Run.ccz [] 6 tbo rfl (JC.ifx hx rfl (λa9 hx=> ?_) (λa9 hx=> ?_))
       ·
        refine JC.skip ?_
        obtain rfl:=Option.some.inj hx
        exact JN.cutR ⟨rfl,rfl,rfl⟩ rfl rfl rfl
       ·
        refine Run.clz [0] 3 tbo rfl ?_
        obtain⟨b0,b1,hx⟩:=idx_some hx
        obtain⟨e4,e5,e6,b2,b3,e7,b4⟩:=IsSlice.elem c b1
        obtain rfl:=b3
        refine JL.val rfl rfl (R.ix U23 S5 rfl rfl b2) (JL.val rfl rfl (R.ldH S5 rfl (b4 0 _ rfl)) (JL.val rfl rfl (R.gtr8 (a:=b0) (b:=(7:UInt8)) rfl rfl) (Run.lnz [] 2 tbo rfl ?_)))
        obtain rfl:=Option.some.inj hx
        exact JN.cutR ⟨rfl,rfl,rfl⟩ rfl rfl rfl
  ·
   refine JC.ifx hx rfl (λb5 hx=> ?_) (λb5 hx=> ?_)
   ·
    refine JC.skip ?_
    obtain rfl:=Option.some.inj hx
    exact JN.cutR ⟨rfl,rfl,rfl⟩ rfl rfl rfl
   ·
    refine Run.ccz [0] 8 tbo rfl (JC.ifx hx rfl (λb6 hx=> ?_) (λb6 hx=> ?_))
    ·
     refine JC.skip ?_
     obtain rfl:=Option.some.inj hx
     exact JN.cutR ⟨rfl,rfl,rfl⟩ rfl rfl rfl
    ·
     refine Run.ccz [0] 8 tbo rfl (JC.ifx hx rfl (λb7 hx=> ?_) (λb7 hx=> ?_))
     ·
      refine JC.skip ?_
      obtain rfl:=Option.some.inj hx
      exact JN.cutR ⟨rfl,rfl,rfl⟩ rfl rfl rfl
     ·
      refine Run.cnz [0] 6 tbo rfl ?_
      obtain rfl:=Option.some.inj hx
      exact JN.cutR ⟨rfl,rfl,rfl⟩ rfl rfl rfl
 ·
  refine Run.clz [0] 3 tbo rfl (JL.val rfl rfl (R.neq32 (a:=d.Iv) (b:=(0:UInt32)) rfl rfl) (JL.val rfl rfl (R.move rfl) (JL.gX 9 hx rfl (λb8 hx=> ?_) (λb8 hx=> ?_))))
  ·
   refine Run.lnz [] 6 tbo rfl ?_
   obtain rfl:=Option.some.inj hx
   exact JN.cutR ⟨rfl,rfl,rfl⟩ rfl rfl rfl
  ·
   refine Run.llz [0] 5 tbo rfl (JL.val rfl rfl (R.neq32 (a:=d.Tag) (b:=(0:UInt32)) rfl rfl) (Run.lnz [] 3 tbo rfl ?_))
   obtain rfl:=Option.some.inj hx
   exact JN.cutR ⟨rfl,rfl,rfl⟩ rfl rfl rfl
theorem send_may_ok{k}:Con Tryz.prog 12 false (sp_Stream false k) (send_may k) (λr=> [.b r]):=by
 intro H d7 d8 d9 b0 e0 e1 e2 f e3 e4 e5 b1 r hx
 refine Does.enterC Tryz.func12 rfl rfl ?_
 intro w
 unfold send_may at hx
 refine Run.cl [] 2 tbo rfl (JL.box rfl rfl (λe6 e7=>Run.ll_s [0] 8 tbo rfl (JL.val rfl rfl (R.eql32 (a:=k.Guid) (b:=(0:UInt32)) rfl rfl) (JL.val rfl rfl (R.move rfl) (JL.gX 9 hx rfl (λb2 hx=> ?_) (λb2 hx=> ?_))))))
 ·
  refine Run.lnz_sk [] 34 tbo rfl ?_
  exact JN.con [] rfl hx rfl rfl
 ·
  refine Run.llz [0,0] 9 tbo rfl (JL.val rfl rfl (R.eql32 (a:=k.Guid) (b:=k.Base) rfl rfl) (Run.llz [] 2 tbo rfl (JL.gX 16 hx rfl (λb3 hx=> ?_) (λb3 hx=> ?_))))
  ·
   refine Run.lnz_sk [] 27 tbo rfl ?_
   exact JN.con [] rfl hx rfl rfl
  ·
   refine Run.llz [0] 5 tbo rfl (JL.val rfl rfl (R.lenL U23 rfl (IsSlice.long b0)) (Run.llz [] 4 tbo rfl (JL.gX 22 hx rfl (λb4 hx=> ?_) (λb4 hx=> ?_))))
   ·
    refine Run.lnz_sk [] 21 tbo rfl ?_
    exact JN.con [] rfl hx rfl rfl
   ·
    refine Run.llz [0] 5 tbo rfl (JL.val rfl rfl (R.lenL U23 rfl (IsSlice.long b1)) (Run.llz [] 4 tbo rfl (JL.gX 28 hx rfl (λb5 hx=> ?_) (λb5 hx=> ?_))))
    ·
     refine Run.lnz_sk [] 15 tbo rfl ?_
     exact JN.con [] rfl hx rfl rfl
    ·
     refine Run.llz [0] 5 tbo rfl (JL.conQ hx E25 rfl slices_IsSortedFunc_Part_ok rfl ⟨f,trivial⟩ ?_)
     intro e8 e9 hx
     refine Run.lcz_s [] 5 tbo rfl (JC.ifx hx rfl (λb6 hx=> ?_) (λb6 hx=> ?_))
     ·
      refine Run.cnz_k [] 7 tbo rfl ?_
      exact JN.con [] rfl hx rfl rfl
     ·
      refine Run.cl_s [0] 12 tbo rfl (JL.val rfl rfl (R.lenL U24 rfl (IsSlice.long f)) (Run.lcz_s [] 3 tbo rfl (JC.cutX hx [] [] rfl rfl (λx l0 o0 l o g=>∃a3:Unit,∃y:Heaplet,l=l0∧o=o0∧y=g∧x=.inl a3∧Hle H y) (λx f0 hx=> ?_) (λx z hx=> ?_))))
      ·
       rintro _ _ _ ⟨a3,y,rfl,rfl,rfl,rfl,f1⟩
       simp only[Sum.elim_inl]at hx
       refine Run.nnz_s [] 7 tbo rfl ?_
       exact JN.con [] rfl hx rfl rfl
      ·
       refine JC.block (JC.loopX [1,35,36] [0] rfl rfl (λl0 o0 m l o g=>∃p:Heaplet,l=(3,.int .i64 m.1)::(37,.int .i64 ((m.2:Nat):Int))::l0∧o=o0∧p=g∧Hle H p) hx ⟨H,rfl,rfl,rfl,(Hle.refl _)⟩ rfl ?_)
       ·
        rintro f2 m _ _ _ ⟨p,rfl,rfl,rfl,q⟩ f3 hx h
        unfold send_may_l1 at hx
        refine Run.cc [] 6 tbo rfl (JC.ifx hx rfl (λa0 hx=> ?_) (λa0 hx=> ?_))
        ·
         refine Run.cl_s [] 7 tbo rfl ?_
         obtain⟨c,b7,hx⟩:=idx_some hx
         obtain⟨f4,f5,f6,b8,b9,f7,c0⟩:=IsSlice.elem (f.mono R_Part.mono q) b7
         obtain⟨f8,rfl,v⟩:=b9
         obtain⟨a4,a5,rfl⟩:=IsSlice.val v
         refine JL.val rfl rfl (R.ix U24 S57 rfl rfl b8) (JL.val rfl rfl (R.ldHF 0 S57 rfl c0 rfl rfl) (JL.alloc Z57 rfl (λf9 g0=>Run.lc_s [0] 5 tbo rfl (JC.cutX hx [1,3,5,35,36,37] [1,0] rfl rfl (λa1 l0 o0 l o g=>∃a6:Unit,∃j:Heaplet,l=l0∧o=o0∧j=g∧a1=.inl a6∧Hle p j) (λa1 g1 hx=> ?_) (λa1 a7 hx=> ?_)))))
         ·
          rintro _ _ _ ⟨a6,j,rfl,rfl,rfl,rfl,a2⟩
          simp only[Sum.elim_inl]at hx
          refine Run.nc_s [] 2 tbo rfl (JC.cutX hx [1,5,35,36,37] [0,1] rfl rfl (λs l0 o0 l o g=>l=(3,.int .i64 s)::l0∧o=o0∧j=g) (λs g2 hx=> ?_) (λs g3 hx=> ?_))
          ·
           rintro _ _ _ ⟨rfl,rfl,rfl⟩
           refine Run.nl_s [1] 7 tbo rfl (JL.gX 76 hx rfl (λc1 hx=> ?_) (λc1 hx=> ?_))
           ·
            refine Run.lcz_s [1] 11 tbo rfl (JC.ifx hx rfl (λc2 hx=> ?_) (λc2 hx=> ?_))
            ·
             refine Run.cnz_bk [] 8 tbo rfl ?_
             obtain rfl:=run_done h hx
             refine Run.nnz_kb [] 2 tbo rfl ?_
             clear hx;have hx:=z
             simp only[Sum.elim_inl,Sum.elim_inr]at hx
             refine Run.nnz_kk [] 2 tbo rfl ?_
             exact JN.con [] rfl hx rfl rfl
            ·
             refine Run.clz_bs [] 4 tbo rfl (JL.val rfl rfl (R.inc rfl rfl (of_decide_eq_true a0) (IsSlice.lenI f)) (Run.lnz [] 2 tbo rfl ?_))
             replace hx:=run_next h hx
             refine JN.forget 1 ?_
             exact JN.cutR ⟨(s,m.2+1),⟨j,rfl,rfl,rfl,((q.trans a2))⟩,hx⟩ rfl rfl rfl
           ·
            refine Run.llz_sbs [] 12 tbo rfl (JL.val rfl rfl (R.inc rfl rfl (of_decide_eq_true a0) (IsSlice.lenI f)) (Run.lnz [] 2 tbo rfl ?_))
            replace hx:=run_next h hx
            refine JN.forget 1 ?_
            exact JN.cutR ⟨(s,m.2+1),⟨j,rfl,rfl,rfl,((q.trans a2))⟩,hx⟩ rfl rfl rfl
          ·
           refine Run.cl [1] 6 tbo rfl (JL.gX 64 hx rfl (λc3 hx=> ?_) (λc3 hx=> ?_))
           ·
            refine Run.llz [1] 5 tbo rfl ?_
            obtain⟨c4,c5,hx⟩:=idx_some hx
            obtain⟨g4,g5,g6,c6,c7,g7,c8⟩:=IsSlice.elem (v.mono RU8.mono a2) c5
            obtain rfl:=c7
            refine JL.val rfl rfl (R.ix U23 S5 rfl rfl c6) (JL.gYes rfl rfl rfl (JL.val rfl rfl (R.ldH S5 rfl (c8 0 _ rfl)) (JL.gYes rfl rfl rfl (JL.val rfl rfl (R.gtr8 (a:=c4) (b:=(0:UInt8)) rfl rfl) (Run.lcz_s [] 3 tbo rfl (JC.ifx hx rfl (λc9 hx=> ?_) (λc9 hx=> ?_)))))))
            ·
             refine Run.cnz [1] 5 tbo rfl ?_
             obtain rfl:=Option.some.inj hx
             refine JN.front 1 rfl (JN.front 1 rfl ?_)
             exact JN.cutR ⟨rfl,rfl,rfl⟩ rfl rfl rfl
            ·
             refine JC.skip ?_
             obtain rfl:=Option.some.inj hx
             refine JN.front 1 rfl (JN.front 1 rfl ?_)
             exact JN.cutR ⟨rfl,rfl,rfl⟩ rfl rfl rfl
           ·
            refine Run.lnz_s [] 10 tbo rfl ?_
            obtain rfl:=Option.some.inj hx
            refine JN.front 1 rfl (JN.front 1 rfl ?_)
            exact JN.cutR ⟨rfl,rfl,rfl⟩ rfl rfl rfl
         ·
          refine JC.seq (JC.drawB (so:=[(_,[]),(_,[])]) 19 rfl Mixed ⟨by kernel_rfl,by kernel_rfl⟩ (kept0 [0,1] rfl) ?_)
          refine JB.val (i:=0) [] rfl (R.ldoN 0 (vs:=[.int .i64 c.Obj,.int .i64 c.Index,.int .u32 (c.Iv.toNat:Int),.int .u32 (c.Tag.toNat:Int),.slice a4 c.Data.length a5]) S57 rfl rfl rfl rfl) ?_
          refine JB.one (i:=1) (by kernel_rfl) ?_
          refine JOB.step rfl trivial rfl (λK hK=>JL.con hx E29 rfl send_part_ok rfl ⟨v,trivial⟩ ?_)
          intro g8 g9 hx a8 d
          refine JL.nil (hK _ _ _ d (kept0 [0,1] rfl) ?_)
          refine JB.run 2 [2,3] [] tbo rfl ?_
          refine JB.gX 45 hx rfl (λd0 hx=> ?_) (λd0 hx=> ?_)
          ·
           refine JB.run 15 [4,5,6,7,8,9,10,11,12,13,14,15,16,17,18] [] tbo rfl ?_
           refine JB.doneN (by kernel_rfl) ?_
           refine Run.nnz_s [] 8 tbo rfl ?_
           obtain rfl:=Option.some.inj hx
           clear hx;have hx:=a7
           simp only[Sum.elim_inl,Sum.elim_inr]at hx
           refine Run.nnz_kkb [] 3 tbo rfl (JN.passR ?_)
           obtain rfl:=run_done h hx
           refine Run.nnz_kb [] 2 tbo rfl ?_
           clear hx;have hx:=z
           simp only[Sum.elim_inl,Sum.elim_inr]at hx
           refine Run.nnz_kk [] 2 tbo rfl ?_
           exact JN.con [] rfl hx rfl rfl
          ·
           refine JB.run 3 [4,5,6] [] tbo rfl ?_
           refine JB.gX 48 hx rfl (λd1 hx=> ?_) (λd1 hx=> ?_)
           ·
            refine JB.run 4 [7,8,9,10] [1] tbo rfl ?_
            obtain⟨h0,d2,hx⟩:=idx_some hx
            obtain⟨h1,h2,h3,d3,d4,h4,d5⟩:=IsSlice.elem (f.mono R_Part.mono q) d2
            obtain⟨h5,rfl,a9⟩:=d4
            obtain⟨h6,h7,rfl⟩:=IsSlice.val a9
            refine JB.val (i:=11) [] rfl (R.ix U24 S57 rfl rfl d3) ?_
            refine JB.val (i:=12) [] rfl (R.ldHF 0 S57 rfl d5 rfl rfl) ?_
            refine JB.val (i:=14) [] rfl (R.ldoN 0 (vs:=[.int .i64 c.Obj,.int .i64 c.Index,.int .u32 (c.Iv.toNat:Int),.int .u32 (c.Tag.toNat:Int),.slice a4 c.Data.length a5]) S57 rfl rfl rfl rfl) ?_
            refine JB.one (i:=13) (by kernel_rfl) ?_
            refine JOB.step rfl ⟨_,_,rfl,rfl,rfl⟩ rfl (λK hK=>JL.conQ hx E28 rfl send_place_ok rfl ⟨(a9.mono RU8.mono d),trivial⟩ ?_)
            intro h8 h9 hx
            refine JL.nil (hK _ _ _ d (kept0 [0,1] rfl) ?_)
            refine JB.one (i:=15) (by kernel_rfl) ?_
            refine JOB.step rfl ⟨_,_,rfl,rfl,rfl⟩ rfl (λK hK=>JL.conQ hx E28 rfl send_place_ok rfl ⟨(v.mono RU8.mono d),trivial⟩ ?_)
            intro i0 i1 hx
            refine JL.nil (hK _ _ _ d (kept0 [0,1] rfl) ?_)
            refine JB.run 3 [16,17,18] [] tbo rfl ?_
            refine JB.doneN (by kernel_rfl) ?_
            refine JN.next (JC.ifx hx rfl (λd6 hx=> ?_) (λd6 hx=> ?_))
            ·
             refine Run.cnz [] 6 tbo rfl ?_
             obtain rfl:=Option.some.inj hx
             clear hx;have hx:=a7
             simp only[Sum.elim_inl,Sum.elim_inr]at hx
             refine Run.nnz_kkb [] 3 tbo rfl (JN.passR ?_)
             obtain rfl:=run_done h hx
             refine Run.nnz_kb [] 2 tbo rfl ?_
             clear hx;have hx:=z
             simp only[Sum.elim_inl,Sum.elim_inr]at hx
             refine Run.nnz_kk [] 2 tbo rfl ?_
             exact JN.con [] rfl hx rfl rfl
            ·
             refine JC.skip ?_
             obtain rfl:=Option.some.inj hx
             refine JN.front 1 rfl ?_
             exact JN.cutR ⟨(),a8,rfl,rfl,rfl,rfl,(d)⟩ rfl rfl rfl
           ·
            refine JB.run 12 [7,8,9,10,11,12,13,14,15,16,17,18] [] tbo rfl ?_
            refine JB.doneN (by kernel_rfl) ?_
            refine Run.nnz_s [] 3 tbo rfl ?_
            obtain rfl:=Option.some.inj hx
            refine JN.front 1 rfl ?_
            exact JN.cutR ⟨(),a8,rfl,rfl,rfl,rfl,(d)⟩ rfl rfl rfl
        ·
         refine Run.cnz_k [] 2 tbo rfl ?_
         obtain rfl:=run_done h hx
         refine Run.nnz_kb [] 2 tbo rfl (JN.forget 0 ?_)
         exact JN.cutR ⟨(),p,rfl,rfl,rfl,rfl,(q)⟩ rfl rfl rfl
theorem send_put_ok (a5:List UInt8)(a:Int)(a6:List Int)(H:Heaplet){b:Option Addr}{c:Nat}{d:Nat}{a0:Own}{j:Option Addr}{k:Nat}{m:Nat}(a1:RowOf H RU8 0 5 1 (.slice b c d) a5 a0)(a2:IsSlice H RInt 1 (.slice j k m) a6)(r:List UInt8)(hx:send_put a5 a a6=some r):
  Does Tryz.prog 30 #[.slice b c d,.int .i64 a,.slice j k m] [a0] H (λu K' H'=>∃ao0:Option Addr,∃n0:Nat,∃cap0:Nat,∃K0:Own,u=.slice ao0 n0 cap0∧K'= [K0]∧H=H'∧RowOf (New H H) RU8 0 5 1 (.slice ao0 n0 cap0) r K0∧True):=by
 refine Does.enterL (vs:=[.slice b c d,.int .i64 a,.slice j k m]) (l:=[(0,.slice b c d),(1,.int .i64 a),(2,.slice j k m)]) Tryz.func30 rfl rfl ⟨rfl,rfl,rfl,trivial⟩ (λw hlt=> ?_)
 replace a1:=RowOf.const (H2:=New H H) RU8.const a1
 unfold send_put at hx
 refine Run.cl [] 9 tbo rfl (JL.val rfl rfl (R.lenL U44 rfl (IsSlice.long a2)) (Run.lcz_s [] 3 tbo rfl (JC.cutX hx [] [] rfl rfl (λa3 l0 o0 l o g=>∃f:Option Addr,∃h:Nat,∃i:Nat,∃q:Own,l=(0,.slice f h i)::l0∧o=q::o0∧H=g∧RowOf (New H H) RU8 0 5 1 (.slice f h i) a3 q) (λa3 c7 hx=> ?_) (λa3 c8 hx=> ?_))))
 ·
  rintro _ _ _ ⟨f,h,i,q,rfl,rfl,rfl,b2⟩
  refine Run.nnz_s [] 8 tbo rfl (JN.outP (vs:=[.slice f h i]) (K:=[_]) (rst:=[]) (.inl rfl) rfl rfl (Res.tmp rfl rfl) (picks 0 rfl picks0) ?_)
  obtain rfl:=Option.some.inj hx
  exact⟨f,h,i,q,rfl,rfl,rfl,(RowOf.weak (Nat.zero_le _) b2),trivial⟩
 ·
  refine JC.block (JC.loopX [1,11,12] [] rfl rfl (λl0 o0 s l o g=>∃v:Option Addr,∃x:Nat,∃y:Nat,∃z:Own,l=(0,.slice v x y)::(13,.int .i64 ((s.2:Nat):Int))::l0∧o=z::o0∧H=g∧RowOf (New H H) RU8 0 5 1 (.slice v x y) s.1 z) hx ⟨b,c,d,a0,rfl,rfl,rfl,a1⟩ rfl ?_)
  ·
   rintro c9 s _ _ _ ⟨v,x,y,z,rfl,rfl,rfl,a7⟩ d0 hx a8
   unfold send_put_l1 at hx
   refine Run.cc [] 6 tbo rfl (JC.ifx hx rfl (λa9 hx=> ?_) (λa9 hx=> ?_))
   ·
    refine Run.cl_s [] 6 tbo rfl ?_
    obtain⟨b3,b4,hx⟩:=idx_some hx
    obtain⟨d1,d2,d3,b5,b6,d4,b7⟩:=IsSlice.elem a2 b4
    obtain rfl:=b6
    refine JL.val rfl rfl (R.ix U44 S3 rfl rfl b5) (JL.val rfl rfl (R.ldH S3 rfl (b7 0 _ rfl)) (Run.ll_s [] 7 tbo rfl ?_))
    obtain⟨d5,b8,hx⟩:=bnd_some hx
    refine JL.callC (vs:=[_,_]) (args:=[_,_]) (K:=[]) (rst:=[_]) E57 rfl rfl rfl picks0 (code_Put_ok b3 a _ _ b8) rfl (λd6 d7 d8 b9 d9 c0=> ?_)
    obtain⟨e0,e1,e2,e3,rfl,rfl,rfl,a4,c1,-⟩:=b9
    replace a4:=(RowOf.base (RowOf.const (H2:=New H H) RU8.const a4) (λp hp=>(c0 p (mem_seg 0 rfl hp)).resolve_left (c1 p hp)))
    refine Run.llz_s [] 10 tbo rfl ?_
    obtain⟨b0,c2,c3,hx⟩:=app_some hx
    refine JL.appF (HF:=(New H H)) 1 U23 I5 rfl rfl a7 rfl (SrcF.row 0 U23 rfl a4) c2 c3 rfl (Nat.zero_le _) rfl (λe4 c4 b1=> ?_)
    obtain⟨c5,c6,rfl⟩:=RowOf.val b1
    refine Run.llz_bs [] 5 tbo rfl (JL.val rfl rfl (R.inc rfl rfl (of_decide_eq_true a9) (IsSlice.lenI a2)) (Run.lnz [] 2 tbo rfl ?_))
    replace hx:=run_next a8 hx
    refine JN.forget 0 ?_
    exact JN.cutR ⟨(b0,s.2+1),⟨c5,b0.length,c6,c4,rfl,rfl,rfl,b1⟩,hx⟩ rfl rfl rfl
   ·
    refine Run.cnz_k [] 2 tbo rfl ?_
    obtain rfl:=run_done a8 hx
    refine Run.nnz_kb [] 2 tbo rfl ?_
    exact JN.cutR ⟨v,x,y,z,rfl,rfl,rfl,a7⟩ rfl rfl rfl
theorem send_text_ok{d}:Con Tryz.prog 13 false (sp_Stream false d) (send_text d) (λr=> [.row true RU8 5 1 r]):=by
 intro H m3 m4 m5 f7 m6 m7 m8 b9 m9 n0 n1 n2 r hx
 refine Does.enterC Tryz.func13 rfl rfl ?_
 intro w
 unfold send_text at hx
 refine Run.cl [] 2 tbo rfl (JL.box rfl rfl (λn3 n4=>Run.ll_s [] 5 tbo rfl (JL.bslF (HF:=(New H H)) (R:=RU8) (ls:=[(83:UInt8)]) (vs:=[.int .u8 ((83:UInt8).toNat:Int)]) U23 I5 rfl rfl (⟨_,_,rfl,rfl,rfl,rfl⟩) RU8.one rfl rfl rfl (by simp[maxLen]) rfl (λn5 n6 d2=> ?_))))
 obtain⟨n7,n8,rfl⟩:=RowOf.val d2
 refine Run.llz [1] 2 tbo rfl (JL.val rfl rfl (R.cv_u32_i64 (a:=d.Guid) U22 U3 rfl) (Run.llz [1] 2 tbo rfl (JL.val rfl rfl (R.cv_u32_i64 (a:=d.Base) U22 U3 rfl) (JL.bslF (HF:=(New H H)) (R:=RInt) (ls:=[(d.Guid.toNat:Int),(d.Base.toNat:Int)]) (vs:=[.int .i64 (d.Guid.toNat:Int),.int .i64 (d.Base.toNat:Int)]) U44 I3 rfl rfl (⟨_,_,rfl,rfl,rfl,⟨_,_,rfl,rfl,rfl,rfl⟩⟩) RInt.one rfl rfl rfl (by simp[maxLen]) rfl (λn9 o1 f8=> ?_)))))
 obtain⟨o2,o3,rfl⟩:=RowOf.val f8
 refine JL.pubN 0 RInt.mono rfl f8 (Nat.le_refl _) (λa2 c0 i6=>JL.forget 0 ?_)
 obtain⟨o4,i7,hx⟩:=bnd_some hx
 refine JL.callC (vs:=[_,_,_]) (args:=[_,_,_]) (K:=[_]) (rst:=[_]) E30 rfl rfl rfl (picks 0 rfl picks0) (send_put_ok ([(83:UInt8)]) 4 ([(d.Guid.toNat:Int),(d.Base.toNat:Int)]) _ (RowOf.weak (Nat.zero_le _) (RowOf.const RU8.const (d2.mono RU8.mono (New.mono c0)))) (i6.old RInt.mono) _ i7) rfl (λo5 o6 o7 i8 o8 i9=> ?_)
 obtain⟨o9,p0,p1,p2,rfl,rfl,rfl,c1,-⟩:=i8
 replace c1:=(RowOf.up (RowOf.const (H2:=New H a2) RU8.const c1) (λp hp=>i9 p (mem_seg 0 rfl hp)) (ids_cons (RowOf.ge d2) ids_nil))
 refine Run.lc_s [] 4 tbo rfl (JC.cutX hx [1] [1] rfl rfl (λd3 l0 o0 l o g=>∃v:Heaplet,∃c2:Option Addr,∃c3:Nat,∃c4:Nat,∃c5:Own,l=(3,.slice c2 c3 c4)::l0∧o=c5::o0∧v=g∧Hle a2 v∧RowOf (New H v) RU8 w.heap.size 5 1 (.slice c2 c3 c4) d3 c5) (λd3 p3 hx=> ?_) (λd3 p4 hx=> ?_))
 ·
  rintro _ _ _ ⟨v,c2,c3,c4,c5,rfl,rfl,rfl,j0,j1⟩
  refine Run.nl_s [1] 6 tbo rfl (JL.val rfl rfl (R.lenL U24 rfl (IsSlice.long b9)) (Run.lcz_s [] 3 tbo rfl (JC.cutX hx [] [] rfl rfl (λd4 l0 o0 l o g=>∃c6:Heaplet,∃d5:Option Addr,∃d6:Nat,∃d7:Nat,∃d8:Own,l=(3,.slice d5 d6 d7)::l0∧o=d8::o0∧c6=g∧Hle v c6∧RowOf (New H c6) RU8 w.heap.size 5 1 (.slice d5 d6 d7) d4 d8) (λd4 p5 hx=> ?_) (λd4 p6 hx=> ?_))))
  ·
   rintro _ _ _ ⟨c6,d5,d6,d7,d8,rfl,rfl,rfl,p7,j2⟩
   refine Run.nnz_s [] 8 tbo rfl ?_
   exact JN.con [0] rfl hx rfl ⟨⟨_,j2⟩,rfl⟩
  ·
   refine JC.block (JC.forget 1 (JC.loopX [25,26] [] rfl rfl (λl0 o0 x l o g=>∃m:Heaplet,∃c7:Option Addr,∃c8:Nat,∃c9:Nat,∃d0:Own,l=(3,.slice c7 c8 c9)::(27,.int .i64 ((x.2:Nat):Int))::l0∧o=d0::o0∧m=g∧Hle v m∧RowOf (New H m) RU8 w.heap.size 5 1 (.slice c7 c8 c9) x.1 d0) hx ⟨v,c2,c3,c4,c5,rfl,rfl,rfl,(Hle.refl _),j1⟩ rfl ?_))
   ·
    rintro p8 x _ _ _ ⟨m,c7,c8,c9,d0,rfl,rfl,rfl,d9,y⟩ p9 hx f9
    unfold send_text_l1 at hx
    refine Run.cc [] 6 tbo rfl (JC.ifx hx rfl (λg0 hx=> ?_) (λg0 hx=> ?_))
    ·
     refine Run.cl_s [] 6 tbo rfl ?_
     obtain⟨b,j3,hx⟩:=idx_some hx
     obtain⟨q0,q1,q2,j4,j5,q3,j6⟩:=IsSlice.elem (b9.mono R_Part.mono (c0.trans (j0.trans d9))) j3
     obtain⟨q4,rfl,e0⟩:=j5
     obtain⟨q5,q6,rfl⟩:=IsSlice.val e0
     refine JL.val rfl rfl (R.ix U24 S57 rfl rfl j4) (JL.val rfl rfl (R.ldHF 0 S57 rfl j6 rfl rfl) (JL.alloc Z57 rfl (λq7 q8=>Run.lc_s [0] 4 tbo rfl (JC.cutX hx [5,25,26,27] [0] rfl rfl (λd1 l0 o0 l o g=>∃a5:Heaplet,∃e1:Option Addr,∃e2:Nat,∃e3:Nat,∃e4:Own,l=(3,.slice e1 e2 e3)::l0∧o=e4::o0∧a5=g∧Hle m a5∧RowOf (New H a5) RU8 w.heap.size 5 1 (.slice e1 e2 e3) d1 e4) (λd1 q9 hx=> ?_) (λd1 r0 hx=> ?_)))))
     ·
      rintro _ _ _ ⟨a5,e1,e2,e3,e4,rfl,rfl,rfl,g1,g2⟩
      refine JN.next (JC.drawB (so:=[(_,[5]),(_,[])]) 10 rfl Mixed ⟨by kernel_rfl,by kernel_rfl⟩ (kept0 [0,1] rfl) ?_)
      refine JB.run 3 [0,1,2] [0] tbo rfl ?_
      refine JB.val (i:=3) [] rfl (R.lenL U23 rfl (IsSlice.long e0)) ?_
      refine JB.run 2 [6,7] [0] tbo rfl ?_
      refine JB.one (i:=4) (by kernel_rfl) ?_
      refine JOB.step rfl trivial rfl (λK hK=>JL.bslF (HF:=(New H a5)) (R:=RInt) (ls:=[(b.Data.length:Int)]) (vs:=[.int .i64 (b.Data.length:Int)]) U44 I3 rfl rfl (⟨_,_,rfl,rfl,rfl,rfl⟩) RInt.one rfl rfl rfl (by simp[maxLen]) rfl (λr1 r2 g3=> ?_))
      obtain⟨r3,r4,rfl⟩:=RowOf.val g3
      refine JL.nil (hK _ _ _ (Hle.refl _) (kept0 [1,2] rfl) ?_)
      refine JB.one (i:=5) (by kernel_rfl) ?_
      refine JOB.step rfl trivial rfl (λK hK=>JL.pubN 0 RInt.mono rfl g3 (Nat.le_refl _) (λe5 a6 j7=>JL.forget 0 ?_))
      obtain⟨r5,j8,hx⟩:=bnd_some hx
      refine JL.callC (vs:=[_,_,_]) (args:=[_,_,_]) (K:=[_]) (rst:=[_]) E30 rfl rfl rfl (picks 0 rfl picks0) (send_put_ok d1 2 ([(b.Data.length:Int)]) _ (RowOf.weak (Nat.zero_le _) (RowOf.const RU8.const (g2.mono RU8.mono (New.mono a6)))) (j7.old RInt.mono) _ j8) rfl (λr6 r7 r8 j9 r9 k0=> ?_)
      obtain⟨s0,s1,s2,s3,rfl,rfl,rfl,e6,-⟩:=j9
      replace e6:=(RowOf.up (RowOf.const (H2:=New H e5) RU8.const e6) (λp hp=>k0 p (mem_seg 0 rfl hp)) (ids_cons (RowOf.ge g2) ids_nil))
      refine JL.nil (hK _ _ _ a6 (kept1 [true,false] [0,1] (by kernel_rfl) rfl) ?_)
      refine JB.one (i:=8) (by kernel_rfl) ?_
      refine JOB.step rfl trivial rfl (λK hK=> ?_)
      obtain⟨g4,k1,k2,hx⟩:=app_some hx
      refine JL.appF (HF:=(New H e5)) 0 U23 I5 rfl rfl e6 rfl (SrcF.sliceC RU8.const RU8.one U23 (e0.mono RU8.mono (g1.trans a6))) k1 k2 rfl (Nat.le_refl _) rfl (λs4 k3 g5=> ?_)
      obtain⟨k4,k5,rfl⟩:=RowOf.val g5
      refine JL.nil (hK _ _ _ a6 (kept1 [true,false] [0,1] (by kernel_rfl) rfl) ?_)
      refine JB.val (i:=9) [] rfl (R.assign rfl) ?_
      refine JB.doneN (by kernel_rfl) ?_
      refine Run.nlz_bs [] 3 tbo rfl (JL.val rfl rfl (R.inc rfl rfl (of_decide_eq_true g0) (IsSlice.lenI b9)) (Run.lnz [] 2 tbo rfl ?_))
      replace hx:=run_next f9 hx
      refine JN.forget 1 ?_
      exact JN.cutR ⟨(g4,x.2+1),⟨e5,k4,g4.length,k5,k3,rfl,rfl,rfl,((d9.trans (g1.trans a6))),g5⟩,hx⟩ rfl rfl rfl
     ·
      refine JC.drawB (so:=[(_,[]),(_,[6])]) 16 rfl Mixed ⟨by kernel_rfl,by kernel_rfl⟩ (kept0 [0,1] rfl) ?_
      refine JB.run 7 [0,1,2,3,4,7,8] [0,0,0] tbo rfl ?_
      refine JB.val (i:=9) [] rfl (R.cv_u32_i64 (a:=b.Iv) U22 U3 rfl) ?_
      refine JB.run 2 [10,11] [0] tbo rfl ?_
      refine JB.val (i:=12) [] rfl (R.cv_u32_i64 (a:=b.Tag) U22 U3 rfl) ?_
      obtain⟨e7,e8,hx⟩:=bnd_some hx
      obtain⟨s5,e9,hx⟩:=bnd_some hx
      refine JB.two (i:=5) (j:=13) (by kernel_rfl) ?_ ?_
      ·
       refine JOB.step rfl trivial rfl (λK hK=>JL.bslF (HF:=(New H m)) (R:=RInt) (ls:=[b.Obj,b.Index]) (vs:=[.int .i64 b.Obj,.int .i64 b.Index]) U44 I3 rfl rfl (⟨_,_,rfl,rfl,rfl,⟨_,_,rfl,rfl,rfl,rfl⟩⟩) RInt.one rfl rfl rfl (by simp[maxLen]) rfl (λk6 k7 a3=> ?_))
       obtain⟨k8,k9,rfl⟩:=RowOf.val a3
       refine JL.nil (hK _ _ _ (Hle.refl _) (kept0 [1,2] rfl) ?_)
       refine JB.two (i:=6) (j:=13) (by kernel_rfl) ?_ ?_
       ·
        refine JOB.step rfl trivial rfl (λK hK=>JL.pubN 0 RInt.mono rfl a3 (Nat.le_refl _) (λa4 c a7=>JL.forget 0 (JL.callC (vs:=[_,_,_]) (args:=[_,_,_]) (K:=[_]) (rst:=[_]) E30 rfl rfl rfl (picks 1 rfl picks0) (send_put_ok x.1 1 ([b.Obj,b.Index]) _ (RowOf.weak (Nat.zero_le _) (RowOf.const RU8.const (y.mono RU8.mono (New.mono c)))) (a7.old RInt.mono) _ e8) rfl (λg6 g7 g8 a8 g9 a9=> ?_))))
        obtain⟨h0,h1,h2,h3,rfl,rfl,rfl,f,-⟩:=a8
        replace f:=(RowOf.up (RowOf.const (H2:=New H a4) RU8.const f) (λp hp=>a9 p (mem_seg 0 rfl hp)) (ids_cons (RowOf.ge y) ids_nil))
        refine JL.nil (hK _ _ _ c (kept1 [false,true] [1,0] (by kernel_rfl) rfl) ?_)
        refine JB.one (i:=13) (by kernel_rfl) ?_
        refine JOB.step rfl trivial rfl (λK hK=>JL.bslF (HF:=(New H a4)) (R:=RInt) (ls:=[(b.Iv.toNat:Int),(b.Tag.toNat:Int)]) (vs:=[.int .i64 (b.Iv.toNat:Int),.int .i64 (b.Tag.toNat:Int)]) U44 I3 rfl rfl (⟨_,_,rfl,rfl,rfl,⟨_,_,rfl,rfl,rfl,rfl⟩⟩) RInt.one rfl rfl rfl (by simp[maxLen]) rfl (λh4 h5 q=> ?_))
        obtain⟨h6,h7,rfl⟩:=RowOf.val q
        refine JL.nil (hK _ _ _ c (kept1 [false,true] [2,0] (by kernel_rfl) rfl) ?_)
        refine JB.one (i:=14) (by kernel_rfl) ?_
        refine JOB.step rfl trivial rfl (λK hK=>JL.pubN 0 RInt.mono rfl q (Nat.le_refl _) (λs h b0=>JL.forget 0 (JL.callC (vs:=[_,_,_]) (args:=[_,_,_]) (K:=[_]) (rst:=[_]) E30 rfl rfl rfl (picks 0 rfl picks0) (send_put_ok e7 4 ([(b.Iv.toNat:Int),(b.Tag.toNat:Int)]) _ (RowOf.weak (Nat.zero_le _) (RowOf.const RU8.const (f.mono RU8.mono (New.mono h)))) (b0.old RInt.mono) _ e9) rfl (λh8 h9 i0 b1 i1 b2=> ?_))))
        obtain⟨b3,b4,b5,b6,rfl,rfl,rfl,k,-⟩:=b1
        replace k:=(RowOf.up (RowOf.const (H2:=New H s) RU8.const k) (λp hp=>b2 p (mem_seg 0 rfl hp)) (ids_cons (RowOf.ge f) ids_nil))
        refine JL.nil (hK _ _ _ (c.trans h) (kept1 [false,true] [1,0] (by kernel_rfl) rfl) ?_)
        refine JB.val (i:=15) [] rfl (R.assign rfl) ?_
        refine JB.doneN (by kernel_rfl) ?_
        obtain rfl:=Option.some.inj hx
        refine JN.front 1 rfl (JN.front 1 rfl ?_)
        exact JN.cutR ⟨s,b3,b4,b5,b6,rfl,rfl,rfl,((c.trans h)),k⟩ rfl rfl rfl
       ·
        refine JOB.step rfl trivial rfl (λK hK=>JL.bslF (HF:=(New H m)) (R:=RInt) (ls:=[(b.Iv.toNat:Int),(b.Tag.toNat:Int)]) (vs:=[.int .i64 (b.Iv.toNat:Int),.int .i64 (b.Tag.toNat:Int)]) U44 I3 rfl rfl (⟨_,_,rfl,rfl,rfl,⟨_,_,rfl,rfl,rfl,rfl⟩⟩) RInt.one rfl rfl rfl (by simp[maxLen]) rfl (λh4 h5 q=> ?_))
        obtain⟨h6,h7,rfl⟩:=RowOf.val q
        refine JL.nil (hK _ _ _ (Hle.refl _) (kept0 [2,3] rfl) ?_)
        refine JB.one (i:=6) (by kernel_rfl) ?_
        refine JOB.step rfl trivial rfl (λK hK=>JL.pubN 1 RInt.mono rfl a3 (Nat.le_refl _) (λa4 c a7=>JL.forget 1 (JL.callC (vs:=[_,_,_]) (args:=[_,_,_]) (K:=[_]) (rst:=[_,_]) E30 rfl rfl rfl (picks 2 rfl picks0) (send_put_ok x.1 1 ([b.Obj,b.Index]) _ (RowOf.weak (Nat.zero_le _) (RowOf.const RU8.const (y.mono RU8.mono (New.mono c)))) (a7.old RInt.mono) _ e8) rfl (λg6 g7 g8 a8 g9 a9=> ?_))))
        obtain⟨h0,h1,h2,h3,rfl,rfl,rfl,f,-⟩:=a8
        replace f:=(RowOf.up (RowOf.const (H2:=New H a4) RU8.const f) (λp hp=>a9 p (mem_seg 0 rfl hp)) (ids_cons (RowOf.ge y) ids_nil))
        refine JL.nil (hK _ _ _ c (kept1 [false,true] [2,0] (by kernel_rfl) rfl) ?_)
        refine JB.one (i:=14) (by kernel_rfl) ?_
        refine JOB.step rfl trivial rfl (λK hK=>JL.pubN 1 RInt.mono rfl (q.mono RInt.mono (New.mono c)) (Nat.le_refl _) (λs h b0=>JL.forget 1 (JL.callC (vs:=[_,_,_]) (args:=[_,_,_]) (K:=[_]) (rst:=[_]) E30 rfl rfl rfl (picks 0 rfl picks0) (send_put_ok e7 4 ([(b.Iv.toNat:Int),(b.Tag.toNat:Int)]) _ (RowOf.weak (Nat.zero_le _) (RowOf.const RU8.const (f.mono RU8.mono (New.mono h)))) (b0.old RInt.mono) _ e9) rfl (λh8 h9 i0 b1 i1 b2=> ?_))))
        obtain⟨b3,b4,b5,b6,rfl,rfl,rfl,k,-⟩:=b1
        replace k:=(RowOf.up (RowOf.const (H2:=New H s) RU8.const k) (λp hp=>b2 p (mem_seg 0 rfl hp)) (ids_cons (RowOf.ge f) ids_nil))
        refine JL.nil (hK _ _ _ (c.trans h) (kept1 [false,true] [1,0] (by kernel_rfl) rfl) ?_)
        refine JB.val (i:=15) [] rfl (R.assign rfl) ?_
        refine JB.doneN (by kernel_rfl) ?_
        obtain rfl:=Option.some.inj hx
        refine JN.front 1 rfl (JN.front 1 rfl ?_)
        exact JN.cutR ⟨s,b3,b4,b5,b6,rfl,rfl,rfl,((c.trans h)),k⟩ rfl rfl rfl
      ·
       refine JOB.step rfl trivial rfl (λK hK=>JL.bslF (HF:=(New H m)) (R:=RInt) (ls:=[(b.Iv.toNat:Int),(b.Tag.toNat:Int)]) (vs:=[.int .i64 (b.Iv.toNat:Int),.int .i64 (b.Tag.toNat:Int)]) U44 I3 rfl rfl (⟨_,_,rfl,rfl,rfl,⟨_,_,rfl,rfl,rfl,rfl⟩⟩) RInt.one rfl rfl rfl (by simp[maxLen]) rfl (λh4 h5 q=> ?_))
       obtain⟨h6,h7,rfl⟩:=RowOf.val q
       refine JL.nil (hK _ _ _ (Hle.refl _) (kept0 [1,2] rfl) ?_)
       refine JB.one (i:=5) (by kernel_rfl) ?_
       refine JOB.step rfl trivial rfl (λK hK=>JL.bslF (HF:=(New H m)) (R:=RInt) (ls:=[b.Obj,b.Index]) (vs:=[.int .i64 b.Obj,.int .i64 b.Index]) U44 I3 rfl rfl (⟨_,_,rfl,rfl,rfl,⟨_,_,rfl,rfl,rfl,rfl⟩⟩) RInt.one rfl rfl rfl (by simp[maxLen]) rfl (λk6 k7 a3=> ?_))
       obtain⟨k8,k9,rfl⟩:=RowOf.val a3
       refine JL.nil (hK _ _ _ (Hle.refl _) (kept0 [2,3] rfl) ?_)
       refine JB.one (i:=6) (by kernel_rfl) ?_
       refine JOB.step rfl trivial rfl (λK hK=>JL.pubN 0 RInt.mono rfl a3 (Nat.le_refl _) (λa4 c a7=>JL.forget 0 (JL.callC (vs:=[_,_,_]) (args:=[_,_,_]) (K:=[_]) (rst:=[_,_]) E30 rfl rfl rfl (picks 2 rfl picks0) (send_put_ok x.1 1 ([b.Obj,b.Index]) _ (RowOf.weak (Nat.zero_le _) (RowOf.const RU8.const (y.mono RU8.mono (New.mono c)))) (a7.old RInt.mono) _ e8) rfl (λg6 g7 g8 a8 g9 a9=> ?_))))
       obtain⟨h0,h1,h2,h3,rfl,rfl,rfl,f,-⟩:=a8
       replace f:=(RowOf.up (RowOf.const (H2:=New H a4) RU8.const f) (λp hp=>a9 p (mem_seg 0 rfl hp)) (ids_cons (RowOf.ge y) ids_nil))
       refine JL.nil (hK _ _ _ c (kept1 [false,true] [2,0] (by kernel_rfl) rfl) ?_)
       refine JB.one (i:=14) (by kernel_rfl) ?_
       refine JOB.step rfl trivial rfl (λK hK=>JL.pubN 1 RInt.mono rfl (q.mono RInt.mono (New.mono c)) (Nat.le_refl _) (λs h b0=>JL.forget 1 (JL.callC (vs:=[_,_,_]) (args:=[_,_,_]) (K:=[_]) (rst:=[_]) E30 rfl rfl rfl (picks 0 rfl picks0) (send_put_ok e7 4 ([(b.Iv.toNat:Int),(b.Tag.toNat:Int)]) _ (RowOf.weak (Nat.zero_le _) (RowOf.const RU8.const (f.mono RU8.mono (New.mono h)))) (b0.old RInt.mono) _ e9) rfl (λh8 h9 i0 b1 i1 b2=> ?_))))
       obtain⟨b3,b4,b5,b6,rfl,rfl,rfl,k,-⟩:=b1
       replace k:=(RowOf.up (RowOf.const (H2:=New H s) RU8.const k) (λp hp=>b2 p (mem_seg 0 rfl hp)) (ids_cons (RowOf.ge f) ids_nil))
       refine JL.nil (hK _ _ _ (c.trans h) (kept1 [false,true] [1,0] (by kernel_rfl) rfl) ?_)
       refine JB.val (i:=15) [] rfl (R.assign rfl) ?_
       refine JB.doneN (by kernel_rfl) ?_
       obtain rfl:=Option.some.inj hx
       refine JN.front 1 rfl (JN.front 1 rfl ?_)
       exact JN.cutR ⟨s,b3,b4,b5,b6,rfl,rfl,rfl,((c.trans h)),k⟩ rfl rfl rfl
    ·
     refine Run.cnz_k [] 2 tbo rfl ?_
     obtain rfl:=run_done f9 hx
     refine Run.nnz_kb [] 2 tbo rfl ?_
     exact JN.cutR ⟨m,c7,c8,c9,d0,rfl,rfl,rfl,(d9),y⟩ rfl rfl rfl
 ·
  refine JC.drawB (so:=[(_,[3]),(_,[])]) 10 rfl Mixed ⟨by kernel_rfl,by kernel_rfl⟩ (kept0 [0,1] rfl) ?_
  refine JB.run 5 [0,1,2,4,5] [0,0] tbo rfl ?_
  refine JB.val (i:=6) [] rfl (R.lenL U24 rfl (IsSlice.long b9)) ?_
  obtain⟨i2,i3,i4,hx⟩:=app_some hx
  obtain⟨s6,i5,hx⟩:=bnd_some hx
  refine JB.two (i:=3) (j:=7) (by kernel_rfl) ?_ ?_
  ·
   refine JOB.step rfl trivial rfl (λK hK=>JL.appF (HF:=(New H a2)) 0 U23 I5 rfl rfl c1 rfl (SrcF.sliceC RU8.const RU8.one U23 (f7.mono RU8.mono c0)) i3 i4 rfl (Nat.le_refl _) rfl (λl1 l2 z=> ?_))
   obtain⟨l3,l4,rfl⟩:=RowOf.val z
   refine JL.nil (hK _ _ _ (Hle.refl _) (kept1 [true,false] [0,1] (by kernel_rfl) rfl) ?_)
   refine JB.one (i:=7) (by kernel_rfl) ?_
   refine JOB.step rfl trivial rfl (λK hK=>JL.bslF (HF:=(New H a2)) (R:=RInt) (ls:=[(d.Parts.length:Int)]) (vs:=[.int .i64 (d.Parts.length:Int)]) U44 I3 rfl rfl (⟨_,_,rfl,rfl,rfl,rfl⟩) RInt.one rfl rfl rfl (by simp[maxLen]) rfl (λl5 l6 b7=> ?_))
   obtain⟨l7,l8,rfl⟩:=RowOf.val b7
   refine JL.nil (hK _ _ _ (Hle.refl _) (kept1 [true,false] [0,2] (by kernel_rfl) rfl) ?_)
   refine JB.one (i:=8) (by kernel_rfl) ?_
   refine JOB.step rfl trivial rfl (λK hK=>JL.pubN 0 RInt.mono rfl b7 (Nat.le_refl _) (λb8 a0 f0=>JL.forget 0 (JL.callC (vs:=[_,_,_]) (args:=[_,_,_]) (K:=[_]) (rst:=[_]) E30 rfl rfl rfl (picks 0 rfl picks0) (send_put_ok i2 2 ([(d.Parts.length:Int)]) _ (RowOf.weak (Nat.zero_le _) (RowOf.const RU8.const (z.mono RU8.mono (New.mono a0)))) (f0.old RInt.mono) _ i5) rfl (λl9 m0 m1 f1 m2 f2=> ?_))))
   obtain⟨f3,f4,f5,f6,rfl,rfl,rfl,a1,-⟩:=f1
   replace a1:=(RowOf.up (RowOf.const (H2:=New H b8) RU8.const a1) (λp hp=>f2 p (mem_seg 0 rfl hp)) (ids_cons (RowOf.ge z) ids_nil))
   refine JL.nil (hK _ _ _ a0 (kept1 [true,false] [0,1] (by kernel_rfl) rfl) ?_)
   refine JB.val (i:=9) [] rfl (R.assign rfl) ?_
   refine JB.doneN (by kernel_rfl) ?_
   obtain rfl:=Option.some.inj hx
   refine JN.front 1 rfl (JN.front 1 rfl ?_)
   exact JN.cutR ⟨b8,f3,f4,f5,f6,rfl,rfl,rfl,(a0),a1⟩ rfl rfl rfl
  ·
   refine JOB.step rfl trivial rfl (λK hK=>JL.bslF (HF:=(New H a2)) (R:=RInt) (ls:=[(d.Parts.length:Int)]) (vs:=[.int .i64 (d.Parts.length:Int)]) U44 I3 rfl rfl (⟨_,_,rfl,rfl,rfl,rfl⟩) RInt.one rfl rfl rfl (by simp[maxLen]) rfl (λl5 l6 b7=> ?_))
   obtain⟨l7,l8,rfl⟩:=RowOf.val b7
   refine JL.nil (hK _ _ _ (Hle.refl _) (kept0 [1,2] rfl) ?_)
   refine JB.one (i:=3) (by kernel_rfl) ?_
   refine JOB.step rfl trivial rfl (λK hK=>JL.appF (HF:=(New H a2)) 1 U23 I5 rfl rfl c1 rfl (SrcF.sliceC RU8.const RU8.one U23 (f7.mono RU8.mono c0)) i3 i4 rfl (Nat.le_refl _) rfl (λl1 l2 z=> ?_))
   obtain⟨l3,l4,rfl⟩:=RowOf.val z
   refine JL.nil (hK _ _ _ (Hle.refl _) (kept1 [true,false] [0,2] (by kernel_rfl) rfl) ?_)
   refine JB.one (i:=8) (by kernel_rfl) ?_
   refine JOB.step rfl trivial rfl (λK hK=>JL.pubN 0 RInt.mono rfl b7 (Nat.le_refl _) (λb8 a0 f0=>JL.forget 0 (JL.callC (vs:=[_,_,_]) (args:=[_,_,_]) (K:=[_]) (rst:=[_]) E30 rfl rfl rfl (picks 0 rfl picks0) (send_put_ok i2 2 ([(d.Parts.length:Int)]) _ (RowOf.weak (Nat.zero_le _) (RowOf.const RU8.const (z.mono RU8.mono (New.mono a0)))) (f0.old RInt.mono) _ i5) rfl (λl9 m0 m1 f1 m2 f2=> ?_))))
   obtain⟨f3,f4,f5,f6,rfl,rfl,rfl,a1,-⟩:=f1
   replace a1:=(RowOf.up (RowOf.const (H2:=New H b8) RU8.const a1) (λp hp=>f2 p (mem_seg 0 rfl hp)) (ids_cons (RowOf.ge z) ids_nil))
   refine JL.nil (hK _ _ _ a0 (kept1 [true,false] [0,1] (by kernel_rfl) rfl) ?_)
   refine JB.val (i:=9) [] rfl (R.assign rfl) ?_
   refine JB.doneN (by kernel_rfl) ?_
   obtain rfl:=Option.some.inj hx
   refine JN.front 1 rfl (JN.front 1 rfl ?_)
   exact JN.cutR ⟨b8,f3,f4,f5,f6,rfl,rfl,rfl,(a0),a1⟩ rfl rfl rfl
theorem send_Write_ok{d}:Con Tryz.prog 6 false (sp_Stream false d) (send_Write d) (λr=> [.row true RU8 5 1 r.1,.i r.2]):=by
 intro H v x y f z a0 a1 h a2 a3 a4 b r hx
 refine Does.enterC Tryz.func6 rfl rfl ?_
 intro w
 unfold send_Write at hx
 refine Run.cl [] 2 tbo rfl (JL.box rfl rfl (λa5 a6=>Run.ll_s [0] 8 tbo rfl (JL.con hx E12 rfl send_may_ok rfl ⟨f,h,b,trivial⟩ ?_)))
 intro a7 a8 hx a9 a
 refine Run.lcz_s [] 3 tbo rfl (JC.ifx hx rfl (λk hx=> ?_) (λk hx=> ?_))
 ·
  refine Run.cnz_k [] 8 tbo rfl (JN.seg0 ?_)
  exact JN.con [0] rfl hx rfl ⟨⟨0,RowOf.nil _ _ _ _ _⟩,rfl⟩
 ·
  refine Run.cc_s [] 3 tbo rfl (JC.drawB (so:=[(_,[])]) 7 rfl Mixed ⟨by kernel_rfl,by kernel_rfl⟩ (kept0 [0] rfl) ?_)
  refine JB.run 3 [0,2,3] [0,0] tbo rfl ?_
  refine JB.one (i:=1) (by kernel_rfl) ?_
  refine JOB.step rfl trivial rfl (λK hK=>JL.con hx E13 rfl send_text_ok rfl ⟨(f.mono RU8.mono a),(h.mono R_Part.mono a),(b.mono RU8.mono a),trivial⟩ ?_)
  intro b0 b1 hx m c b2 b3 b4 b5 p
  refine JL.nil (hK _ _ _ c (kept0 [1] rfl) ?_)
  refine JB.one (i:=4) (by kernel_rfl) ?_
  refine JOB.step rfl trivial rfl (λK hK=> ?_)
  obtain⟨b6,q,s,hx⟩:=app_some hx
  refine JL.appF (HF:=(New H m)) 0 U23 I5 rfl rfl p rfl (SrcF.sliceC RU8.const RU8.one U23 (b.mono RU8.mono (a.trans c))) q s rfl (Nat.le_refl _) rfl (λb7 b8 j=> ?_)
  obtain⟨b9,c0,rfl⟩:=RowOf.val j
  refine JL.nil (hK _ _ _ c (kept0 [1] rfl) ?_)
  refine JB.run 2 [5,6] [] tbo rfl ?_
  refine JB.doneN (by kernel_rfl) ?_
  refine Run.nnz_s [] 2 tbo rfl ?_
  exact JN.con [0] rfl hx rfl ⟨⟨_,j⟩,rfl⟩
theorem send_Parse_1_ok (d:Int)(y:Bool)(z:List UInt8)(j:Int)(H:Heaplet){f:Nat}{h:Nat}{k:Option Addr}{q:Nat}{s:Nat}{i:Nat}(v:IsSlice H RU8 1 (.slice k q s) z)(r:List UInt8×Bool×List UInt8×Int)(hx:send_Parse_1 d y z j=some r):
  Does Tryz.prog 14 #[.int .i64 d,.pointer (some ⟨f,0,none⟩),.pointer (some ⟨h,0,none⟩),.pointer (some ⟨i,0,none⟩)] [[(f,.cells #[.bool y] 4 (0,0))],[(h,.cells #[.slice k q s] 23 (0,0))],[(i,.cells #[.int .i64 j] 3 (0,0))]] H (λu K' H'=>∃ao0:Option Addr,∃n0:Nat,∃cap0:Nat,∃ao1:Option Addr,∃n1:Nat,∃cap1:Nat,∃K1:Own,u=.slice ao1 n1 cap1∧K'= [[(f,.cells #[.bool r.2.1] 4 (0,0))],[(h,.cells #[.slice ao0 n0 cap0] 23 (0,0))],[(i,.cells #[.int .i64 r.2.2.2] 3 (0,0))],K1]∧H=H'∧IsSlice H RU8 1 (.slice ao0 n0 cap0) r.2.2.1∧RowOf (New H H) RU8 0 5 1 (.slice ao1 n1 cap1) r.1 K1∧(∀p∈K1,p.1∉ids (List.flatten [[(f,.cells #[.bool y] 4 (0,0))],[(h,.cells #[.slice k q s] 23 (0,0))],[(i,.cells #[.int .i64 j] 3 (0,0))]]))∧True):=by
 refine Does.enterL (vs:=[.int .i64 d,.pointer (some ⟨f,0,none⟩),.pointer (some ⟨h,0,none⟩),.pointer (some ⟨i,0,none⟩)]) (l:=[(0,.int .i64 d),(1,.pointer (some ⟨f,0,none⟩)),(2,.pointer (some ⟨h,0,none⟩)),(3,.pointer (some ⟨i,0,none⟩))]) Tryz.func14 rfl rfl ⟨rfl,rfl,rfl,rfl,trivial⟩ (λw hlt=> ?_)
 unfold send_Parse_1 at hx
 refine Run.cc [] 7 tbo rfl (JC.cutX hx [0,1,2,3] [1,2] rfl rfl (λa0 l0 o0 l o g=>l=l0∧o= [(f,.cells #[.bool a0] 4 (0,0))]::o0∧H=g) (λa0 b6 hx=> ?_) (λa0 b7 hx=> ?_))
 ·
  rintro _ _ _ ⟨rfl,rfl,rfl⟩
  refine Run.ncz_s [0] 6 tbo rfl (JC.ifx hx rfl (λa7 hx=> ?_) (λa7 hx=> ?_))
  ·
   refine Run.cnz_k [] 7 tbo rfl (JN.seg0 (JN.outP (vs:=[.slice none 0 0]) (K:=[_,_,_,_]) (rst:=[]) (.inl rfl) rfl rfl (Res.tmp rfl rfl) (picks 1 rfl (picks 1 rfl (picks 1 rfl (picks 0 rfl picks0)))) ?_))
   obtain rfl:=Option.some.inj hx
   exact⟨k,q,s,none,0,0,[],rfl,rfl,rfl,v,(RowOf.nil _ _ _ _ _),(λp hp=>by cases hp),trivial⟩
  ·
   refine Run.cl_s [2,2,1,2,2] 17 tbo rfl ?_
   obtain⟨a8,a9,a1,hx⟩:=slc_some hx
   obtain⟨b8,a2,h1v_17,h2v_17,h3v_17,a3⟩:=IsSlice.cutv v a9 a1
   refine JL.val rfl rfl (R.slc (cap:=a2) (a:=w64 ((w64 (j+d))-d)) (b:=w64 (j+d)) (c:=(a2:Int)) (m:=z) (R:=RU8) U23 S5 rfl ⟨_,rfl⟩ ⟨_,rfl⟩ (by obtain⟨ao,n,e,_⟩:=h1v_17;exact⟨ao,n,e,rfl⟩) ⟨a1.1,a1.2.1,h2v_17⟩ h3v_17 (.inl rfl)) ?_
   obtain⟨b9,c0,rfl⟩:=IsSlice.val a3
   obtain⟨c1,b0,hx⟩:=bnd_some hx
   refine JL.callC (vs:=[_]) (args:=[_]) (K:=[]) (rst:=[_,_,_]) E15 rfl rfl rfl picks0 (slices_Clone_byte_ok a8 _ a3 _ b0) rfl (λc2 c3 c4 b1 c5 b2=> ?_)
   obtain⟨a4,a5,a6,b3,rfl,rfl,rfl,x,b4,-⟩:=b1
   replace x:=(RowOf.base (RowOf.const (H2:=New H H) RU8.const x) (λp hp=>(b2 p (mem_seg 0 rfl hp)).resolve_left (b4 p hp)))
   refine Run.lnz_s [] 4 tbo rfl (JN.outP (vs:=[.slice a4 a5 a6]) (K:=[_,_,_,_]) (rst:=[]) (.inl rfl) rfl rfl (Res.tmp rfl rfl) (picks 1 rfl (picks 1 rfl (picks 1 rfl (picks 0 rfl picks0)))) ?_)
   obtain rfl:=Option.some.inj hx
   exact⟨k,q,s,a4,a5,a6,b3,rfl,rfl,rfl,v,(RowOf.weak (Nat.zero_le _) x),(new_ids x hlt),trivial⟩
 ·
  refine Run.clz [0] 3 tbo rfl (JL.gX 7 hx rfl (λb5 hx=> ?_) (λb5 hx=> ?_))
  ·
   refine Run.lnz [0] 9 tbo rfl ?_
   obtain rfl:=Option.some.inj hx
   refine JN.front 2 rfl (JN.front 2 rfl (JN.front 2 rfl ?_))
   exact JN.cutR ⟨rfl,rfl,rfl⟩ rfl rfl rfl
  ·
   refine Run.llz [1] 5 tbo rfl (JL.val rfl rfl (R.lenL U23 rfl (IsSlice.long v)) (Run.lnz [2,0] 9 tbo rfl ?_))
   obtain rfl:=Option.some.inj hx
   refine JN.front 2 rfl (JN.front 2 rfl (JN.front 2 rfl ?_))
   exact JN.cutR ⟨rfl,rfl,rfl⟩ rfl rfl rfl
theorem send_Parse_2_ok (a:Int)(i:Bool)(j:List UInt8)(k:Int)(H:Heaplet){b:Nat}{c:Nat}{d:Nat}{s:Option Addr}{x:Nat}{y:Nat}{f:Nat}(z:IsSlice H RU8 1 (.slice s x y) j)(r:Int×Bool×List UInt8×Int)(hx:send_Parse_2 a i j k=some r):
  Does Tryz.prog 16 #[.int .i64 a,.pointer (some ⟨b,0,none⟩)] [[(b,.cells #[.func (.func 14) #[] #[.pointer (some ⟨c,0,none⟩),.pointer (some ⟨d,0,none⟩),.pointer (some ⟨f,0,none⟩)]] 60 (0,0))],[(c,.cells #[.bool i] 4 (0,0))],[(d,.cells #[.slice s x y] 23 (0,0))],[(f,.cells #[.int .i64 k] 3 (0,0))]] H (λu K' H'=>∃ao0:Option Addr,∃n0:Nat,∃cap0:Nat,u=.int .i64 r.1∧K'= [[(b,.cells #[.func (.func 14) #[] #[.pointer (some ⟨c,0,none⟩),.pointer (some ⟨d,0,none⟩),.pointer (some ⟨f,0,none⟩)]] 60 (0,0))],[(c,.cells #[.bool r.2.1] 4 (0,0))],[(d,.cells #[.slice ao0 n0 cap0] 23 (0,0))],[(f,.cells #[.int .i64 r.2.2.2] 3 (0,0))]]∧H=H'∧IsSlice H RU8 1 (.slice ao0 n0 cap0) r.2.2.1∧True):=by
 refine Does.enterL (vs:=[.int .i64 a,.pointer (some ⟨b,0,none⟩)]) (l:=[(0,.int .i64 a),(1,.pointer (some ⟨b,0,none⟩))]) Tryz.func16 rfl rfl ⟨rfl,rfl,trivial⟩ (λw hlt=> ?_)
 unfold send_Parse_2 at hx
 refine Run.cl [0] 9 tbo rfl ?_
 obtain⟨a0,a1,hx⟩:=bnd_some hx
 refine JL.callC (vs:=[_]) (args:=[_,_,_,_]) (K:=[_,_,_]) (rst:=[_]) E14 rfl rfl rfl (picks 1 rfl (picks 1 rfl (picks 1 rfl picks0))) (send_Parse_1_ok a i j k _ z _ a1) rfl (λb2 b3 b4 a2 b5 a3=> ?_)
 obtain⟨a4,a5,a6,b6,b7,b8,b9,rfl,rfl,rfl,a7,m,a8,-⟩:=a2
 replace m:=(RowOf.base (RowOf.const (H2:=New H H) RU8.const m) (λp hp=>(a3 p (mem_seg 3 rfl hp)).resolve_left (a8 p hp)))
 refine JL.val rfl rfl (R.move rfl) ?_
 obtain⟨q,a9,hx⟩:=bnd_some hx
 refine JL.callL2 (vs:=[_,_,_]) (v:=.tuple #[.int .i64 q.1,.int .i64 q.2]) E17 rfl rfl (λc0 b0 b1=>Does.mono (code_Get_ok a0.1 0 a _ (Lent.row' 3 b1 RU8.mono b0 rfl (m.old RU8.mono)) _ a9) (λ_ _ _ h=>h.1)) rfl (Run.lnz_s [] 14 tbo rfl (JN.outP (vs:=[.int .i64 q.1]) (K:=[_,_,_,_]) (rst:=[_]) (.inl rfl) rfl rfl (Res.tmp rfl rfl) (picks 4 rfl (picks 0 rfl (picks 0 rfl (picks 0 rfl picks0)))) ?_))
 obtain rfl:=Option.some.inj hx
 exact⟨a4,a5,a6,rfl,rfl,rfl,a7,trivial⟩
theorem send_Parse_ok{e1}:Con Tryz.prog 7 false ([.sl false RU8 1 e1]) (send_Parse e1) (λr=> [.st 5,.w32 r.1.Guid,.w32 r.1.Base,.row true RU8 5 1 r.1.Key,.row true R_Part 57 5 r.1.Parts,.row true RU8 5 1 r.1.Sign,.i r.2]):=by
 intro H s2 s3 s4 h8 r hx
 refine Does.enterC Tryz.func7 rfl rfl ?_
 intro w
 unfold send_Parse at hx
 refine Run.cl [] 2 tbo rfl (JL.box rfl rfl (λc6 s5=>JL.alloc Z26 rfl (λs6 s7=>Run.ll_s [1] 7 tbo rfl (JL.val rfl rfl (R.lenL U23 rfl (IsSlice.long h8)) (Run.lcz_s [] 3 tbo rfl (JC.ifx hx rfl (λk3 hx=> ?_) (λk3 hx=> ?_)))))))
 ·
  refine Run.cnz_k [0] 9 tbo rfl (JN.seg0 (JN.seg0 (JN.seg0 ?_)))
  exact JN.conC [3] [0,0,0] tbo rfl hx rfl ⟨⟨0,RowOf.nil _ _ _ _ _⟩,⟨0,RowOf.nil _ _ _ _ _⟩,⟨0,RowOf.nil _ _ _ _ _⟩,rfl⟩
 ·
  refine Run.cl_s [] 4 tbo rfl (JL.alloc Z3 rfl (λc7 s8=>JL.alloc Z4 rfl (λc8 s9=>Run.ll_s [1,0] 7 tbo rfl (JL.alloc Z60 rfl (λt0 t1=>Run.ll_s [0] 12 tbo rfl ?_)))))
  obtain⟨a3,k4,hx⟩:=bnd_some hx
  refine JL.callC (vs:=[_]) (args:=[_,_]) (K:=[_,_,_,_]) (rst:=[_]) E16 rfl rfl rfl (picks 0 rfl (picks 0 rfl (picks 2 rfl (picks 0 rfl picks0)))) (send_Parse_2_ok 1 false e1 0 _ h8 _ k4) rfl (λt2 t3 t4 k5 t5 t6=> ?_)
  obtain⟨t7,t8,t9,rfl,rfl,rfl,h9,-⟩:=k5
  refine Run.lc_s [] 4 tbo rfl (JC.cutX hx [1,2,4,5,6,7,8] [4,0] rfl rfl (λa l0 o0 l o g=>∃e2:Option Addr,∃e3:Nat,∃e4:Nat,∃a4:Nat,∃b3:Option Addr,∃b4:Nat,∃b5:Nat,∃e5:Own,l=(9,.pointer (some ⟨a4,0,none⟩))::l0∧o= [(c6,.cells #[.slice e2 e3 e4] 23 (0,0))]:: [(c7,.cells #[.int .i64 a.2.1] 3 (0,0))]:: [(c8,.cells #[.bool a.2.2.1] 4 (0,0))]:: [(a4,.cells #[.int .u32 (a.2.2.2.1.toNat:Int),.int .u32 (a.2.2.2.2.1.toNat:Int),.slice b3 b4 b5,.slice none 0 0,.slice none 0 0] 26 (0,0))]::e5::o0∧H=g∧IsSlice H RU8 1 (.slice e2 e3 e4) a.1∧w.heap.size≤a4∧RowOf (New H H) RU8 w.heap.size 5 1 (.slice b3 b4 b5) a.2.2.2.2.2 e5) (λa u0 hx=> ?_) (λa u1 hx=> ?_))
  ·
   rintro _ _ _ ⟨e2,e3,e4,a4,b3,b4,b5,e5,rfl,rfl,rfl,k6,u2,i0⟩
   refine Run.nl_s [] 4 tbo rfl ?_
   obtain⟨u3,k7,hx⟩:=bnd_some hx
   refine JL.callC (vs:=[_]) (args:=[_,_]) (K:=[_,_,_,_]) (rst:=[_,_,_]) E16 rfl rfl rfl (picks 6 rfl (picks 2 rfl (picks 0 rfl (picks 0 rfl picks0)))) (send_Parse_2_ok 2 a.2.2.1 a.1 a.2.1 _ k6 _ k7) rfl (λu4 u5 u6 k8 u7 u8=> ?_)
   obtain⟨k9,l1,l2,rfl,rfl,rfl,l3,-⟩:=k8
   refine Run.lc_s [] 9 tbo rfl (JC.cutX hx [1,2,4,5,6,8,9,10] [6,0,5] rfl rfl (λx l0 o0 l o g=>∃a5:Heaplet,∃e6:Option Addr,∃e7:Nat,∃e8:Nat,∃e9:Option Addr,∃f0:Nat,∃f1:Nat,∃f2:Own,l=l0∧o= [(c6,.cells #[.slice e6 e7 e8] 23 (0,0))]:: [(c7,.cells #[.int .i64 x.2.1] 3 (0,0))]:: [(c8,.cells #[.bool x.2.2.1] 4 (0,0))]:: [(a4,.cells #[.int .u32 (a.2.2.2.1.toNat:Int),.int .u32 (a.2.2.2.2.1.toNat:Int),.slice b3 b4 b5,.slice e9 f0 f1,.slice none 0 0] 26 (0,0))]::f2::o0∧a5=g∧Hle H a5∧IsSlice a5 RU8 1 (.slice e6 e7 e8) x.1∧RowOf (New H a5) R_Part w.heap.size 57 5 (.slice e9 f0 f1) x.2.2.2 f2) (λx u9 hx=> ?_) (λx v0 hx=> ?_))
   ·
    rintro _ _ _ ⟨a5,e6,e7,e8,e9,f0,f1,f2,rfl,rfl,rfl,i1,l4,f3⟩
    refine Run.nl_s [6] 4 tbo rfl ?_
    obtain⟨y,f4,hx⟩:=bnd_some hx
    refine JL.callC (vs:=[_]) (args:=[_,_,_,_]) (K:=[_,_,_]) (rst:=[_,_,_,_,_]) E14 rfl rfl rfl (picks 2 rfl (picks 0 rfl (picks 0 rfl picks0))) (send_Parse_1_ok 209 x.2.2.1 x.1 x.2.1 _ l4 _ f4) rfl (λl5 l6 l7 f5 l8 i2=> ?_)
    obtain⟨l9,m0,m1,v1,v2,v3,v4,rfl,rfl,rfl,f6,c9,m2,-⟩:=f5
    replace c9:=(RowOf.base (RowOf.const (H2:=New H a5) RU8.const c9) (λp hp=>(i2 p (mem_seg 3 rfl hp)).resolve_left (m2 p hp)))
    refine Run.ll_s [4,0] 9 tbo rfl (JL.gX 71 hx rfl (λm3 hx=> ?_) (λm3 hx=> ?_))
    ·
     refine Run.lnz_sk [6] 33 tbo rfl (JN.seg0 (JN.seg0 (JN.seg0 ?_)))
     exact JN.conC [9] [0,0,0] tbo rfl hx rfl ⟨⟨0,RowOf.nil _ _ _ _ _⟩,⟨0,RowOf.nil _ _ _ _ _⟩,⟨0,RowOf.nil _ _ _ _ _⟩,rfl⟩
    ·
     refine Run.llz [] 6 tbo rfl (JL.gX 75 hx rfl (λm4 hx=> ?_) (λm4 hx=> ?_))
     ·
      refine Run.lnz_sk [6] 29 tbo rfl (JN.seg0 (JN.seg0 (JN.seg0 ?_)))
      exact JN.conC [9] [0,0,0] tbo rfl hx rfl ⟨⟨0,RowOf.nil _ _ _ _ _⟩,⟨0,RowOf.nil _ _ _ _ _⟩,⟨0,RowOf.nil _ _ _ _ _⟩,rfl⟩
     ·
      refine Run.llz [4] 7 tbo rfl (JL.val rfl rfl (R.lenL U24 rfl (RowOf.long f3)) (Run.llz [] 4 tbo rfl (JL.gX 82 hx rfl (λm5 hx=> ?_) (λm5 hx=> ?_))))
      ·
       refine Run.lnz_sk [6] 22 tbo rfl (JN.seg0 (JN.seg0 (JN.seg0 ?_)))
       exact JN.conC [9] [0,0,0] tbo rfl hx rfl ⟨⟨0,RowOf.nil _ _ _ _ _⟩,⟨0,RowOf.nil _ _ _ _ _⟩,⟨0,RowOf.nil _ _ _ _ _⟩,rfl⟩
      ·
       refine Run.llz [2,1] 5 tbo rfl (JL.val rfl rfl (R.lenL U23 rfl (IsSlice.long f6)) (Run.llz [] 4 tbo rfl (JL.gX 88 hx rfl (λm6 hx=> ?_) (λm6 hx=> ?_))))
       ·
        refine Run.lnz_sk [6] 16 tbo rfl (JN.seg0 (JN.seg0 (JN.seg0 ?_)))
        exact JN.conC [9] [0,0,0] tbo rfl hx rfl ⟨⟨0,RowOf.nil _ _ _ _ _⟩,⟨0,RowOf.nil _ _ _ _ _⟩,⟨0,RowOf.nil _ _ _ _ _⟩,rfl⟩
       ·
        refine Run.llz [4] 3 tbo rfl (JL.conL hx E12 rfl send_may_ok rfl (λv5 f7 f8=>⟨(Lent.row' 8 f8 RU8.mono f7 rfl ((i0.mono RU8.mono (New.mono i1)).old RU8.mono)),(Lent.row' 5 f8 R_Part.mono f7 rfl (f3.old R_Part.mono)),(Lent.row' 3 f8 RU8.mono f7 rfl (c9.old RU8.mono)),trivial⟩) (λ_=>trivial) ?_)
        intro f i3 hx
        refine Run.lcz_s [] 5 tbo rfl (JC.ifx hx rfl (λm7 hx=> ?_) (λm7 hx=> ?_))
        ·
         refine Run.cnz_k [6] 9 tbo rfl (JN.seg0 (JN.seg0 (JN.seg0 ?_)))
         exact JN.conC [9] [0,0,0] tbo rfl hx rfl ⟨⟨0,RowOf.nil _ _ _ _ _⟩,⟨0,RowOf.nil _ _ _ _ _⟩,⟨0,RowOf.nil _ _ _ _ _⟩,rfl⟩
        ·
         refine Run.cnz_s [4,6] 10 tbo rfl ?_
         exact JN.conC [6] [8,5,3] tbo rfl hx rfl ⟨⟨_,(i0.mono RU8.mono (New.mono i1))⟩,⟨_,f3⟩,⟨_,c9⟩,rfl⟩
   ·
    refine JC.block (JC.seg0 (JC.front 6 rfl (JC.front 2 rfl (JC.front 7 rfl (JC.front 3 rfl (JC.front 7 rfl (JC.front 5 rfl (JC.front 7 rfl (JC.front 7 rfl (JC.loopX [1,2,4,5,6,7,8,9,10] [5,6,7] rfl rfl (λl0 o0 s l o g=>∃d:Heaplet,∃a6:Option Addr,∃a7:Nat,∃a8:Nat,∃a9:Option Addr,∃b0:Nat,∃b1:Nat,∃b2:Own,l=(11,.int .i64 s.2.2.2.2)::l0∧o= [(c6,.cells #[.slice a6 a7 a8] 23 (0,0))]:: [(c7,.cells #[.int .i64 s.2.1] 3 (0,0))]:: [(c8,.cells #[.bool s.2.2.1] 4 (0,0))]:: [(a4,.cells #[.int .u32 (a.2.2.2.1.toNat:Int),.int .u32 (a.2.2.2.2.1.toNat:Int),.slice b3 b4 b5,.slice a9 b0 b1,.slice none 0 0] 26 (0,0))]::b2::o0∧d=g∧Hle H d∧IsSlice d RU8 1 (.slice a6 a7 a8) s.1∧RowOf (New H d) R_Part w.heap.size 57 5 (.slice a9 b0 b1) s.2.2.2.1 b2) hx ⟨H,k9,l1,l2,none,0,0,[],rfl,rfl,rfl,(Hle.refl _),l3,(RowOf.nil _ _ _ _ _)⟩ rfl ?_))))))))))
    ·
     rintro v6 s _ _ _ ⟨d,a6,a7,a8,a9,b0,b1,b2,rfl,rfl,rfl,d0,d1,d2⟩ v7 hx d3
     unfold send_Parse_l1 at hx
     refine Run.cl [] 7 tbo rfl (JL.gX 35 hx rfl (λm8 hx=> ?_) (λm8 hx=> ?_))
     ·
      refine Run.llz [] 6 tbo rfl (JL.gX 39 hx rfl (λm9 hx=> ?_) (λm9 hx=> ?_))
      ·
       refine Run.lcz_s [2] 7 tbo rfl (JC.ifx hx rfl (λn0 hx=> ?_) (λn0 hx=> ?_))
       ·
        refine Run.cl_s [] 7 tbo rfl ?_
        obtain⟨y,f4,hx⟩:=bnd_some hx
        refine JL.callC (vs:=[_]) (args:=[_,_]) (K:=[_,_,_,_]) (rst:=[_,_,_,_]) E16 rfl rfl rfl (picks 6 rfl (picks 2 rfl (picks 0 rfl (picks 0 rfl picks0)))) (send_Parse_2_ok 1 s.2.2.1 s.1 s.2.1 _ d1 _ f4) rfl (λl5 l6 l7 f5 l8 i2=> ?_)
        obtain⟨l9,m0,m1,rfl,rfl,rfl,f6,-⟩:=f5
        refine JL.val rfl rfl (R.move rfl) ?_
        obtain⟨z,n1,hx⟩:=bnd_some hx
        refine JL.callC (vs:=[_]) (args:=[_,_]) (K:=[_,_,_,_]) (rst:=[_,_,_,_]) E16 rfl rfl rfl (picks 0 rfl (picks 0 rfl (picks 0 rfl (picks 0 rfl picks0)))) (send_Parse_2_ok 1 y.2.1 y.2.2.1 y.2.2.2 _ f6 _ n1) rfl (λv8 v9 w0 n2 w1 w2=> ?_)
        obtain⟨w3,w4,w5,rfl,rfl,rfl,n3,-⟩:=n2
        refine JL.val rfl rfl (R.move rfl) ?_
        obtain⟨a0,n4,hx⟩:=bnd_some hx
        refine JL.callC (vs:=[_]) (args:=[_,_]) (K:=[_,_,_,_]) (rst:=[_,_,_,_]) E16 rfl rfl rfl (picks 0 rfl (picks 0 rfl (picks 0 rfl (picks 0 rfl picks0)))) (send_Parse_2_ok 4 z.2.1 z.2.2.1 z.2.2.2 _ n3 _ n4) rfl (λw6 w7 w8 n5 w9 x0=> ?_)
        obtain⟨x1,x2,x3,rfl,rfl,rfl,n6,-⟩:=n5
        refine JL.val rfl rfl (R.cv_i64_u32 U3 U22 rfl) (JL.val rfl rfl (R.move rfl) ?_)
        obtain⟨f,i3,hx⟩:=bnd_some hx
        refine JL.callC (vs:=[_]) (args:=[_,_]) (K:=[_,_,_,_]) (rst:=[_,_,_,_]) E16 rfl rfl rfl (picks 0 rfl (picks 0 rfl (picks 0 rfl (picks 0 rfl picks0)))) (send_Parse_2_ok 4 a0.2.1 a0.2.2.1 a0.2.2.2 _ n6 _ i3) rfl (λx4 x5 x6 n7 x7 x8=> ?_)
        obtain⟨x9,y0,y1,rfl,rfl,rfl,i4,-⟩:=n7
        refine JL.val rfl rfl (R.cv_i64_u32 U3 U22 rfl) (JL.val rfl rfl (R.bldP (vs:=[(0,.int .i64 y.1),(1,.int .i64 z.1),(2,.int .u32 ((u32i a0.1).toNat:Int)),(3,.int .u32 ((u32i f.1).toNat:Int))]) (cs:=[.int .i64 y.1,.int .i64 z.1,.int .u32 ((u32i a0.1).toNat:Int),.int .u32 ((u32i f.1).toNat:Int),.slice none 0 0]) Z57 B57 rfl rfl rfl) (JL.alloc Z57 rfl (λn8 y2=>Run.lc_s [0] 4 tbo rfl (JC.cutX hx [1,2,4,5,6,7,8,9,10,11,12] [7,1,5,8,6] rfl rfl (λv l0 o0 l o g=>∃d4:Option Addr,∃d5:Nat,∃d6:Nat,∃d7:Option Addr,∃d8:Nat,∃d9:Nat,∃f9:Own,l=l0∧o= [(c6,.cells #[.slice d4 d5 d6] 23 (0,0))]:: [(c7,.cells #[.int .i64 v.2.1] 3 (0,0))]:: [(c8,.cells #[.bool v.2.2.1] 4 (0,0))]:: [(n8,.cells #[.int .i64 y.1,.int .i64 z.1,.int .u32 ((u32i a0.1).toNat:Int),.int .u32 ((u32i f.1).toNat:Int),.slice d7 d8 d9] 57 (0,0))]::f9::o0∧d=g∧IsSlice d RU8 1 (.slice d4 d5 d6) v.1∧RowOf (New H d) RU8 w.heap.size 5 1 (.slice d7 d8 d9) v.2.2.2 f9) (λv y3 hx=> ?_) (λv y4 hx=> ?_)))))
        ·
         rintro _ _ _ ⟨d4,d5,d6,d7,d8,d9,f9,rfl,rfl,rfl,n9,o1⟩
         refine Run.nlz_s [7,3] 5 tbo rfl (JL.pubN 4 RU8.mono rfl o1 (Nat.le_refl _) (λg0 g1 o2=>JL.forget 4 (JL.bslF (HF:=(New H g0)) (R:=R_Part) (ls:=[Part.mk y.1 z.1 (u32i a0.1) (u32i f.1) v.2.2.2]) (vs:=[.agg #[.int .i64 y.1,.int .i64 z.1,.int .u32 ((u32i a0.1).toNat:Int),.int .u32 ((u32i f.1).toNat:Int),.slice d7 d8 d9]]) U24 I57 rfl rfl (⟨_,_,rfl,rfl,⟨_,rfl,o2⟩,rfl⟩) R_Part.one rfl rfl rfl (by simp[maxLen]) rfl (λy5 y6 i5=> ?_))))
         obtain⟨y7,y8,rfl⟩:=RowOf.val i5
         obtain⟨i6,o3,o4,hx⟩:=app_some hx
         refine JL.appF (HF:=(New H g0)) 9 U24 I57 rfl rfl (d2.mono R_Part.mono (New.mono g1)) rfl (SrcF.row 0 U24 rfl i5) o3 o4 rfl (Nat.le_refl _) rfl (λy9 o5 i7=> ?_)
         obtain⟨o6,o7,rfl⟩:=RowOf.val i7
         refine Run.lnz_bs [7] 10 tbo rfl ?_
         replace hx:=run_next d3 hx
         refine JN.forget 4 (JN.forget 0 (JN.front 6 rfl (JN.front 5 rfl (JN.front 5 rfl (JN.front 7 rfl (JN.front 7 rfl (JN.front 7 rfl (JN.front 7 rfl (JN.front 7 rfl ?_)))))))))
         exact JN.cutR ⟨(v.1,v.2.1,v.2.2.1,i6,w64 (s.2.2.2.2+1)),⟨g0,d4,d5,d6,o6,i6.length,o7,o5,rfl,rfl,rfl,((d0.trans g1)),(n9.mono RU8.mono g1),i7⟩,hx⟩ rfl rfl rfl
        ·
         refine JC.drawB (so:=[(_,[5]),(_,[2,3]),(_,[2,3]),(_,[2,3]),(_,[]),(_,[]),(_,[]),(_,[])]) 6 rfl Mixed ⟨by kernel_rfl,by kernel_rfl⟩ (kept0 [0,2,3,4,5,6,7,8] rfl) ?_
         refine JB.val (i:=1) [] rfl (R.move rfl) ?_
         obtain⟨a1,i8,hx⟩:=bnd_some hx
         obtain⟨z0,i9,hx⟩:=bnd_some hx
         refine JB.two (i:=0) (j:=2) (by kernel_rfl) ?_ ?_
         ·
          refine JOB.step rfl trivial rfl (λK hK=>Run.lnz [1] 2 tbo rfl (hK _ _ _ (Hle.refl _) (kept0 [0,2,3,4,5,6,7,8] rfl) ?_))
          refine JB.one (i:=2) (by kernel_rfl) ?_
          refine JOB.step rfl trivial rfl (λK hK=>JL.callC (vs:=[_]) (args:=[_,_]) (K:=[_,_,_,_]) (rst:=[_,_,_,_,_]) E16 rfl rfl rfl (picks 1 rfl (picks 1 rfl (picks 1 rfl (picks 1 rfl picks0)))) (send_Parse_2_ok 2 f.2.1 f.2.2.1 f.2.2.2 _ i4 _ i8) rfl (λo8 o9 p0 g2 p1 p2=> ?_))
          obtain⟨p3,p4,p5,rfl,rfl,rfl,g3,-⟩:=g2
          refine JL.nil (hK _ _ _ (Hle.refl _) (kept1 [false,true,true,true,false,false,false,false] [4,0,0,0,5,6,7,8] (by kernel_rfl) rfl) ?_)
          refine JB.one (i:=3) (by kernel_rfl) ?_
          refine JOB.step rfl trivial rfl (λK hK=>JL.callC (vs:=[_]) (args:=[_,_,_,_]) (K:=[_,_,_]) (rst:=[_,_,_,_,_,_]) E14 rfl rfl rfl (picks 1 rfl (picks 1 rfl (picks 1 rfl picks0))) (send_Parse_1_ok a1.1 a1.2.1 a1.2.2.1 a1.2.2.2 _ g3 _ i9) rfl (λp6 p7 p8 g4 p9 g5=> ?_))
          obtain⟨g6,g7,g8,g9,h0,h1,h2,rfl,rfl,rfl,h3,a2,h4,-⟩:=g4
          replace a2:=(RowOf.base (RowOf.const (H2:=New H d) RU8.const a2) (λp hp=>(g5 p (mem_seg 3 rfl hp)).resolve_left (h4 p hp)))
          refine JL.nil (hK _ _ _ (Hle.refl _) (kept1 [false,true,true,true,false,false,false,false] [5,0,0,0,6,7,8,9] (by kernel_rfl) rfl) ?_)
          refine JB.val (i:=4) [] rfl (R.fa F57_4 rfl) ?_
          refine JB.one (i:=5) (by kernel_rfl) ?_
          refine JOB.step rfl trivial rfl (λK hK=>Run.lnz [5] 2 tbo rfl (hK _ _ _ (Hle.refl _) (kept1 [true,true,true,true,false,false,false,false] [0,0,0,0,6,7,8,9] (by kernel_rfl) rfl) ?_))
          refine JB.doneN (by kernel_rfl) ?_
          obtain rfl:=Option.some.inj hx
          refine JN.front 7 rfl (JN.front 9 rfl (JN.front 8 rfl (JN.front 7 rfl (JN.front 9 rfl (JN.front 8 rfl (JN.front 9 rfl (JN.front 7 rfl (JN.front 9 rfl (JN.front 9 rfl ?_)))))))))
          exact JN.cutR ⟨g6,g7,g8,g9,h0,h1,h2,rfl,rfl,rfl,h3,a2⟩ rfl rfl rfl
         ·
          refine JOB.step rfl trivial rfl (λK hK=>JL.callC (vs:=[_]) (args:=[_,_]) (K:=[_,_,_,_]) (rst:=[_,_,_,_,_]) E16 rfl rfl rfl (picks 1 rfl (picks 1 rfl (picks 1 rfl (picks 1 rfl picks0)))) (send_Parse_2_ok 2 f.2.1 f.2.2.1 f.2.2.2 _ i4 _ i8) rfl (λo8 o9 p0 g2 p1 p2=> ?_))
          obtain⟨p3,p4,p5,rfl,rfl,rfl,g3,-⟩:=g2
          refine JL.nil (hK _ _ _ (Hle.refl _) (kept1 [false,true,true,true,false,false,false,false] [4,0,0,0,5,6,7,8] (by kernel_rfl) rfl) ?_)
          refine JB.one (i:=0) (by kernel_rfl) ?_
          refine JOB.step rfl trivial rfl (λK hK=>Run.lnz [0] 2 tbo rfl (hK _ _ _ (Hle.refl _) (kept1 [false,true,true,true,false,false,false,false] [4,0,0,0,5,6,7,8] (by kernel_rfl) rfl) ?_))
          refine JB.one (i:=3) (by kernel_rfl) ?_
          refine JOB.step rfl trivial rfl (λK hK=>JL.callC (vs:=[_]) (args:=[_,_,_,_]) (K:=[_,_,_]) (rst:=[_,_,_,_,_,_]) E14 rfl rfl rfl (picks 1 rfl (picks 1 rfl (picks 1 rfl picks0))) (send_Parse_1_ok a1.1 a1.2.1 a1.2.2.1 a1.2.2.2 _ g3 _ i9) rfl (λp6 p7 p8 g4 p9 g5=> ?_))
          obtain⟨g6,g7,g8,g9,h0,h1,h2,rfl,rfl,rfl,h3,a2,h4,-⟩:=g4
          replace a2:=(RowOf.base (RowOf.const (H2:=New H d) RU8.const a2) (λp hp=>(g5 p (mem_seg 3 rfl hp)).resolve_left (h4 p hp)))
          refine JL.nil (hK _ _ _ (Hle.refl _) (kept1 [false,true,true,true,false,false,false,false] [5,0,0,0,6,7,8,9] (by kernel_rfl) rfl) ?_)
          refine JB.val (i:=4) [] rfl (R.fa F57_4 rfl) ?_
          refine JB.one (i:=5) (by kernel_rfl) ?_
          refine JOB.step rfl trivial rfl (λK hK=>Run.lnz [5] 2 tbo rfl (hK _ _ _ (Hle.refl _) (kept1 [true,true,true,true,false,false,false,false] [0,0,0,0,6,7,8,9] (by kernel_rfl) rfl) ?_))
          refine JB.doneN (by kernel_rfl) ?_
          obtain rfl:=Option.some.inj hx
          refine JN.front 7 rfl (JN.front 9 rfl (JN.front 8 rfl (JN.front 7 rfl (JN.front 9 rfl (JN.front 8 rfl (JN.front 9 rfl (JN.front 7 rfl (JN.front 9 rfl (JN.front 9 rfl ?_)))))))))
          exact JN.cutR ⟨g6,g7,g8,g9,h0,h1,h2,rfl,rfl,rfl,h3,a2⟩ rfl rfl rfl
       ·
        refine Run.cnz_k [] 2 tbo rfl ?_
        obtain rfl:=run_done d3 hx
        refine Run.nnz_kb [] 2 tbo rfl (JN.front 7 rfl (JN.front 7 rfl (JN.front 7 rfl (JN.front 7 rfl (JN.front 7 rfl (JN.front 7 rfl (JN.front 7 rfl (JN.front 7 rfl ?_))))))))
        exact JN.cutR ⟨d,a6,a7,a8,a9,b0,b1,b2,rfl,rfl,rfl,(d0),d1,d2⟩ rfl rfl rfl
      ·
       refine Run.lnz_sk [] 8 tbo rfl ?_
       obtain rfl:=run_done d3 hx
       refine Run.nnz_kb [] 2 tbo rfl (JN.front 7 rfl (JN.front 7 rfl (JN.front 7 rfl (JN.front 7 rfl (JN.front 7 rfl (JN.front 7 rfl (JN.front 7 rfl (JN.front 7 rfl ?_))))))))
       exact JN.cutR ⟨d,a6,a7,a8,a9,b0,b1,b2,rfl,rfl,rfl,(d0),d1,d2⟩ rfl rfl rfl
     ·
      refine Run.lnz_sk [] 12 tbo rfl ?_
      obtain rfl:=run_done d3 hx
      refine Run.nnz_kb [] 2 tbo rfl (JN.front 7 rfl (JN.front 7 rfl (JN.front 7 rfl (JN.front 7 rfl (JN.front 7 rfl (JN.front 7 rfl (JN.front 7 rfl (JN.front 7 rfl ?_))))))))
      exact JN.cutR ⟨d,a6,a7,a8,a9,b0,b1,b2,rfl,rfl,rfl,(d0),d1,d2⟩ rfl rfl rfl
  ·
   refine JC.draw (so:=[_]) 11 rfl Mixed ⟨⟨4,rfl⟩,trivial⟩ (JA.val ⟨by kernel_rfl,by kernel_rfl⟩ (calm_only _) (i:=0) rfl ⟨by kernel_rfl,by kernel_rfl,rfl⟩ trivial (stab_of (Hle.refl _) ⟨⟨4,rfl⟩,trivial⟩) (R.move rfl) rfl (JA.val ⟨by kernel_rfl,by kernel_rfl⟩ (calm_only _) (i:=3) rfl ⟨by kernel_rfl,by kernel_rfl,rfl⟩ trivial (stab_of (Hle.refl _) ⟨⟨4,rfl⟩,trivial⟩) (R.move rfl) rfl (JAA.start [⟨9,9,26,.agg #[.int .u32 0,.int .u32 0,.slice none 0 0,.slice none 0 0,.slice none 0 0]⟩] rfl ?_)))
   obtain⟨b,j0,hx⟩:=bnd_some hx
   obtain⟨c,h5,hx⟩:=bnd_some hx
   obtain⟨z1,h6,hx⟩:=bnd_some hx
   refine JAA.two (i:=1) (j:=6) ⟨⟨_,_,_,rfl,Z26,rfl⟩,trivial⟩ (Hle.refl _) ⟨⟨4,rfl⟩,trivial⟩ rfl (by kernel_rfl) ?_ ?_
   ·
    refine JOA.step rfl trivial rfl (λz2 q0 K hK=>JL.callC (vs:=[_]) (args:=[_,_]) (K:=[_,_,_,_]) (rst:=_::q0) E16 rfl rfl rfl (picks 0 rfl (picks 0 rfl (picks 0 rfl (picks 0 rfl picks0)))) (send_Parse_2_ok 4 a3.2.1 a3.2.2.1 a3.2.2.2 _ h9 _ j0) rfl (λq1 q2 q3 h7 q4 q5=> ?_))
    obtain⟨q6,q7,q8,rfl,rfl,rfl,e0,-⟩:=h7
    refine JL.nil (hK (by repeat constructor) (by repeat constructor) (stab_of (Hle.refl _) ⟨⟨4,rfl⟩,trivial⟩) (JAA.val ⟨by kernel_rfl,by kernel_rfl⟩ (calm_only _) (i:=2) rfl (by kernel_rfl) rfl trivial (Hle.refl _) ⟨⟨4,rfl⟩,trivial⟩ (R.cv_i64_u32 U3 U22 rfl) rfl (JAA.two (i:=4) (j:=6) ⟨⟨_,_,_,rfl,Z26,rfl⟩,trivial⟩ (Hle.refl _) ⟨⟨4,rfl⟩,trivial⟩ rfl (by kernel_rfl) ?_ ?_)))
    ·
     refine JOA.step rfl trivial rfl (λz3 q9 K hK=>JL.callC (vs:=[_]) (args:=[_,_]) (K:=[_,_,_,_]) (rst:=_::q9) E16 rfl rfl rfl (picks 0 rfl (picks 0 rfl (picks 0 rfl (picks 0 rfl picks0)))) (send_Parse_2_ok 4 b.2.1 b.2.2.1 b.2.2.2 _ e0 _ h5) rfl (λj1 j2 j3 b6 j4 j5=> ?_))
     obtain⟨j6,j7,j8,rfl,rfl,rfl,b7,-⟩:=b6
     refine JL.nil (hK (by repeat constructor) (by repeat constructor) (stab_of (Hle.refl _) ⟨⟨4,rfl⟩,trivial⟩) (JAA.val ⟨by kernel_rfl,by kernel_rfl⟩ (calm_only _) (i:=5) rfl (by kernel_rfl) rfl trivial (Hle.refl _) ⟨⟨4,rfl⟩,trivial⟩ (R.cv_i64_u32 U3 U22 rfl) rfl (JAA.one (i:=6) ⟨⟨_,_,_,rfl,Z26,rfl⟩,trivial⟩ (Hle.refl _) ⟨⟨4,rfl⟩,trivial⟩ rfl (by kernel_rfl) (JOA.step rfl trivial rfl (λz4 z5 K hK=> ?_)))))
     refine Run.lnz [0] 2 tbo rfl (hK (by repeat constructor) (by repeat constructor) (stab_of (Hle.refl _) ⟨⟨4,rfl⟩,trivial⟩) (JAA.one (i:=7) ⟨⟨_,_,_,rfl,Z26,rfl⟩,trivial⟩ (Hle.refl _) ⟨⟨4,rfl⟩,trivial⟩ rfl (by kernel_rfl) (JOA.step rfl trivial rfl (λz6 r0 K hK=>JL.callC (vs:=[_]) (args:=[_,_,_,_]) (K:=[_,_,_]) (rst:=_::_::r0) E14 rfl rfl rfl (picks 1 rfl (picks 1 rfl (picks 1 rfl picks0))) (send_Parse_1_ok 24 c.2.1 c.2.2.1 c.2.2.2 _ b7 _ h6) rfl (λj9 k0 k1 b8 k2 b9=> ?_)))))
     obtain⟨c0,c1,c2,h,k,m,c3,rfl,rfl,rfl,c4,q,c5,-⟩:=b8
     replace q:=(RowOf.base (RowOf.const (H2:=New H H) RU8.const q) (λp hp=>(b9 p (mem_seg 3 rfl hp)).resolve_left (c5 p hp)))
     refine JL.nil (hK (by repeat constructor) (by repeat constructor) (stab_of (Hle.refl _) ⟨⟨5,rfl⟩,trivial⟩) (JAA.val ⟨by kernel_rfl,by kernel_rfl⟩ (calm_only _) (i:=8) rfl (by kernel_rfl) rfl trivial (Hle.refl _) ⟨⟨5,rfl⟩,trivial⟩ (R.bldP (vs:=[(0,.int .u32 ((u32i b.1).toNat:Int)),(1,.int .u32 ((u32i c.1).toNat:Int)),(2,.slice h k m)]) (cs:=[.int .u32 ((u32i b.1).toNat:Int),.int .u32 ((u32i c.1).toNat:Int),.slice h k m,.slice none 0 0,.slice none 0 0]) Z26 B26 rfl rfl rfl) rfl (JAA.all ⟨⟨_,_,_,rfl,Z26,rfl⟩,trivial⟩ (Hle.refl _) ⟨⟨5,rfl⟩,trivial⟩ rfl (by kernel_rfl) (λr1 r2=>JA.one (i:=10) (by kernel_rfl) (JO.step rfl trivial rfl (λK hK=> ?_))))))
     refine Run.lnz [6] 2 tbo rfl (hK _ _ _ (stab_of (Hle.refl _) ⟨⟨5,rfl⟩,trivial⟩) (JA.doneN (by kernel_rfl) ?_))
     obtain rfl:=Option.some.inj hx
     refine JN.front 4 rfl (JN.front 5 rfl (JN.front 5 rfl (JN.front 6 rfl (JN.front 4 rfl (JN.front 6 rfl (JN.front 6 rfl ?_))))))
     exact JN.cutR ⟨c0,c1,c2,r1,h,k,m,c3,rfl,rfl,rfl,c4,r2,q⟩ rfl rfl rfl
    ·
     refine JOA.step rfl trivial rfl (λz7 z8 K hK=>Run.lnz [0] 2 tbo rfl (hK (by repeat constructor) (by repeat constructor) (stab_of (Hle.refl _) ⟨⟨4,rfl⟩,trivial⟩) (JAA.one (i:=4) ⟨⟨_,_,_,rfl,Z26,rfl⟩,trivial⟩ (Hle.refl _) ⟨⟨4,rfl⟩,trivial⟩ rfl (by kernel_rfl) (JOA.step rfl trivial rfl (λz9 r3 K hK=>JL.callC (vs:=[_]) (args:=[_,_]) (K:=[_,_,_,_]) (rst:=_::r3) E16 rfl rfl rfl (picks 0 rfl (picks 0 rfl (picks 0 rfl (picks 0 rfl picks0)))) (send_Parse_2_ok 4 b.2.1 b.2.2.1 b.2.2.2 _ e0 _ h5) rfl (λj1 j2 j3 b6 j4 j5=> ?_))))))
     obtain⟨j6,j7,j8,rfl,rfl,rfl,b7,-⟩:=b6
     refine JL.nil (hK (by repeat constructor) (by repeat constructor) (stab_of (Hle.refl _) ⟨⟨4,rfl⟩,trivial⟩) (JAA.val ⟨by kernel_rfl,by kernel_rfl⟩ (calm_only _) (i:=5) rfl (by kernel_rfl) rfl trivial (Hle.refl _) ⟨⟨4,rfl⟩,trivial⟩ (R.cv_i64_u32 U3 U22 rfl) rfl (JAA.one (i:=7) ⟨⟨_,_,_,rfl,Z26,rfl⟩,trivial⟩ (Hle.refl _) ⟨⟨4,rfl⟩,trivial⟩ rfl (by kernel_rfl) (JOA.step rfl trivial rfl (λa00 r4 K hK=>JL.callC (vs:=[_]) (args:=[_,_,_,_]) (K:=[_,_,_]) (rst:=_::_::r4) E14 rfl rfl rfl (picks 1 rfl (picks 1 rfl (picks 1 rfl picks0))) (send_Parse_1_ok 24 c.2.1 c.2.2.1 c.2.2.2 _ b7 _ h6) rfl (λj9 k0 k1 b8 k2 b9=> ?_))))))
     obtain⟨c0,c1,c2,h,k,m,c3,rfl,rfl,rfl,c4,q,c5,-⟩:=b8
     replace q:=(RowOf.base (RowOf.const (H2:=New H H) RU8.const q) (λp hp=>(b9 p (mem_seg 3 rfl hp)).resolve_left (c5 p hp)))
     refine JL.nil (hK (by repeat constructor) (by repeat constructor) (stab_of (Hle.refl _) ⟨⟨5,rfl⟩,trivial⟩) (JAA.val ⟨by kernel_rfl,by kernel_rfl⟩ (calm_only _) (i:=8) rfl (by kernel_rfl) rfl trivial (Hle.refl _) ⟨⟨5,rfl⟩,trivial⟩ (R.bldP (vs:=[(0,.int .u32 ((u32i b.1).toNat:Int)),(1,.int .u32 ((u32i c.1).toNat:Int)),(2,.slice h k m)]) (cs:=[.int .u32 ((u32i b.1).toNat:Int),.int .u32 ((u32i c.1).toNat:Int),.slice h k m,.slice none 0 0,.slice none 0 0]) Z26 B26 rfl rfl rfl) rfl (JAA.all ⟨⟨_,_,_,rfl,Z26,rfl⟩,trivial⟩ (Hle.refl _) ⟨⟨5,rfl⟩,trivial⟩ rfl (by kernel_rfl) (λr5 r6=>JA.one (i:=10) (by kernel_rfl) (JO.step rfl trivial rfl (λK hK=> ?_))))))
     refine Run.lnz [6] 2 tbo rfl (hK _ _ _ (stab_of (Hle.refl _) ⟨⟨5,rfl⟩,trivial⟩) (JA.doneN (by kernel_rfl) ?_))
     obtain rfl:=Option.some.inj hx
     refine JN.front 4 rfl (JN.front 5 rfl (JN.front 5 rfl (JN.front 6 rfl (JN.front 4 rfl (JN.front 6 rfl (JN.front 6 rfl ?_))))))
     exact JN.cutR ⟨c0,c1,c2,r5,h,k,m,c3,rfl,rfl,rfl,c4,r6,q⟩ rfl rfl rfl
   ·
    refine JOA.step rfl trivial rfl (λa01 a02 K hK=>Run.lnz [0] 2 tbo rfl (hK (by repeat constructor) (by repeat constructor) (stab_of (Hle.refl _) ⟨⟨4,rfl⟩,trivial⟩) (JAA.one (i:=1) ⟨⟨_,_,_,rfl,Z26,rfl⟩,trivial⟩ (Hle.refl _) ⟨⟨4,rfl⟩,trivial⟩ rfl (by kernel_rfl) (JOA.step rfl trivial rfl (λa03 r7 K hK=>JL.callC (vs:=[_]) (args:=[_,_]) (K:=[_,_,_,_]) (rst:=_::r7) E16 rfl rfl rfl (picks 0 rfl (picks 0 rfl (picks 0 rfl (picks 0 rfl picks0)))) (send_Parse_2_ok 4 a3.2.1 a3.2.2.1 a3.2.2.2 _ h9 _ j0) rfl (λq1 q2 q3 h7 q4 q5=> ?_))))))
    obtain⟨q6,q7,q8,rfl,rfl,rfl,e0,-⟩:=h7
    refine JL.nil (hK (by repeat constructor) (by repeat constructor) (stab_of (Hle.refl _) ⟨⟨4,rfl⟩,trivial⟩) (JAA.val ⟨by kernel_rfl,by kernel_rfl⟩ (calm_only _) (i:=2) rfl (by kernel_rfl) rfl trivial (Hle.refl _) ⟨⟨4,rfl⟩,trivial⟩ (R.cv_i64_u32 U3 U22 rfl) rfl (JAA.one (i:=4) ⟨⟨_,_,_,rfl,Z26,rfl⟩,trivial⟩ (Hle.refl _) ⟨⟨4,rfl⟩,trivial⟩ rfl (by kernel_rfl) (JOA.step rfl trivial rfl (λa04 r8 K hK=>JL.callC (vs:=[_]) (args:=[_,_]) (K:=[_,_,_,_]) (rst:=_::r8) E16 rfl rfl rfl (picks 0 rfl (picks 0 rfl (picks 0 rfl (picks 0 rfl picks0)))) (send_Parse_2_ok 4 b.2.1 b.2.2.1 b.2.2.2 _ e0 _ h5) rfl (λj1 j2 j3 b6 j4 j5=> ?_))))))
    obtain⟨j6,j7,j8,rfl,rfl,rfl,b7,-⟩:=b6
    refine JL.nil (hK (by repeat constructor) (by repeat constructor) (stab_of (Hle.refl _) ⟨⟨4,rfl⟩,trivial⟩) (JAA.val ⟨by kernel_rfl,by kernel_rfl⟩ (calm_only _) (i:=5) rfl (by kernel_rfl) rfl trivial (Hle.refl _) ⟨⟨4,rfl⟩,trivial⟩ (R.cv_i64_u32 U3 U22 rfl) rfl (JAA.one (i:=7) ⟨⟨_,_,_,rfl,Z26,rfl⟩,trivial⟩ (Hle.refl _) ⟨⟨4,rfl⟩,trivial⟩ rfl (by kernel_rfl) (JOA.step rfl trivial rfl (λa05 r9 K hK=>JL.callC (vs:=[_]) (args:=[_,_,_,_]) (K:=[_,_,_]) (rst:=_::_::r9) E14 rfl rfl rfl (picks 1 rfl (picks 1 rfl (picks 1 rfl picks0))) (send_Parse_1_ok 24 c.2.1 c.2.2.1 c.2.2.2 _ b7 _ h6) rfl (λj9 k0 k1 b8 k2 b9=> ?_))))))
    obtain⟨c0,c1,c2,h,k,m,c3,rfl,rfl,rfl,c4,q,c5,-⟩:=b8
    replace q:=(RowOf.base (RowOf.const (H2:=New H H) RU8.const q) (λp hp=>(b9 p (mem_seg 3 rfl hp)).resolve_left (c5 p hp)))
    refine JL.nil (hK (by repeat constructor) (by repeat constructor) (stab_of (Hle.refl _) ⟨⟨5,rfl⟩,trivial⟩) (JAA.val ⟨by kernel_rfl,by kernel_rfl⟩ (calm_only _) (i:=8) rfl (by kernel_rfl) rfl trivial (Hle.refl _) ⟨⟨5,rfl⟩,trivial⟩ (R.bldP (vs:=[(0,.int .u32 ((u32i b.1).toNat:Int)),(1,.int .u32 ((u32i c.1).toNat:Int)),(2,.slice h k m)]) (cs:=[.int .u32 ((u32i b.1).toNat:Int),.int .u32 ((u32i c.1).toNat:Int),.slice h k m,.slice none 0 0,.slice none 0 0]) Z26 B26 rfl rfl rfl) rfl (JAA.all ⟨⟨_,_,_,rfl,Z26,rfl⟩,trivial⟩ (Hle.refl _) ⟨⟨5,rfl⟩,trivial⟩ rfl (by kernel_rfl) (λs0 s1=>JA.one (i:=10) (by kernel_rfl) (JO.step rfl trivial rfl (λK hK=> ?_))))))
    refine Run.lnz [6] 2 tbo rfl (hK _ _ _ (stab_of (Hle.refl _) ⟨⟨5,rfl⟩,trivial⟩) (JA.doneN (by kernel_rfl) ?_))
    obtain rfl:=Option.some.inj hx
    refine JN.front 4 rfl (JN.front 5 rfl (JN.front 5 rfl (JN.front 6 rfl (JN.front 4 rfl (JN.front 6 rfl (JN.front 6 rfl ?_))))))
    exact JN.cutR ⟨c0,c1,c2,s0,h,k,m,c3,rfl,rfl,rfl,c4,s1,q⟩ rfl rfl rfl
theorem ref29_Same_ok{c d}:Con Tryz.prog 8 true (sp_Stream false c++sp_Stream false d) (ref29_Same c d) (λr=> [.b r]):=by
 intro H v x y b9 z a0 a1 i a2 a3 a4 c0 a5 a6 a7 c1 a8 a9 b0 b1 b2 b3 b4 c2 r hx
 refine Does.enterC Tryz.func8 rfl rfl ?_
 intro w
 unfold ref29_Same at hx
 refine Run.cl [] 2 tbo rfl (JL.box rfl rfl (λj e1=>JL.box rfl rfl (λk e2=>Run.ll_s [1,0] 10 tbo rfl (JL.val rfl rfl (R.neq32 (a:=c.Guid) (b:=d.Guid) rfl rfl) (JL.val rfl rfl (R.move rfl) (JL.gX 13 hx rfl (λc3 hx=> ?_) (λc3 hx=> ?_)))))))
 ·
  refine Run.lnz_sk [] 43 tbo rfl ?_
  exact JN.conQ [] rfl hx rfl rfl
 ·
  refine Run.llz [1,0] 9 tbo rfl (JL.val rfl rfl (R.neq32 (a:=c.Base) (b:=d.Base) rfl rfl) (Run.llz [] 2 tbo rfl (JL.gX 20 hx rfl (λc4 hx=> ?_) (λc4 hx=> ?_))))
  ·
   refine Run.lnz_sk [] 36 tbo rfl ?_
   exact JN.conQ [] rfl hx rfl rfl
  ·
   refine Run.llz [1] 5 tbo rfl (JL.val rfl rfl (R.toStr U23 U5 U9 rfl b9) (Run.llz [0] 5 tbo rfl (JL.val rfl rfl (R.toStr U23 U5 U9 rfl c1) (JL.gYes rfl rfl rfl (JL.val rfl rfl (R.neqStr (a:=c.Key) (b:=d.Key) rfl rfl) (Run.llz [] 2 tbo rfl (JL.gX 29 hx rfl (λc5 hx=> ?_) (λc5 hx=> ?_))))))))
   ·
    refine Run.lnz_sk [] 27 tbo rfl ?_
    exact JN.conQ [] rfl hx rfl rfl
   ·
    refine Run.llz [1] 5 tbo rfl (JL.val rfl rfl (R.toStr U23 U5 U9 rfl c0) (Run.llz [0] 5 tbo rfl (JL.val rfl rfl (R.toStr U23 U5 U9 rfl c2) (JL.gYes rfl rfl rfl (JL.val rfl rfl (R.neqStr (a:=c.Sign) (b:=d.Sign) rfl rfl) (Run.llz [] 2 tbo rfl (JL.gX 38 hx rfl (λc6 hx=> ?_) (λc6 hx=> ?_))))))))
    ·
     refine Run.lnz_sk [] 18 tbo rfl ?_
     exact JN.conQ [] rfl hx rfl rfl
    ·
     refine Run.llz [1] 5 tbo rfl (JL.val rfl rfl (R.lenL U24 rfl (IsSlice.long i)) (Run.llz [0] 5 tbo rfl (JL.val rfl rfl (R.lenL U24 rfl (IsSlice.long b1)) (Run.lcz_s [] 5 tbo rfl (JC.tidy (l':=[(2,.pointer (some ⟨j,0,none⟩)),(3,.pointer (some ⟨k,0,none⟩)),(4,.bool false),(46,.bool (!decide ((c.Parts.length:Int)=(d.Parts.length:Int))))]) (own':=[[(k,.cells #[.int .u32 (d.Guid.toNat:Int),.int .u32 (d.Base.toNat:Int),.slice a5 a6 a7,.slice a8 a9 b0,.slice b2 b3 b4] 26 (0,0))],[(j,.cells #[.int .u32 (c.Guid.toNat:Int),.int .u32 (c.Base.toNat:Int),.slice v x y,.slice z a0 a1,.slice a2 a3 a4] 26 (0,0))]]) ⟨rfl,rfl,rfl,rfl,trivial⟩ rfl (JC.tidyP (l':=[(2,.pointer (some ⟨j,0,none⟩)),(3,.pointer (some ⟨k,0,none⟩)),(4,.bool false),(46,.bool (!decide ((c.Parts.length:Int)=(d.Parts.length:Int))))]) (own':=[[(k,.cells #[.int .u32 (d.Guid.toNat:Int),.int .u32 (d.Base.toNat:Int),.slice a5 a6 a7,.slice a8 a9 b0,.slice b2 b3 b4] 26 (0,0))],[(j,.cells #[.int .u32 (c.Guid.toNat:Int),.int .u32 (c.Base.toNat:Int),.slice v x y,.slice z a0 a1,.slice a2 a3 a4] 26 (0,0))]]) (rst:=[]) ⟨rfl,rfl,rfl,rfl,trivial⟩ (picks 0 rfl (picks 0 rfl picks0)) (JC.ifx hx rfl (λc7 hx=> ?_) (λc7 hx=> ?_))))))))
     ·
      refine Run.cnz_k [] 7 tbo rfl ?_
      exact JN.conQ [] rfl hx rfl rfl
     ·
      refine Run.cc_s [] 8 tbo rfl (JC.cutX hx [] [] rfl rfl (λm l0 o0 l o g=>∃b5:Unit,l=l0∧o=o0∧H=g∧m=.inl b5) (λm e3 hx=> ?_) (λm h hx=> ?_))
      ·
       rintro _ _ _ ⟨b5,rfl,rfl,rfl,rfl⟩
       simp only[Sum.elim_inl]at hx
       refine Run.nnz_s [] 7 tbo rfl ?_
       exact JN.conQ [] rfl hx rfl rfl
      ·
       refine JC.block (JC.front 1 rfl (JC.loopX [2,3] [0,1] rfl rfl (λl0 o0 p l o g=>l=(5,.int .i64 ((p:Nat):Int))::l0∧o=o0∧H=g) hx ⟨rfl,rfl,rfl⟩ rfl ?_))
       ·
        rintro e4 p _ _ _ ⟨rfl,rfl,rfl⟩ e5 hx f
        unfold ref29_Same_l1 at hx
        refine Run.cl [0] 6 tbo rfl (JL.val rfl rfl (R.lenL U24 rfl (IsSlice.long i)) (Run.lcz_s [] 3 tbo rfl (JC.ifx hx rfl (λb6 hx=> ?_) (λb6 hx=> ?_))))
        ·
         refine Run.cl_s [0] 9 tbo rfl ?_
         obtain⟨q,c8,hx⟩:=idx_some hx
         obtain⟨e6,e7,e8,c9,d0,e9,d1⟩:=IsSlice.elem i c8
         obtain⟨f0,rfl,b7⟩:=d0
         obtain⟨f1,f2,rfl⟩:=IsSlice.val b7
         refine JL.val rfl rfl (R.ix U24 S57 rfl rfl c9) (JL.val rfl rfl (R.ldHF 0 S57 rfl d1 rfl rfl) (JL.alloc Z57 rfl (λf3 f4=>Run.ll_s [0,2] 8 tbo rfl ?_)))
         obtain⟨s,d2,hx⟩:=idx_some hx
         obtain⟨f5,f6,f7,d3,d4,f8,d5⟩:=IsSlice.elem b1 d2
         obtain⟨f9,rfl,b8⟩:=d4
         obtain⟨g0,g1,rfl⟩:=IsSlice.val b8
         refine JL.val rfl rfl (R.ix U24 S57 rfl rfl d3) (JL.val rfl rfl (R.ldHF 0 S57 rfl d5 rfl rfl) (JL.alloc Z57 rfl (λg2 g3=>Run.ll_s [0,1,0] 11 tbo rfl (JL.gX 69 hx rfl (λd6 hx=> ?_) (λd6 hx=> ?_)))))
         ·
          refine Run.lnz_sbk [] 40 tbo rfl ?_
          obtain rfl:=run_done f hx
          refine Run.nnz_kb [] 2 tbo rfl ?_
          clear hx;have hx:=h
          simp only[Sum.elim_inl,Sum.elim_inr]at hx
          refine Run.nnz_kk [] 2 tbo rfl ?_
          exact JN.conQ [] rfl hx rfl rfl
         ·
          refine Run.llz [1,0] 12 tbo rfl (JL.gX 76 hx rfl (λd7 hx=> ?_) (λd7 hx=> ?_))
          ·
           refine Run.lnz_sbk [] 33 tbo rfl ?_
           obtain rfl:=run_done f hx
           refine Run.nnz_kb [] 2 tbo rfl ?_
           clear hx;have hx:=h
           simp only[Sum.elim_inl,Sum.elim_inr]at hx
           refine Run.nnz_kk [] 2 tbo rfl ?_
           exact JN.conQ [] rfl hx rfl rfl
          ·
           refine Run.llz [1,0] 9 tbo rfl (JL.val rfl rfl (R.neq32 (a:=q.Iv) (b:=s.Iv) rfl rfl) (Run.llz [] 2 tbo rfl (JL.gX 83 hx rfl (λd8 hx=> ?_) (λd8 hx=> ?_))))
           ·
            refine Run.lnz_sbk [] 26 tbo rfl ?_
            obtain rfl:=run_done f hx
            refine Run.nnz_kb [] 2 tbo rfl ?_
            clear hx;have hx:=h
            simp only[Sum.elim_inl,Sum.elim_inr]at hx
            refine Run.nnz_kk [] 2 tbo rfl ?_
            exact JN.conQ [] rfl hx rfl rfl
           ·
            refine Run.llz [1,0] 9 tbo rfl (JL.val rfl rfl (R.neq32 (a:=q.Tag) (b:=s.Tag) rfl rfl) (Run.llz [] 2 tbo rfl (JL.gX 90 hx rfl (λd9 hx=> ?_) (λd9 hx=> ?_))))
            ·
             refine Run.lnz_sbk [] 19 tbo rfl ?_
             obtain rfl:=run_done f hx
             refine Run.nnz_kb [] 2 tbo rfl ?_
             clear hx;have hx:=h
             simp only[Sum.elim_inl,Sum.elim_inr]at hx
             refine Run.nnz_kk [] 2 tbo rfl ?_
             exact JN.conQ [] rfl hx rfl rfl
            ·
             refine Run.llz [1] 5 tbo rfl (JL.val rfl rfl (R.toStr U23 U5 U9 rfl b7) (Run.llz [0] 5 tbo rfl (JL.val rfl rfl (R.toStr U23 U5 U9 rfl b8) (JL.gYes rfl rfl rfl (JL.val rfl rfl (R.neqStr (a:=q.Data) (b:=s.Data) rfl rfl) (Run.lcz_s [] 3 tbo rfl (JC.ifx hx rfl (λe0 hx=> ?_) (λe0 hx=> ?_))))))))
             ·
              refine Run.cnz_bk [] 8 tbo rfl ?_
              obtain rfl:=run_done f hx
              refine Run.nnz_kb [] 2 tbo rfl ?_
              clear hx;have hx:=h
              simp only[Sum.elim_inl,Sum.elim_inr]at hx
              refine Run.nnz_kk [] 2 tbo rfl ?_
              exact JN.conQ [] rfl hx rfl rfl
             ·
              refine Run.clz_bs [] 5 tbo rfl (JL.val rfl rfl (R.inc rfl rfl (of_decide_eq_true b6) (IsSlice.lenI i)) (Run.lnz [] 2 tbo rfl ?_))
              replace hx:=run_next f hx
              refine JN.forget 1 (JN.forget 0 (JN.front 1 rfl (JN.front 1 rfl ?_)))
              exact JN.cutR ⟨p+1,⟨rfl,rfl,rfl⟩,hx⟩ rfl rfl rfl
        ·
         refine Run.cnz_k [] 2 tbo rfl ?_
         obtain rfl:=run_done f hx
         refine Run.nnz_kb [] 2 tbo rfl (JN.forget 1 (JN.forget 0 ?_))
         exact JN.cutR ⟨(),rfl,rfl,rfl,rfl⟩ rfl rfl rfl
theorem law29_SendBack_ok (c:Stream)(a3:List UInt8)(H:Heaplet){h:Option Addr}{i:Nat}{j:Nat}{k:Option Addr}{m:Nat}{p:Nat}{q:Option Addr}{s:Nat}{v:Nat}{x:Option Addr}{y:Nat}{z:Nat}(a4:IsSlice H RU8 1 (.slice h i j) c.Key)(a5:IsSlice H R_Part 5 (.slice k m p) c.Parts)(a6:IsSlice H RU8 1 (.slice q s v) c.Sign)(a7:IsSlice H RU8 1 (.slice x y z) a3)(r:Bool)(hx:law29_SendBack c a3=some r):
  Does Tryz.prog 3 #[.agg #[.int .u32 (c.Guid.toNat:Int),.int .u32 (c.Base.toNat:Int),.slice h i j,.slice k m p,.slice q s v],.slice x y z] [] H (λu K' H'=>u=.bool r∧K'= []∧True):=by
 refine Does.enterL (vs:=[.agg #[.int .u32 (c.Guid.toNat:Int),.int .u32 (c.Base.toNat:Int),.slice h i j,.slice k m p,.slice q s v],.slice x y z]) (l:=[(0,.agg #[.int .u32 (c.Guid.toNat:Int),.int .u32 (c.Base.toNat:Int),.slice h i j,.slice k m p,.slice q s v]),(1,.slice x y z)]) Tryz.func3 rfl rfl ⟨rfl,rfl,trivial⟩ (λw hlt=> ?_)
 unfold law29_SendBack at hx
 refine Run.cl [] 2 tbo rfl (JL.box rfl rfl (λe8 e9=>Run.ll_s [] 5 tbo rfl ?_))
 obtain⟨a8,c6,hx⟩:=bnd_some hx
 refine JL.callC (vs:=[]) (args:=[]) (K:=[]) (rst:=[_]) E4 rfl rfl rfl picks0 (law29_alive_ok _ _ c6) rfl (λf0 f1 f2 c7 f3 f4=> ?_)
 obtain⟨rfl,rfl,rfl,-⟩:=c7
 refine Run.ll_s [0] 7 tbo rfl (JL.conQ hx E5 rfl ref29_Great_ok rfl ⟨a4,a5,a6,trivial⟩ ?_)
 intro f5 f6 hx
 refine JL.val rfl rfl (R.move rfl) (JL.gX 17 hx rfl (λc8 hx=> ?_) (λc8 hx=> ?_))
 ·
  refine Run.lnz_sk [] 19 tbo rfl (JN.outP (vs:=[.bool a8]) (K:=[]) (rst:=[_]) (.inl rfl) rfl rfl (Res.tmp rfl rfl) picks0 ?_)
  obtain rfl:=Option.some.inj hx
  exact⟨rfl,rfl,trivial⟩
 ·
  refine Run.llz [] 3 tbo rfl (JL.val rfl rfl (R.lenL U23 rfl (IsSlice.long a7)) (Run.llz [] 4 tbo rfl (JL.gX 22 hx rfl (λc9 hx=> ?_) (λc9 hx=> ?_))))
  ·
   refine Run.lnz_sk [] 14 tbo rfl (JN.outP (vs:=[.bool a8]) (K:=[]) (rst:=[_]) (.inl rfl) rfl rfl (Res.tmp rfl rfl) picks0 ?_)
   obtain rfl:=Option.some.inj hx
   exact⟨rfl,rfl,trivial⟩
  ·
   refine Run.lcz_s [] 7 tbo rfl (JC.ifx hx rfl (λd0 hx=> ?_) (λd0 hx=> ?_))
   ·
    refine Run.cnz_k [] 8 tbo rfl (JN.outP (vs:=[.bool a8]) (K:=[]) (rst:=[_]) (.inl rfl) rfl rfl (Res.tmp rfl rfl) picks0 ?_)
    obtain rfl:=Option.some.inj hx
    exact⟨rfl,rfl,trivial⟩
   ·
    refine Run.cl_s [0] 5 tbo rfl (JL.con hx E6 rfl send_Write_ok rfl ⟨a4,a5,a6,trivial⟩ ?_)
    intro f7 f8 hx b7 f f9 g0 g1 g2 d1
    refine Run.lc_s [] 14 tbo rfl (JC.cutX hx [1] [] rfl rfl (λa9 l0 o0 l o g=>∃b8:Unit,∃b0:Heaplet,l=l0∧o=o0∧b0=g∧a9=.inl b8∧Hle b7 b0) (λa9 g3 hx=> ?_) (λa9 b9 hx=> ?_))
    ·
     rintro _ _ _ ⟨b8,b0,rfl,rfl,rfl,rfl,c0⟩
     simp only[Sum.elim_inl]at hx
     refine Run.nl_s [] 4 tbo rfl (JL.con hx E7 rfl send_Parse_ok rfl ⟨(a7.mono RU8.mono (f.trans c0)),trivial⟩ ?_)
     intro g4 g5 hx c1 d2 g6 g7 g8 g9 c2 h0 h1 h2 h3 c3 h4 h5 h6 h7 c4
     refine Run.llz [] 3 tbo rfl (JL.alloc Z26 rfl (λh8 h9=>Run.lc_s [0] 11 tbo rfl (JC.ifx hx rfl (λd3 hx=> ?_) (λd3 hx=> ?_))))
     ·
      refine Run.cl [0] 4 tbo rfl (JL.conL hx E8 rfl ref29_Same_ok rfl (λi0 b1 b2=>⟨(Lent.row' 1 b2 RU8.mono b1 rfl (c2.old RU8.mono)),(Lent.row' 2 b2 R_Part.mono b1 rfl (c3.old R_Part.mono)),(Lent.row' 3 b2 RU8.mono b1 rfl (c4.old RU8.mono)),(IsSlice.nil _ _ _),(IsSlice.nil _ _ _),(IsSlice.nil _ _ _),trivial⟩) (λ_=>trivial) ?_)
      intro d4 i1 hx
      refine Run.lnz_sk [] 5 tbo rfl (JN.outP (vs:=[.bool d4]) (K:=[]) (rst:=[_,_,_,_]) (.inl rfl) rfl rfl (Res.tmp rfl rfl) picks0 ?_)
      obtain rfl:=Option.some.inj hx
      exact⟨rfl,rfl,trivial⟩
     ·
      refine Run.cl_s [0] 5 tbo rfl (JL.conL hx E6 rfl send_Write_ok rfl (λi2 b3 b4=>⟨(Lent.row' 1 b4 RU8.mono b3 rfl (c2.old RU8.mono)),(Lent.row' 2 b4 R_Part.mono b3 rfl (c3.old R_Part.mono)),(Lent.row' 3 b4 RU8.mono b3 rfl (c4.old RU8.mono)),trivial⟩) (λ_=>⟨RU8.const,trivial⟩) ?_)
      intro d5 i3 hx i4 i5 i6 i7 d6
      refine Run.lc_s [] 8 tbo rfl (JC.cutX hx [] [] rfl rfl (λa0 l0 o0 l o g=>∃b5:Heaplet,l=(4,.bool a0)::l0∧o=o0∧b5=g∧Hle c1 b5) (λa0 i8 hx=> ?_) (λa0 i9 hx=> ?_))
      ·
       rintro _ _ _ ⟨b5,rfl,rfl,rfl,j0⟩
       refine Run.nnz_s [] 2 tbo rfl (JN.outP (vs:=[.bool a0]) (K:=[]) (rst:=[]) (.inl rfl) rfl rfl (Res.tmp rfl rfl) picks0 ?_)
       obtain rfl:=Option.some.inj hx
       exact⟨rfl,rfl,trivial⟩
      ·
       refine Run.clz [] 4 tbo rfl (JL.gX 64 hx rfl (λd7 hx=> ?_) (λd7 hx=> ?_))
       ·
        refine Run.llz [] 3 tbo rfl (JL.pubN 0 RU8.mono rfl d6 (Nat.le_refl _) (λd8 c5 d9=>JL.forget 0 (JL.val rfl rfl (R.toStr U23 U5 U9 rfl (d9.old RU8.mono)) (Run.llz [] 3 tbo rfl (JL.val rfl rfl (R.toStr U23 U5 U9 rfl (a7.mono RU8.mono (f.trans (c0.trans (d2.trans c5))))) (JL.gYes rfl rfl rfl (JL.val rfl rfl (R.eqlStr (a:=d5.1) (b:=a3) rfl rfl) (Run.lnz [] 3 tbo rfl ?_))))))))
        obtain rfl:=Option.some.inj hx
        refine JN.forget 3 (JN.forget 2 (JN.forget 1 (JN.forget 0 ?_)))
        exact JN.cutR ⟨d8,rfl,rfl,rfl,(c5)⟩ rfl rfl rfl
       ·
        refine Run.lnz [] 8 tbo rfl ?_
        obtain rfl:=Option.some.inj hx
        refine JN.forget 4 (JN.forget 3 (JN.forget 2 (JN.forget 1 (JN.forget 0 ?_))))
        exact JN.cutR ⟨c1,rfl,rfl,rfl,(Hle.refl _)⟩ rfl rfl rfl
    ·
     refine JC.ifx hx rfl (λe0 hx=> ?_) (λe0 hx=> ?_)
     ·
      refine Run.cl [] 3 tbo rfl (JL.pubN 0 RU8.mono rfl d1 (Nat.le_refl _) (λj1 a1 e1=>JL.forget 0 (JL.con hx E7 rfl send_Parse_ok rfl ⟨(e1.old RU8.mono),trivial⟩ ?_)))
      intro j2 j3 hx e2 a2 j4 j5 j6 j7 e3 j8 j9 k0 k1 e4 k2 k3 k4 k5 e5
      refine Run.llz [] 3 tbo rfl (JL.alloc Z26 rfl (λk6 k7=>Run.ll_s [0] 9 tbo rfl (JL.gX 41 hx rfl (λe6 hx=> ?_) (λe6 hx=> ?_))))
      ·
       refine Run.lnz_s [] 14 tbo rfl ?_
       obtain rfl:=Option.some.inj hx
       clear hx;have hx:=b9
       simp only[Sum.elim_inl,Sum.elim_inr]at hx
       refine Run.nnz_kk [] 2 tbo rfl (JN.outP (vs:=[.bool false]) (K:=[]) (rst:=[_,_,_,_,_]) (.inl rfl) rfl rfl (Res.tmp rfl rfl) picks0 ?_)
       obtain rfl:=Option.some.inj hx
       exact⟨rfl,rfl,trivial⟩
      ·
       refine Run.llz [4,0] 5 tbo rfl (JL.conL hx E8 rfl ref29_Same_ok rfl (λk8 d b6=>⟨(IsSlice.mono RU8.mono d (a4.mono RU8.mono (f.trans (a1.trans a2)))),(IsSlice.mono R_Part.mono d (a5.mono R_Part.mono (f.trans (a1.trans a2)))),(IsSlice.mono RU8.mono d (a6.mono RU8.mono (f.trans (a1.trans a2)))),(Lent.row' 1 b6 RU8.mono d rfl (e3.old RU8.mono)),(Lent.row' 2 b6 R_Part.mono d rfl (e4.old R_Part.mono)),(Lent.row' 3 b6 RU8.mono d rfl (e5.old RU8.mono)),trivial⟩) (λ_=>trivial) ?_)
       intro k9 l1 hx
       refine Run.lcz_s [] 5 tbo rfl (JC.ifx hx rfl (λe7 hx=> ?_) (λe7 hx=> ?_))
       ·
        refine Run.cnz [] 6 tbo rfl ?_
        obtain rfl:=Option.some.inj hx
        clear hx;have hx:=b9
        simp only[Sum.elim_inl,Sum.elim_inr]at hx
        refine Run.nnz_kk [] 2 tbo rfl (JN.outP (vs:=[.bool false]) (K:=[]) (rst:=[_,_,_,_,_]) (.inl rfl) rfl rfl (Res.tmp rfl rfl) picks0 ?_)
        obtain rfl:=Option.some.inj hx
        exact⟨rfl,rfl,trivial⟩
       ·
        refine JC.skip ?_
        obtain rfl:=Option.some.inj hx
        refine JN.forget 4 (JN.forget 3 (JN.forget 2 (JN.forget 1 (JN.forget 0 ?_))))
        exact JN.cutR ⟨(),e2,rfl,rfl,rfl,rfl,((a1.trans a2))⟩ rfl rfl rfl
     ·
      refine JC.skip ?_
      obtain rfl:=Option.some.inj hx
      refine JN.forget 1 (JN.forget 0 ?_)
      exact JN.cutR ⟨(),b7,rfl,rfl,rfl,rfl,(Hle.refl _)⟩ rfl rfl rfl
end Go.Proofs.YtnahhdmkiffgnaaGreatDoor
