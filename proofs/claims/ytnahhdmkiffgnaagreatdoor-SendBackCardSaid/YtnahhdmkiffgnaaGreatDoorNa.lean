import Derived.Test.YtnahhdmkiffgnaaGreatDoorOwMf
import Derived.Test.YtnahhdmkiffgnaaGreatDoorW2
/-
  What is proved here: the functions of this program that are computed at once, with their contracts; every function is entered.
-/
set_option linter.unusedSimpArgs false
set_option linter.unusedVariables false
namespace Go.Proofs.YtnahhdmkiffgnaaGreatDoor
open Go Go.Ow Go.RowKit Go.Proofs Go.Ev
set_option maxHeartbeats 8000000
theorem bytes_IndexByte_ok{h:List UInt8}{c:UInt8}:Con Tryz.prog 229 true ([.sl false RU8 1 h,.w8 c]) (some (Lib.indexByte h c)) (λr=> [.i r]):=by
  intro H a n cap k r hx
  refine Does.enterC Tryz.func229 rfl rfl ?_
  intro w
  refine Run.cl [] 9 tbo rfl (JL.val rfl rfl (R.indexB (m:=h) (c:=c) Tryz.func249 (by kernel_rfl) rfl (by kernel_rfl) (by kernel_rfl) rfl k rfl) ?_)
  refine Run.lnz_s [] 4 tbo rfl ?_
  exact JN.conQ [] rfl hx rfl rfl
theorem enP:EnP Tryz.prog:=by
  have key : (Tryz.prog.funcs.toList.all fun fn => fn.body.isNone || !(fn.name == "runtime.NumGoroutine")) = true := by decide +kernel
  intro f fn c hf hc
  have hm:fn∈Tryz.prog.funcs.toList:=by
    have:=Array.mem_of_getElem? hf
    exact Array.mem_toList_iff.2 this
  have h:=List.all_eq_true.1 key fn hm
  rw[hc]at h
  exact enters_of hf (by rw[hc];rfl) (by simpa using h)
theorem en{f:FuncId}{fn:Func}(hf:Tryz.prog.funcs[f]? =some fn)(hb:fn.body.isNone=false):Enters Tryz.prog f:=by
  cases hc:fn.body with
  |none=>rw[hc]at hb;cases hb
  |some c=>exact enP f fn c hf hc
theorem fSum:SFn Tryz.prog 131 nSum:=nSum_ok (en Tryz.func131 rfl) (λb H a n c hs r hr=>(mix_Sum_ok b H hs r hr).mono (λu K' H' q=>q.1))
theorem fKey:SFn Tryz.prog 120 (nKey 5):=nKey_ok (E:=5) (en Tryz.func120 rfl) (λb H a n c hs r hr=>(mix_Key_ok b H hs r hr).mono (λu K' H' q=>by
  obtain⟨_,_,_,K0,rfl,rfl,h1,_⟩:=q;exact⟨K0,rfl,h1⟩))
theorem fCheck:SFn Tryz.prog 110 nCheck:=nCheck_ok (en Tryz.func110 rfl) (λd H a1 n1 c1 a2 n2 c2 i1 i2 r hr=>(dev_Check_ok d H i1 i2 r hr).mono (λu K' H' q=>q.1))
theorem fTwin:SFn Tryz.prog 123 nTwin:=nTwin_ok (Eb:=23) (Ew:=239) (en Tryz.func123 rfl) (λd H a1 n1 c1 a2 n2 c2 i1 i2 r hr=>(dev_Twin_ok d H i1 i2 r hr).mono (λu K' H' q=>by
  obtain⟨_,_,_,K0,_,_,_,K1,rfl,rfl,h1,_,h2,_,h3⟩:=q;exact⟨_,_,_,K0,_,_,_,K1,rfl,by simp,h1,h2,h3⟩))
theorem fLeft:SFn Tryz.prog 160 (nLeft 161):=nLeft_ok (Eb:=23) (Ew:=239) (en Tryz.func160 rfl) (λd H a1 n1 c1 a2 n2 c2 i1 i2 r hr=>(dev_left_ok d H i1 i2 r hr).mono (λu K' H' q=>by
  obtain⟨_,_,_,K0,_,_,_,K1,rfl,rfl,h1,_,h2,_,h3⟩:=q;exact⟨_,_,_,K0,_,_,_,K1,rfl,by simp,h1,h2,h3⟩))
theorem fNew:SFn Tryz.prog 101 nNew:=nNew_ok (Eb:=23) (Ew:=239) (en Tryz.func101 rfl) (λH r hr=>(dev_New_ok H r hr).mono (λu K' H' q=>by
  obtain⟨_,_,_,K0,rfl,rfl,h1,_,h2⟩:=q;exact⟨_,_,_,K0,_,_,_,[],rfl,by simp,h1,by rw[h2];exact RowOf.nil _ _ _ _ _,λ_=>rfl⟩))
theorem fWrite:SFn Tryz.prog 163 nWrite:=nWrite_ok (Ew:=239) (en Tryz.func163 rfl) (λd q b H a1 n1 c1 a2 n2 c2 a3 n3 c3 i1 i2 i3 r hr=>(dev_Write_ok d q b H i1 i2 i3 r hr).mono (λu K' H' q=>by
  obtain⟨_,_,_,_,_,_,K1,rfl,rfl,h1,h2,_⟩:=q;exact⟨_,_,K1,rfl,rfl,h1,h2⟩))
theorem fPut:SFn Tryz.prog 57 (nPut 5):=nPut_ok (E:=5) (en Tryz.func57 rfl) (λn k H r hr=>(code_Put_ok n k H r hr).mono (λu K' H' q=>by
  obtain⟨_,_,_,K0,rfl,rfl,rfl,h1,_⟩:=q;exact⟨_,K0,rfl,rfl,h1⟩))
theorem fGet:SFn Tryz.prog 17 nGet:=nGet_ok (en Tryz.func17 rfl) (λb n k H a l c hs r hr=>(code_Get_ok b n k H hs r hr).mono (λu K' H' q=>q.1))
theorem fCat:SFn Tryz.prog 121 (nCat 5):=nCat_ok (E:=5) (en Tryz.func121 rfl) (λl H a n c hs r hr=>(slices_Concat_byte_ok l H hs r hr).mono (λu K' H' q=>by
  obtain⟨_,_,_,K0,rfl,rfl,rfl,h1,_⟩:=q;exact⟨K0,rfl,h1⟩))
theorem fSpN:SFn Tryz.prog 102 (nSpN 5):=nSpN_ok (E:=5) (en Tryz.func102 rfl) (λH r hr=>(space_New_ok H r hr).mono (λu K' H' q=>by
  obtain⟨_,_,_,K0,rfl,rfl,rfl,h1,_⟩:=q;exact⟨K0,rfl,h1⟩))
theorem fSpC:SFn Tryz.prog 111 nSpC:=nSpC_ok (en Tryz.func111 rfl) (λb H a n c hs r hr=>(space_Check_ok b H hs r hr).mono (λu K' H' q=>q.1))
theorem post_i{q:Bool}{H H':Heaplet}{r:Int}{u:Value}{K:List Own}(h:PostC q H (λr=> [.i r]) r u K H'):u=.int .i64 r:=by
  obtain⟨vs,rfl,h1,h2,_⟩:=h
  cases vs with
  |nil=>exact h2.elim
  | cons v vs=>
    cases vs with
    |nil=>cases h1;rfl
    |cons=>cases h1
theorem fCnt:SFn Tryz.prog 169 nCnt:=nCnt_ok (en Tryz.func169 rfl) (λb b2 H a n c a2 n2 c2 i1 i2 r hr=>(bytes_Count_ok b b2 H i1 i2 r hr).mono (λu K' H' q=>q.1))
theorem fIdx:SFn Tryz.prog 229 nIdx:=nIdx_ok (en Tryz.func229 rfl) (λb x H a n c i1=>(bytes_IndexByte_ok.does (vs:=[_,_]) rfl ⟨i1,trivial⟩ rfl).mono (λu K' H' q=>post_i q))
end Go.Proofs.YtnahhdmkiffgnaaGreatDoor
