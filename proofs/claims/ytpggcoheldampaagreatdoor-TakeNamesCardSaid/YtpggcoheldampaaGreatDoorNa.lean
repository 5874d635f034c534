import Derived.Test.YtpggcoheldampaaGreatDoorEvI2
import Derived.Test.YtpggcoheldampaaGreatDoorW2
/-
  What is proved here: the functions of this program that are computed at once, with their contracts; every function is entered.
-/
namespace Go.Proofs.YtpggcoheldampaaGreatDoor
open Go Go.Ow Go.RowKit Go.Proofs Go.Ev
set_option maxHeartbeats 8000000
set_option linter.unusedVariables false
set_option linter.unusedSimpArgs false
theorem bytes_IndexByte_ok {h : List UInt8} {c : UInt8} : Con Tryz.prog 322 true ([.sl false RU8 1 h,.w8 c]) (some (Lib.indexByte h c)) (fun r => [.i r]) := by
  intro H a n cap k r hx
  refine Does.enterC Tryz.func322 rfl rfl ?_
  intro w
  refine Run.cl [] 9 tbo rfl (JL.val rfl rfl (R.indexB (m := h) (c := c) Tryz.func349 (by kernel_rfl) rfl (by kernel_rfl) (by kernel_rfl) rfl k rfl) ?_)
  refine Run.lnz_s [] 4 tbo rfl ?_
  exact JN.conQ [] rfl hx rfl rfl
theorem enP : EnP Tryz.prog := by
  have key : (Tryz.prog.funcs.toList.all fun fn => fn.body.isNone || !(fn.name == "runtime.NumGoroutine")) = true := by decide +kernel
  intro f fn c hf hc
  have hm : fn ∈ Tryz.prog.funcs.toList := by
    have := Array.mem_of_getElem? hf
    exact Array.mem_toList_iff.2 this
  have h := List.all_eq_true.1 key fn hm
  rw [hc] at h
  exact enters_of hf (by rw [hc]; rfl) (by simpa using h)
theorem en {f : FuncId} {fn : Func} (hf : Tryz.prog.funcs[f]? = some fn) (hb : fn.body.isNone = false) : Enters Tryz.prog f := by
  cases hc : fn.body with
  | none => rw [hc] at hb; cases hb
  | some c => exact enP f fn c hf hc
theorem fSum : SFn Tryz.prog 147 nSum := nSum_ok (en Tryz.func147 rfl) (fun b H a n c hs r hr => (mix_Sum_ok b H hs r hr).mono (fun u K' H' q => q.1))
theorem fKey : SFn Tryz.prog 211 (nKey 5) := nKey_ok (E := 5) (en Tryz.func211 rfl) (fun b H a n c hs r hr => (mix_Key_ok b H hs r hr).mono (fun u K' H' q => by
  obtain ⟨_, _, _, K0, rfl, rfl, h1, _⟩ := q; exact ⟨K0, rfl, h1⟩))
theorem fCheck : SFn Tryz.prog 137 nCheck := nCheck_ok (en Tryz.func137 rfl) (fun d H a1 n1 c1 a2 n2 c2 i1 i2 r hr => (dev_Check_ok d H i1 i2 r hr).mono (fun u K' H' q => q.1))
theorem fTwin : SFn Tryz.prog 76 nTwin := nTwin_ok (Eb := 27) (Ew := 195) (en Tryz.func76 rfl) (fun d H a1 n1 c1 a2 n2 c2 i1 i2 r hr => (dev_Twin_ok d H i1 i2 r hr).mono (fun u K' H' q => by
  obtain ⟨_, _, _, K0, _, _, _, K1, rfl, rfl, h1, _, h2, _, h3⟩ := q; exact ⟨_, _, _, K0, _, _, _, K1, rfl, by simp, h1, h2, h3⟩))
theorem fLeft : SFn Tryz.prog 223 (nLeft 224) := nLeft_ok (Eb := 27) (Ew := 195) (en Tryz.func223 rfl) (fun d H a1 n1 c1 a2 n2 c2 i1 i2 r hr => (dev_left_ok d H i1 i2 r hr).mono (fun u K' H' q => by
  obtain ⟨_, _, _, K0, _, _, _, K1, rfl, rfl, h1, _, h2, _, h3⟩ := q; exact ⟨_, _, _, K0, _, _, _, K1, rfl, by simp, h1, h2, h3⟩))
theorem fNew : SFn Tryz.prog 200 nNew := nNew_ok (Eb := 27) (Ew := 195) (en Tryz.func200 rfl) (fun H r hr => (dev_New_ok H r hr).mono (fun u K' H' q => by
  obtain ⟨_, _, _, K0, rfl, rfl, h1, _, h2⟩ := q; exact ⟨_, _, _, K0, _, _, _, [], rfl, by simp, h1, by rw [h2]; exact RowOf.nil _ _ _ _ _, fun _ => rfl⟩))
theorem fWrite : SFn Tryz.prog 274 nWrite := nWrite_ok (Ew := 195) (en Tryz.func274 rfl) (fun d q b H a1 n1 c1 a2 n2 c2 a3 n3 c3 i1 i2 i3 r hr => (dev_Write_ok d q b H i1 i2 i3 r hr).mono (fun u K' H' q => by
  obtain ⟨_, _, _, _, _, _, K1, rfl, rfl, h1, h2, _⟩ := q; exact ⟨_, _, K1, rfl, rfl, h1, h2⟩))
theorem fPut : SFn Tryz.prog 202 (nPut 5) := nPut_ok (E := 5) (en Tryz.func202 rfl) (fun n k H r hr => (code_Put_ok n k H r hr).mono (fun u K' H' q => by
  obtain ⟨_, _, _, K0, rfl, rfl, rfl, h1, _⟩ := q; exact ⟨_, K0, rfl, rfl, h1⟩))
theorem fGet : SFn Tryz.prog 103 nGet := nGet_ok (en Tryz.func103 rfl) (fun b n k H a l c hs r hr => (code_Get_ok b n k H hs r hr).mono (fun u K' H' q => q.1))
theorem fCat : SFn Tryz.prog 212 (nCat 5) := nCat_ok (E := 5) (en Tryz.func212 rfl) (fun l H a n c hs r hr => (slices_Concat_byte_ok l H hs r hr).mono (fun u K' H' q => by
  obtain ⟨_, _, _, K0, rfl, rfl, rfl, h1, _⟩ := q; exact ⟨K0, rfl, h1⟩))
theorem fSpN : SFn Tryz.prog 201 (nSpN 5) := nSpN_ok (E := 5) (en Tryz.func201 rfl) (fun H r hr => (space_New_ok H r hr).mono (fun u K' H' q => by
  obtain ⟨_, _, _, K0, rfl, rfl, rfl, h1, _⟩ := q; exact ⟨K0, rfl, h1⟩))
theorem fSpC : SFn Tryz.prog 138 nSpC := nSpC_ok (en Tryz.func138 rfl) (fun b H a n c hs r hr => (space_Check_ok b H hs r hr).mono (fun u K' H' q => q.1))
theorem post_i {q : Bool} {H H' : Heaplet} {r : Int} {u : Value} {K : List Own} (h : PostC q H (fun r => [.i r]) r u K H') : u = .int .i64 r := by
  obtain ⟨vs, rfl, h1, h2, _⟩ := h
  cases vs with
  | nil => exact h2.elim
  | cons v vs =>
    cases vs with
    | nil => cases h1; rfl
    | cons => cases h1
theorem fCnt : SFn Tryz.prog 215 nCnt := nCnt_ok (en Tryz.func215 rfl) (fun b b2 H a n c a2 n2 c2 i1 i2 r hr => (bytes_Count_ok.does (vs := [_, _]) rfl ⟨i1, i2, trivial⟩ hr).mono (fun u K' H' q => post_i q))
theorem fIdx : SFn Tryz.prog 322 nIdx := nIdx_ok (en Tryz.func322 rfl) (fun b x H a n c i1 => (bytes_IndexByte_ok.does (vs := [_, _]) rfl ⟨i1, trivial⟩ rfl).mono (fun u K' H' q => post_i q))
end Go.Proofs.YtpggcoheldampaaGreatDoor
