import Derived.Test.YtebhagohhbmgoaaRows
import Derived.Test.YtebhagohhbmgoaaW2
import Derived.Test.YtebhagohhbmgoaaOwMb
import Derived.Test.YtebhagohhbmgoaaOwMc
/-
  What is proved here: from the plain law to the given statement: it is true of every input, and leaves it as it was. No condition.
-/
namespace Go.Proofs.Ytebhagohhbmgoaa
open Go.ChangeShapes Go.WideShapes Go.ChangeAt Go.RowKit Go.Ow
set_option linter.unusedVariables false
set_option linter.unusedSimpArgs false

theorem knob : ownKnob Try.prog.godebug = none := by kernel_rfl
theorem laid : laidOutB Try.prog = true := by kernel_rfl
/-- this seat's bulk -/
def bulk (H : Type) : Bulk H where
  one := Rows.uptoBulk
  all := Rows.uptoBulkAll
  hstr l := by simp [Rows.uptoBulk]
  hsl a b := by simp [Rows.uptoBulk]
  hagg a := by simp [Rows.uptoBulk]
  hnil := by simp [Rows.uptoBulkAll]
  hcons d r := by simp [Rows.uptoBulkAll]
  hone d := by
    cases d with
    | lit l => cases l <;> simp [Rows.uptoBulk]
    | nil => simp [Rows.uptoBulk]
    | ptr d => simp [Rows.uptoBulk]
    | slice elems spare => simp [Rows.uptoBulk]
    | agg parts => simp [Rows.uptoBulk]
    | iface t d => simp [Rows.uptoBulk]
    | map entries => simp [Rows.uptoBulk]
    | held h => simp [Rows.uptoBulk]
section
variable {H : Type} {enc : TypeId × Value → H} {W : World}
theorem cells3 : Try.prog.cellsOf 3 = 1 := by kernel_rfl
theorem cells5 : Try.prog.cellsOf 5 = 1 := by kernel_rfl
theorem cells22 : Try.prog.cellsOf 22 = 1 := by kernel_rfl
theorem cells23 : Try.prog.cellsOf 23 = 1 := by kernel_rfl
theorem cells24 : Try.prog.cellsOf 24 = 1 := by kernel_rfl
theorem cells26 : Try.prog.cellsOf 26 = 5 := by kernel_rfl
theorem cells39 : Try.prog.cellsOf 39 = 5 := by kernel_rfl
theorem readsT39 : Reads enc Try.prog W (bulk H) 39 R_Part 5 big_Part ok_Part :=
  reads_Part Try.underlying39 cells39 rfl
    ⟨rfl, rfl, cells3⟩ (reads_int Try.underlying3)
    ⟨rfl, rfl, cells3⟩ (reads_int Try.underlying3)
    ⟨rfl, rfl, cells22⟩ (reads_u32 Try.underlying22)
    ⟨rfl, rfl, cells22⟩ (reads_u32 Try.underlying22)
    ⟨rfl, rfl, cells23⟩ (reads_sl Try.underlying23 cells5 (by decide) (reads_u8 Try.underlying5))
theorem readsT26 : Reads enc Try.prog W (bulk H) 26 R_Stream 5 big_Stream ok_Stream :=
  reads_Stream Try.underlying26 cells26 rfl
    ⟨rfl, rfl, cells22⟩ (reads_u32 Try.underlying22)
    ⟨rfl, rfl, cells22⟩ (reads_u32 Try.underlying22)
    ⟨rfl, rfl, cells23⟩ (reads_sl Try.underlying23 cells5 (by decide) (reads_u8 Try.underlying5))
    ⟨rfl, rfl, cells24⟩ (reads_sl Try.underlying24 cells39 (by decide) readsT39)
    ⟨rfl, rfl, cells23⟩ (reads_sl Try.underlying23 cells5 (by decide) (reads_u8 Try.underlying5))
end
namespace sendBytes
set_option maxRecDepth 100000 in
theorem lifted (plain : ∀ (x0 : Stream) (x1 : List UInt8), law29_SendBytes x0 x1 = some true) (os : Os) (started : os.Started) (H : Type) (enc : TypeId × Value → H) :
    ReturnsInHanded {} Try.checked os 3 .any (Rows.sendBytesSpec.pre6 enc Try.prog Try.f3 Rows.sendBytesRow.domain false) (Rows.sendBytesSpec.post enc Try.prog Try.f3 false true false false) := by
  refine returnsInHanded_of_change (C := Try.checked) knob started (by kernel_rfl) Try.func3
    (ChangeSpec.witness6 (enc := enc) (C := Try.checked) false ⟨#[], #[.agg #[.int .u32 0, .int .u32 0, .slice none 0 0, .slice none 0 0, .slice none 0 0], .slice none 0 0], []⟩ 8 (by kernel_rfl) (by kernel_rfl) (by kernel_rfl) (by kernel_rfl)) ?_
  intro W base args ds gs before hval0 hW hcnd _
  have hval : ∀ (j : Nat) t v, Try.f3.params[j]? = some t → args[j]? = some v → Value.okWide Try.prog W .any base t v := hval0
  have hW' := hW
  obtain ⟨p, q, hA0, hV, rfl, hfz, hnd⟩ := hW
  have hA : DataW.TrodAll enc Try.prog W 0 (fun _ => true) true Try.f3.params.toList args.toList ds p := hA0
  rw [Try.params3] at hA hval
  obtain ⟨v0, vs0, d0, ds0, p0, q0, hargs, rfl, rfl, h0, r0⟩ := trodAll_cons hA
  obtain ⟨v1, vs1, d1, ds1, p1, q1, rfl, rfl, rfl, h1, r1⟩ := trodAll_cons r0
  obtain ⟨rfl, rfl, rfl⟩ := trodAll_nil r1
  obtain rfl : args = #[v0, v1] := by cases args; simp_all
  obtain ⟨rfl, rfl⟩ := trodVars_none hV
  obtain ⟨cs0, rfl, x0, s0, -, k0⟩ := arg_struct (B := bulk H) Try.underlying26 readsT26 (hval 0 26 v0 rfl rfl) h0
  obtain ⟨w0_2, w0_3, w0_4, e0, g0_2, g0_3, g0_4⟩ := s0
  obtain ⟨ao0_2, c0_2, rfl⟩ := IsSlice.val g0_2
  obtain ⟨ao0_3, c0_3, rfl⟩ := IsSlice.val g0_3
  obtain ⟨ao0_4, c0_4, rfl⟩ := IsSlice.val g0_4
  have e0 : cs0.toList = [.int .u32 (x0.Guid.toNat : Int), .int .u32 (x0.Base.toNat : Int), .slice ao0_2 (x0.Key).length c0_2, .slice ao0_3 (x0.Parts).length c0_3, .slice ao0_4 (x0.Sign).length c0_4] := e0
  obtain rfl : cs0 = #[.int .u32 (x0.Guid.toNat : Int), .int .u32 (x0.Base.toNat : Int), .slice ao0_2 (x0.Key).length c0_2, .slice ao0_3 (x0.Parts).length c0_3, .slice ao0_4 (x0.Sign).length c0_4] := Array.toList_inj.1 e0
  obtain ⟨ao1, n1, c1, rfl, x1, s1, -, k1⟩ := arg_slice (B := bulk H) Try.underlying23 cells5 (by decide) (reads_u8 Try.underlying5) (hval 1 23 v1 rfl rfl) h1
  exact lift_true (tb := 4) laid (by kernel_rfl) (by kernel_rfl) Try.underlying4 rfl hW' rfl (law29_SendBytes_ok x0 x1 (HW W) g0_2 g0_3 g0_4 s1 true (plain x0 x1)) (fun u K H' h => h.1)

theorem over (plain : ∀ (x0 : Stream) (x1 : List UInt8), law29_SendBytes x0 x1 = some true) : Rows.sendBytesRow.holds Try.pinned (OpenSpec.ofChange Rows.sendBytesSpec) :=
  OpenClaim.holds_of_wide 3 Try.f3 rfl rfl rfl rfl rfl rfl rfl ⟨rfl, rfl, rfl, rfl, rfl⟩ rfl rfl rfl rfl rfl (by kernel_rfl) Try.func3 (by kernel_rfl)
    (of_decide_eq_true (by kernel_rfl)) (by unfold Func.isWrapper; first | (rw [if_pos (by decide +kernel)]; kernel_rfl) | (rw [if_neg (by decide +kernel)]; exact ⟨rfl, rfl⟩))
    (fun os started H enc _ => lifted plain os started H enc)
end sendBytes
theorem sendBytes_holds : Rows.SendBytesSaid := sendBytes.over law_SendBytes
end Go.Proofs.Ytebhagohhbmgoaa
