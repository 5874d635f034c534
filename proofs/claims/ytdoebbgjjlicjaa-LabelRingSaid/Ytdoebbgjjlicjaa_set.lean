import Derived.Test.YtdoebbgjjlicjaaRows
import Derived.Test.YtdoebbgjjlicjaaW2
import Derived.Test.YtdoebbgjjlicjaaOwMb
import Derived.Test.YtdoebbgjjlicjaaOwMe
/-
  What is proved here: from the plain law to the given statement: it is true of every input, and leaves it as it was. No condition.
-/
namespace Go.Proofs.Ytdoebbgjjlicjaa
open Go.ChangeShapes Go.WideShapes Go.ChangeAt Go.RowKit Go.Ow
set_option linter.unusedVariables false
set_option linter.unusedSimpArgs false

theorem knob : ownKnob Try.prog.godebug = none := by kernel_rfl
theorem laid : laidOutB Try.prog = true := by kernel_rfl
/-- this seat's bulk -/
def bulk (H : Type) : Bulk H where
  one := Rows.uptoBulk
  all := Rows.uptoBulkAll
  hstr l := by simp [Rows.uptoBulk]
  hsl a b := by simp [Rows.uptoBulk]
  hagg a := by simp [Rows.uptoBulk]
  hnil := by simp [Rows.uptoBulkAll]
  hcons d r := by simp [Rows.uptoBulkAll]
  hone d := by
    cases d with
    | lit l => cases l <;> simp [Rows.uptoBulk]
    | nil => simp [Rows.uptoBulk]
    | ptr d => simp [Rows.uptoBulk]
    | slice elems spare => simp [Rows.uptoBulk]
    | agg parts => simp [Rows.uptoBulk]
    | iface t d => simp [Rows.uptoBulk]
    | map entries => simp [Rows.uptoBulk]
    | held h => simp [Rows.uptoBulk]
section
variable {H : Type} {enc : TypeId × Value → H} {W : World}
theorem cells3 : Try.prog.cellsOf 3 = 1 := by kernel_rfl
theorem cells5 : Try.prog.cellsOf 5 = 1 := by kernel_rfl
theorem cells22 : Try.prog.cellsOf 22 = 1 := by kernel_rfl
theorem cells23 : Try.prog.cellsOf 23 = 1 := by kernel_rfl
theorem cells25 : Try.prog.cellsOf 25 = 2 := by kernel_rfl
theorem cells26 : Try.prog.cellsOf 26 = 1 := by kernel_rfl
theorem cells28 : Try.prog.cellsOf 28 = 5 := by kernel_rfl
theorem cells30 : Try.prog.cellsOf 30 = 7 := by kernel_rfl
theorem cells45 : Try.prog.cellsOf 45 = 1 := by kernel_rfl
theorem cells47 : Try.prog.cellsOf 47 = 2 := by kernel_rfl
theorem bytes5 : 1 ≤ Try.prog.bytesOf 5 := Nat.le_of_ble_eq_true (by kernel_rfl)
theorem bytes45 : 1 ≤ Try.prog.bytesOf 45 := Nat.le_of_ble_eq_true (by kernel_rfl)
theorem bytes47 : 1 ≤ Try.prog.bytesOf 47 := Nat.le_of_ble_eq_true (by kernel_rfl)
theorem readsT28 : Reads enc Try.prog W (bulk H) 28 R_Ptr 5 big_Ptr ok_Ptr :=
  reads_Ptr Try.underlying28 cells28 rfl
    ⟨rfl, rfl, cells3⟩ (reads_int Try.underlying3)
    ⟨rfl, rfl, cells26⟩ (reads_u32 Try.underlying26)
    ⟨rfl, rfl, cells26⟩ (reads_u32 Try.underlying26)
    ⟨rfl, rfl, cells26⟩ (reads_u32 Try.underlying26)
    ⟨rfl, rfl, cells26⟩ (reads_u32 Try.underlying26)
theorem readsT30 : Reads enc Try.prog W (bulk H) 30 R_Label 7 big_Label ok_Label :=
  reads_Label Try.underlying30 cells30 rfl
    ⟨rfl, rfl, cells26⟩ (reads_u32 Try.underlying26)
    ⟨rfl, rfl, cells26⟩ (reads_u32 Try.underlying26)
    ⟨rfl, rfl, cells28⟩ readsT28
theorem readsF47 : ReadsF enc Try.prog W 47 R_Write 2 fit_Write :=
  readsF_Write Try.underlying47 cells47 rfl rfl
    ⟨rfl, rfl, cells3⟩ (Reads.f (B := bulk H) (reads_int Try.underlying3))
    ⟨rfl, rfl, cells45⟩ (readsF_sl Try.underlying45 cells5 (by decide) bytes5 (Reads.f (B := bulk H) (reads_u8 Try.underlying5)))
theorem readsF25 : ReadsF enc Try.prog W 25 R_Disk 2 fit_Disk :=
  readsF_Disk Try.underlying25 cells25 rfl rfl
    ⟨rfl, rfl, cells22⟩ (readsF_sl Try.underlying22 cells45 (by decide) bytes45 (readsF_sl Try.underlying45 cells5 (by decide) bytes5 (Reads.f (B := bulk H) (reads_u8 Try.underlying5))))
    ⟨rfl, rfl, cells23⟩ (readsF_sl Try.underlying23 cells47 (by decide) bytes47 readsF47)
end
namespace labelRing
set_option maxRecDepth 100000 in
theorem lifted (plain : ∀ (x0 : Disk) (x1 : Label) (z0 : Sized x0) (y0 : FitD x0), law11_LabelRing x0 x1 = some true) (os : Os) (started : os.Started) (H : Type) (enc : TypeId × Value → H) :
    ReturnsInHanded {} Try.checked os 3 .any (Rows.labelRingSpec.pre6 enc Try.prog Try.f3 Rows.labelRingRow.domain false) (Rows.labelRingSpec.post enc Try.prog Try.f3 false true false false) := by
  refine returnsInHanded_of_change_shaped (C := Try.checked) knob started (by kernel_rfl) Try.func3
    (ChangeSpec.witness6 (enc := enc) (C := Try.checked) false ⟨#[], #[.agg #[.slice none 0 0, .slice none 0 0], .agg #[.int .u32 0, .int .u32 0, .int .i64 0, .int .u32 0, .int .u32 0, .int .u32 0, .int .u32 0]], []⟩ 8 (by kernel_rfl) (by kernel_rfl) (by kernel_rfl) (by kernel_rfl)) ?_
  intro W base args ds gs before hval0 hW hcnd hwt _ _
  have hval : ∀ (j : Nat) t v, Try.f3.params[j]? = some t → args[j]? = some v → Value.okWide Try.prog W .any base t v := hval0
  have hW' := hW
  obtain ⟨p, q, hA0, hV, rfl, hfz, hnd⟩ := hW
  have hA : DataW.TrodAll enc Try.prog W 0 (fun _ => true) true Try.f3.params.toList args.toList ds p := hA0
  rw [Try.params3] at hA hval
  obtain ⟨v0, vs0, d0, ds0, p0, q0, hargs, rfl, rfl, h0, r0⟩ := trodAll_cons hA
  obtain ⟨v1, vs1, d1, ds1, p1, q1, rfl, rfl, rfl, h1, r1⟩ := trodAll_cons r0
  obtain ⟨rfl, rfl, rfl⟩ := trodAll_nil r1
  obtain rfl : args = #[v0, v1] := by cases args; simp_all
  obtain ⟨rfl, rfl⟩ := trodVars_none hV
  have hw : FitsEach Try.prog [25, 30] [d0, d1] := by rw [Try.params3] at hwt; exact hwt
  obtain ⟨F0, hw⟩ := fits_cons hw
  obtain ⟨F1, hw⟩ := fits_cons hw
  obtain ⟨cs0, rfl, x0, s0, k0⟩ := argF_struct Try.underlying25 readsF25 (hval 0 25 v0 rfl rfl) h0 F0
  obtain ⟨w0_0, w0_1, e0, g0_0, g0_1⟩ := s0
  obtain ⟨ao0_0, c0_0, rfl⟩ := IsSlice.val g0_0
  obtain ⟨ao0_1, c0_1, rfl⟩ := IsSlice.val g0_1
  have e0 : cs0.toList = [.slice ao0_0 (x0.Blocks).length c0_0, .slice ao0_1 (x0.Waits).length c0_1] := e0
  obtain rfl : cs0 = #[.slice ao0_0 (x0.Blocks).length c0_0, .slice ao0_1 (x0.Waits).length c0_1] := Array.toList_inj.1 e0
  obtain ⟨cs1, rfl, x1, s1, -, k1⟩ := arg_struct (B := bulk H) Try.underlying30 readsT30 (hval 1 30 v1 rfl rfl) h1
  have e1 : cs1.toList = [.int .u32 (x1.Gen.toNat : Int), .int .u32 (x1.Epoch.toNat : Int), .int .i64 x1.Root.At, .int .u32 (x1.Root.Birth.toNat : Int), .int .u32 (x1.Root.Iv.toNat : Int), .int .u32 (x1.Root.Tag.toNat : Int), .int .u32 (x1.Root.Sum.toNat : Int)] := s1
  obtain rfl : cs1 = #[.int .u32 (x1.Gen.toNat : Int), .int .u32 (x1.Epoch.toNat : Int), .int .i64 x1.Root.At, .int .u32 (x1.Root.Birth.toNat : Int), .int .u32 (x1.Root.Iv.toNat : Int), .int .u32 (x1.Root.Tag.toNat : Int), .int .u32 (x1.Root.Sum.toNat : Int)] := Array.toList_inj.1 e1
  exact lift_true (tb := 4) laid (by kernel_rfl) (by kernel_rfl) Try.underlying4 rfl hW' rfl (law11_LabelRing_ok x0 x1 (HW W) g0_0 g0_1 true (plain x0 x1 ⟨g0_0.len_le, g0_1.len_le, fun w hw => (k0.2.2 w hw).1⟩ ⟨k0.1.1, k0.2.1, fun b hb => (k0.1.2 b hb).1, fun w hw => (k0.2.2 w hw).2.1⟩)) (fun u K H' h => h.1)

theorem over (plain : ∀ (x0 : Disk) (x1 : Label) (z0 : Sized x0) (y0 : FitD x0), law11_LabelRing x0 x1 = some true) : Rows.labelRingRow.holds Try.pinned (OpenSpec.ofChange Rows.labelRingSpec) :=
  OpenClaim.holds_of_wide 3 Try.f3 rfl rfl rfl rfl rfl rfl rfl ⟨rfl, rfl, rfl, rfl, rfl⟩ rfl rfl rfl rfl rfl (by kernel_rfl) Try.func3 (by kernel_rfl)
    (of_decide_eq_true (by kernel_rfl)) (by unfold Func.isWrapper; first | (rw [if_pos (by decide +kernel)]; kernel_rfl) | (rw [if_neg (by decide +kernel)]; exact ⟨rfl, rfl⟩))
    (fun os started H enc _ => lifted plain os started H enc)
end labelRing
theorem labelRing_holds : Rows.LabelRingSaid := labelRing.over Lb.law_LabelRing
end Go.Proofs.Ytdoebbgjjlicjaa
