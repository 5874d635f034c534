import Derived.Test.YtebhagohhbmgoaaRows
import Derived.Test.YtebhagohhbmgoaaW2
import Derived.Test.YtebhagohhbmgoaaOwMb
import Derived.Test.YtebhagohhbmgoaaOwMd
/-
  What is proved here: from the plain law to the given statement: it is true of every input, and leaves it as it was. No condition.
-/
namespace Go.Proofs.Ytebhagohhbmgoaa
open Go.ChangeShapes Go.WideShapes Go.ChangeAt Go.RowKit Go.Ow
set_option linter.unusedVariables false
set_option linter.unusedSimpArgs false

theorem knob : ownKnob Try.prog.godebug = none := by kernel_rfl
theorem laid : laidOutB Try.prog = true := by kernel_rfl
/-- this seat's bulk -/
def bulk (H : Type) : Bulk H where
  one := Rows.uptoBulk
  all := Rows.uptoBulkAll
  hstr l := by simp [Rows.uptoBulk]
  hsl a b := by simp [Rows.uptoBulk]
  hagg a := by simp [Rows.uptoBulk]
  hnil := by simp [Rows.uptoBulkAll]
  hcons d r := by simp [Rows.uptoBulkAll]
  hone d := by
    cases d with
    | lit l => cases l <;> simp [Rows.uptoBulk]
    | nil => simp [Rows.uptoBulk]
    | ptr d => simp [Rows.uptoBulk]
    | slice elems spare => simp [Rows.uptoBulk]
    | agg parts => simp [Rows.uptoBulk]
    | iface t d => simp [Rows.uptoBulk]
    | map entries => simp [Rows.uptoBulk]
    | held h => simp [Rows.uptoBulk]
section
variable {H : Type} {enc : TypeId × Value → H} {W : World}
theorem cells3 : Try.prog.cellsOf 3 = 1 := by kernel_rfl
theorem cells5 : Try.prog.cellsOf 5 = 1 := by kernel_rfl
theorem cells22 : Try.prog.cellsOf 22 = 1 := by kernel_rfl
theorem cells23 : Try.prog.cellsOf 23 = 1 := by kernel_rfl
theorem cells41 : Try.prog.cellsOf 41 = 1 := by kernel_rfl
theorem cells42 : Try.prog.cellsOf 42 = 1 := by kernel_rfl
theorem cells44 : Try.prog.cellsOf 44 = 2 := by kernel_rfl
theorem cells46 : Try.prog.cellsOf 46 = 5 := by kernel_rfl
theorem cells80 : Try.prog.cellsOf 80 = 2 := by kernel_rfl
theorem bytes5 : 1 ≤ Try.prog.bytesOf 5 := Nat.le_of_ble_eq_true (by kernel_rfl)
theorem bytes23 : 1 ≤ Try.prog.bytesOf 23 := Nat.le_of_ble_eq_true (by kernel_rfl)
theorem bytes80 : 1 ≤ Try.prog.bytesOf 80 := Nat.le_of_ble_eq_true (by kernel_rfl)
theorem readsF80 : ReadsF enc Try.prog W 80 R_Write 2 fit_Write :=
  readsF_Write Try.underlying80 cells80 rfl rfl
    ⟨rfl, rfl, cells3⟩ (Reads.f (B := bulk H) (reads_int Try.underlying3))
    ⟨rfl, rfl, cells23⟩ (readsF_sl Try.underlying23 cells5 (by decide) bytes5 (Reads.f (B := bulk H) (reads_u8 Try.underlying5)))
theorem readsF44 : ReadsF enc Try.prog W 44 R_Disk 2 fit_Disk :=
  readsF_Disk Try.underlying44 cells44 rfl rfl
    ⟨rfl, rfl, cells41⟩ (readsF_sl Try.underlying41 cells23 (by decide) bytes23 (readsF_sl Try.underlying23 cells5 (by decide) bytes5 (Reads.f (B := bulk H) (reads_u8 Try.underlying5))))
    ⟨rfl, rfl, cells42⟩ (readsF_sl Try.underlying42 cells80 (by decide) bytes80 readsF80)
theorem readsF46 : ReadsF enc Try.prog W 46 R_Store 5 fit_Store :=
  readsF_Store Try.underlying46 cells46 rfl rfl
    ⟨rfl, rfl, cells44⟩ readsF44
    ⟨rfl, rfl, cells23⟩ (readsF_sl Try.underlying23 cells5 (by decide) bytes5 (Reads.f (B := bulk H) (reads_u8 Try.underlying5)))
    ⟨rfl, rfl, cells22⟩ (Reads.f (B := bulk H) (reads_u32 Try.underlying22))
    ⟨rfl, rfl, cells22⟩ (Reads.f (B := bulk H) (reads_u32 Try.underlying22))
end
namespace storeWrites
set_option maxRecDepth 100000 in
theorem lifted (plain : ∀ (x0 : Store) (x1 : UInt32) (x2 : List UInt8) (x3 : List UInt8) (x4 : UInt32) (x5 : UInt32) (z0 : Sized x0.Disk) (y0 : FitD x0.Disk), law13_StoreWrites x0 x1 x2 x3 x4 x5 = some true) (os : Os) (started : os.Started) (H : Type) (enc : TypeId × Value → H) :
    ReturnsInHanded {} Try.checked os 4 .any (Rows.storeWritesSpec.pre6 enc Try.prog Try.f4 Rows.storeWritesRow.domain false) (Rows.storeWritesSpec.post enc Try.prog Try.f4 false true false false) := by
  refine returnsInHanded_of_change_shaped (C := Try.checked) knob started (by kernel_rfl) Try.func4
    (ChangeSpec.witness6 (enc := enc) (C := Try.checked) false ⟨#[], #[.agg #[.slice none 0 0, .slice none 0 0, .slice none 0 0, .int .u32 0, .int .u32 0], .int .u32 0, .slice none 0 0, .slice none 0 0, .int .u32 0, .int .u32 0], []⟩ 8 (by kernel_rfl) (by kernel_rfl) (by kernel_rfl) (by kernel_rfl)) ?_
  intro W base args ds gs before hval0 hW hcnd hwt _ _
  have hval : ∀ (j : Nat) t v, Try.f4.params[j]? = some t → args[j]? = some v → Value.okWide Try.prog W .any base t v := hval0
  have hW' := hW
  obtain ⟨p, q, hA0, hV, rfl, hfz, hnd⟩ := hW
  have hA : DataW.TrodAll enc Try.prog W 0 (fun _ => true) true Try.f4.params.toList args.toList ds p := hA0
  rw [Try.params4] at hA hval
  obtain ⟨v0, vs0, d0, ds0, p0, q0, hargs, rfl, rfl, h0, r0⟩ := trodAll_cons hA
  obtain ⟨v1, vs1, d1, ds1, p1, q1, rfl, rfl, rfl, h1, r1⟩ := trodAll_cons r0
  obtain ⟨v2, vs2, d2, ds2, p2, q2, rfl, rfl, rfl, h2, r2⟩ := trodAll_cons r1
  obtain ⟨v3, vs3, d3, ds3, p3, q3, rfl, rfl, rfl, h3, r3⟩ := trodAll_cons r2
  obtain ⟨v4, vs4, d4, ds4, p4, q4, rfl, rfl, rfl, h4, r4⟩ := trodAll_cons r3
  obtain ⟨v5, vs5, d5, ds5, p5, q5, rfl, rfl, rfl, h5, r5⟩ := trodAll_cons r4
  obtain ⟨rfl, rfl, rfl⟩ := trodAll_nil r5
  obtain rfl : args = #[v0, v1, v2, v3, v4, v5] := by cases args; simp_all
  obtain ⟨rfl, rfl⟩ := trodVars_none hV
  have hw : FitsEach Try.prog [46, 22, 23, 23, 22, 22] [d0, d1, d2, d3, d4, d5] := by rw [Try.params4] at hwt; exact hwt
  obtain ⟨F0, hw⟩ := fits_cons hw
  obtain ⟨F1, hw⟩ := fits_cons hw
  obtain ⟨F2, hw⟩ := fits_cons hw
  obtain ⟨F3, hw⟩ := fits_cons hw
  obtain ⟨F4, hw⟩ := fits_cons hw
  obtain ⟨F5, hw⟩ := fits_cons hw
  obtain ⟨cs0, rfl, x0, s0, k0⟩ := argF_struct Try.underlying46 readsF46 (hval 0 46 v0 rfl rfl) h0 F0
  obtain ⟨w0_0, w0_1, w0_2, e0, g0_0, g0_1, g0_2⟩ := s0
  obtain ⟨ao0_0, c0_0, rfl⟩ := IsSlice.val g0_0
  obtain ⟨ao0_1, c0_1, rfl⟩ := IsSlice.val g0_1
  obtain ⟨ao0_2, c0_2, rfl⟩ := IsSlice.val g0_2
  have e0 : cs0.toList = [.slice ao0_0 (x0.Disk.Blocks).length c0_0, .slice ao0_1 (x0.Disk.Waits).length c0_1, .slice ao0_2 (x0.Space).length c0_2, .int .u32 (x0.Epoch.toNat : Int), .int .u32 (x0.Count.toNat : Int)] := e0
  obtain rfl : cs0 = #[.slice ao0_0 (x0.Disk.Blocks).length c0_0, .slice ao0_1 (x0.Disk.Waits).length c0_1, .slice ao0_2 (x0.Space).length c0_2, .int .u32 (x0.Epoch.toNat : Int), .int .u32 (x0.Count.toNat : Int)] := Array.toList_inj.1 e0
  obtain ⟨x1, rfl⟩ := arg_u32 (bulk H) Try.underlying22 (hval 1 22 v1 rfl rfl) h1
  obtain ⟨ao2, n2, c2, rfl, x2, s2, -, k2⟩ := arg_slice (B := bulk H) Try.underlying23 cells5 (by decide) (reads_u8 Try.underlying5) (hval 2 23 v2 rfl rfl) h2
  obtain ⟨ao3, n3, c3, rfl, x3, s3, -, k3⟩ := arg_slice (B := bulk H) Try.underlying23 cells5 (by decide) (reads_u8 Try.underlying5) (hval 3 23 v3 rfl rfl) h3
  obtain ⟨x4, rfl⟩ := arg_u32 (bulk H) Try.underlying22 (hval 4 22 v4 rfl rfl) h4
  obtain ⟨x5, rfl⟩ := arg_u32 (bulk H) Try.underlying22 (hval 5 22 v5 rfl rfl) h5
  exact lift_true (tb := 4) laid (by kernel_rfl) (by kernel_rfl) Try.underlying4 rfl hW' rfl (law13_StoreWrites_ok x0 x1 x2 x3 x4 x5 (HW W) g0_0 g0_1 g0_2 s2 s3 true (plain x0 x1 x2 x3 x4 x5 ⟨g0_0.len_le, g0_1.len_le, fun w hw => (k0.1.2.2 w hw).1⟩ ⟨k0.1.1.1, k0.1.2.1, fun b hb => (k0.1.1.2 b hb).1, fun w hw => (k0.1.2.2 w hw).2.1⟩)) (fun u K H' h => h.1)

theorem over (plain : ∀ (x0 : Store) (x1 : UInt32) (x2 : List UInt8) (x3 : List UInt8) (x4 : UInt32) (x5 : UInt32) (z0 : Sized x0.Disk) (y0 : FitD x0.Disk), law13_StoreWrites x0 x1 x2 x3 x4 x5 = some true) : Rows.storeWritesRow.holds Try.pinned (OpenSpec.ofChange Rows.storeWritesSpec) :=
  OpenClaim.holds_of_wide 4 Try.f4 rfl rfl rfl rfl rfl rfl rfl ⟨rfl, rfl, rfl, rfl, rfl⟩ rfl rfl rfl rfl rfl (by kernel_rfl) Try.func4 (by kernel_rfl)
    (of_decide_eq_true (by kernel_rfl)) (by unfold Func.isWrapper; first | (rw [if_pos (by decide +kernel)]; kernel_rfl) | (rw [if_neg (by decide +kernel)]; exact ⟨rfl, rfl⟩))
    (fun os started H enc _ => lifted plain os started H enc)
end storeWrites
theorem storeWrites_holds : Rows.StoreWritesSaid := storeWrites.over law_StoreWrites
end Go.Proofs.Ytebhagohhbmgoaa
