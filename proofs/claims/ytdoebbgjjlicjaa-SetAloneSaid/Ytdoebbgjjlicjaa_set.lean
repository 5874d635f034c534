import Derived.Test.YtdoebbgjjlicjaaRows
import Derived.Test.YtdoebbgjjlicjaaW2
import Derived.Test.YtdoebbgjjlicjaaOwMb
import Derived.Test.YtdoebbgjjlicjaaOwMd
/-
  What is proved here: from the plain law to the given statement: it is true of every input, and leaves it as it was. No condition.
-/
namespace Go.Proofs.Ytdoebbgjjlicjaa
open Go.ChangeShapes Go.WideShapes Go.ChangeAt Go.RowKit Go.Ow
set_option linter.unusedVariables false
set_option linter.unusedSimpArgs false

theorem knob : ownKnob Try.prog.godebug = none := by kernel_rfl
theorem laid : laidOutB Try.prog = true := by kernel_rfl
/-- this seat's bulk -/
def bulk (H : Type) : Bulk H where
  one := Rows.uptoBulk
  all := Rows.uptoBulkAll
  hstr l := by simp [Rows.uptoBulk]
  hsl a b := by simp [Rows.uptoBulk]
  hagg a := by simp [Rows.uptoBulk]
  hnil := by simp [Rows.uptoBulkAll]
  hcons d r := by simp [Rows.uptoBulkAll]
  hone d := by
    cases d with
    | lit l => cases l <;> simp [Rows.uptoBulk]
    | nil => simp [Rows.uptoBulk]
    | ptr d => simp [Rows.uptoBulk]
    | slice elems spare => simp [Rows.uptoBulk]
    | agg parts => simp [Rows.uptoBulk]
    | iface t d => simp [Rows.uptoBulk]
    | map entries => simp [Rows.uptoBulk]
    | held h => simp [Rows.uptoBulk]
section
variable {H : Type} {enc : TypeId × Value → H} {W : World}
theorem cells3 : Try.prog.cellsOf 3 = 1 := by kernel_rfl
theorem cells5 : Try.prog.cellsOf 5 = 1 := by kernel_rfl
theorem cells22 : Try.prog.cellsOf 22 = 1 := by kernel_rfl
theorem cells23 : Try.prog.cellsOf 23 = 1 := by kernel_rfl
theorem cells25 : Try.prog.cellsOf 25 = 2 := by kernel_rfl
theorem cells26 : Try.prog.cellsOf 26 = 1 := by kernel_rfl
theorem cells28 : Try.prog.cellsOf 28 = 5 := by kernel_rfl
theorem cells45 : Try.prog.cellsOf 45 = 1 := by kernel_rfl
theorem cells47 : Try.prog.cellsOf 47 = 2 := by kernel_rfl
theorem cells50 : Try.prog.cellsOf 50 = 5 := by kernel_rfl
theorem readsT47 : Reads enc Try.prog W (bulk H) 47 R_Write 2 big_Write ok_Write :=
  reads_Write Try.underlying47 cells47 rfl
    ⟨rfl, rfl, cells3⟩ (reads_int Try.underlying3)
    ⟨rfl, rfl, cells45⟩ (reads_sl Try.underlying45 cells5 (by decide) (reads_u8 Try.underlying5))
theorem readsT25 : Reads enc Try.prog W (bulk H) 25 R_Disk 2 big_Disk ok_Disk :=
  reads_Disk Try.underlying25 cells25 rfl
    ⟨rfl, rfl, cells22⟩ (reads_sl Try.underlying22 cells45 (by decide) (reads_sl Try.underlying45 cells5 (by decide) (reads_u8 Try.underlying5)))
    ⟨rfl, rfl, cells23⟩ (reads_sl Try.underlying23 cells47 (by decide) readsT47)
theorem readsT50 : Reads enc Try.prog W (bulk H) 50 R_Store 5 big_Store ok_Store :=
  reads_Store Try.underlying50 cells50 rfl
    ⟨rfl, rfl, cells25⟩ readsT25
    ⟨rfl, rfl, cells45⟩ (reads_sl Try.underlying45 cells5 (by decide) (reads_u8 Try.underlying5))
    ⟨rfl, rfl, cells26⟩ (reads_u32 Try.underlying26)
    ⟨rfl, rfl, cells26⟩ (reads_u32 Try.underlying26)
theorem readsT28 : Reads enc Try.prog W (bulk H) 28 R_Ptr 5 big_Ptr ok_Ptr :=
  reads_Ptr Try.underlying28 cells28 rfl
    ⟨rfl, rfl, cells3⟩ (reads_int Try.underlying3)
    ⟨rfl, rfl, cells26⟩ (reads_u32 Try.underlying26)
    ⟨rfl, rfl, cells26⟩ (reads_u32 Try.underlying26)
    ⟨rfl, rfl, cells26⟩ (reads_u32 Try.underlying26)
    ⟨rfl, rfl, cells26⟩ (reads_u32 Try.underlying26)
end
namespace setAlone
set_option maxRecDepth 100000 in
theorem lifted (plain : ∀ (x0 : Store) (x1 : Ptr) (x2 : Int) (x3 : UInt32) (x4 : List UInt8) (z0 : Sized x0.Disk) (z1 : InI64 x1.At) (z2 : InI64 x2), law15_SetAlone x0 x1 x2 x3 x4 = some true) (os : Os) (started : os.Started) (H : Type) (enc : TypeId × Value → H) :
    ReturnsInHanded {} Try.checked os 8 .any (Rows.setAloneSpec.pre6 enc Try.prog Try.f8 Rows.setAloneRow.domain false) (Rows.setAloneSpec.post enc Try.prog Try.f8 false true false false) := by
  refine returnsInHanded_of_change (C := Try.checked) knob started (by kernel_rfl) Try.func8
    (ChangeSpec.witness6 (enc := enc) (C := Try.checked) false ⟨#[], #[.agg #[.slice none 0 0, .slice none 0 0, .slice none 0 0, .int .u32 0, .int .u32 0], .agg #[.int .i64 0, .int .u32 0, .int .u32 0, .int .u32 0, .int .u32 0], .int .i64 0, .int .u32 0, .slice none 0 0], []⟩ 8 (by kernel_rfl) (by kernel_rfl) (by kernel_rfl) (by kernel_rfl)) ?_
  intro W base args ds gs before hval0 hW hcnd _
  have hval : ∀ (j : Nat) t v, Try.f8.params[j]? = some t → args[j]? = some v → Value.okWide Try.prog W .any base t v := hval0
  have hW' := hW
  obtain ⟨p, q, hA0, hV, rfl, hfz, hnd⟩ := hW
  have hA : DataW.TrodAll enc Try.prog W 0 (fun _ => true) true Try.f8.params.toList args.toList ds p := hA0
  rw [Try.params8] at hA hval
  obtain ⟨v0, vs0, d0, ds0, p0, q0, hargs, rfl, rfl, h0, r0⟩ := trodAll_cons hA
  obtain ⟨v1, vs1, d1, ds1, p1, q1, rfl, rfl, rfl, h1, r1⟩ := trodAll_cons r0
  obtain ⟨v2, vs2, d2, ds2, p2, q2, rfl, rfl, rfl, h2, r2⟩ := trodAll_cons r1
  obtain ⟨v3, vs3, d3, ds3, p3, q3, rfl, rfl, rfl, h3, r3⟩ := trodAll_cons r2
  obtain ⟨v4, vs4, d4, ds4, p4, q4, rfl, rfl, rfl, h4, r4⟩ := trodAll_cons r3
  obtain ⟨rfl, rfl, rfl⟩ := trodAll_nil r4
  obtain rfl : args = #[v0, v1, v2, v3, v4] := by cases args; simp_all
  obtain ⟨rfl, rfl⟩ := trodVars_none hV
  obtain ⟨cs0, rfl, x0, s0, -, k0⟩ := arg_struct (B := bulk H) Try.underlying50 readsT50 (hval 0 50 v0 rfl rfl) h0
  obtain ⟨w0_0, w0_1, w0_2, e0, g0_0, g0_1, g0_2⟩ := s0
  obtain ⟨ao0_0, c0_0, rfl⟩ := IsSlice.val g0_0
  obtain ⟨ao0_1, c0_1, rfl⟩ := IsSlice.val g0_1
  obtain ⟨ao0_2, c0_2, rfl⟩ := IsSlice.val g0_2
  have e0 : cs0.toList = [.slice ao0_0 (x0.Disk.Blocks).length c0_0, .slice ao0_1 (x0.Disk.Waits).length c0_1, .slice ao0_2 (x0.Space).length c0_2, .int .u32 (x0.Epoch.toNat : Int), .int .u32 (x0.Count.toNat : Int)] := e0
  obtain rfl : cs0 = #[.slice ao0_0 (x0.Disk.Blocks).length c0_0, .slice ao0_1 (x0.Disk.Waits).length c0_1, .slice ao0_2 (x0.Space).length c0_2, .int .u32 (x0.Epoch.toNat : Int), .int .u32 (x0.Count.toNat : Int)] := Array.toList_inj.1 e0
  obtain ⟨cs1, rfl, x1, s1, -, k1⟩ := arg_struct (B := bulk H) Try.underlying28 readsT28 (hval 1 28 v1 rfl rfl) h1
  have e1 : cs1.toList = [.int .i64 x1.At, .int .u32 (x1.Birth.toNat : Int), .int .u32 (x1.Iv.toNat : Int), .int .u32 (x1.Tag.toNat : Int), .int .u32 (x1.Sum.toNat : Int)] := s1
  obtain rfl : cs1 = #[.int .i64 x1.At, .int .u32 (x1.Birth.toNat : Int), .int .u32 (x1.Iv.toNat : Int), .int .u32 (x1.Tag.toNat : Int), .int .u32 (x1.Sum.toNat : Int)] := Array.toList_inj.1 e1
  obtain ⟨x2, rfl, k2⟩ := arg_int Try.underlying3 (hval 2 3 v2 rfl rfl) h2
  obtain ⟨x3, rfl⟩ := arg_u32 (bulk H) Try.underlying26 (hval 3 26 v3 rfl rfl) h3
  obtain ⟨ao4, n4, c4, rfl, x4, s4, -, k4⟩ := arg_slice (B := bulk H) Try.underlying45 cells5 (by decide) (reads_u8 Try.underlying5) (hval 4 45 v4 rfl rfl) h4
  exact lift_true (tb := 4) laid (by kernel_rfl) (by kernel_rfl) Try.underlying4 rfl hW' rfl (law15_SetAlone_ok x0 x1 x2 x3 x4 (HW W) g0_0 g0_1 g0_2 s4 true (plain x0 x1 x2 x3 x4 ⟨g0_0.len_le, g0_1.len_le, fun w hw => (k0.1.2 w hw).1⟩ k1.1 k2)) (fun u K H' h => h.1)

theorem over (plain : ∀ (x0 : Store) (x1 : Ptr) (x2 : Int) (x3 : UInt32) (x4 : List UInt8) (z0 : Sized x0.Disk) (z1 : InI64 x1.At) (z2 : InI64 x2), law15_SetAlone x0 x1 x2 x3 x4 = some true) : Rows.setAloneRow.holds Try.pinned (OpenSpec.ofChange Rows.setAloneSpec) :=
  OpenClaim.holds_of_wide 8 Try.f8 rfl rfl rfl rfl rfl rfl rfl ⟨rfl, rfl, rfl, rfl, rfl⟩ rfl rfl rfl rfl rfl (by kernel_rfl) Try.func8 (by kernel_rfl)
    (of_decide_eq_true (by kernel_rfl)) (by unfold Func.isWrapper; first | (rw [if_pos (by decide +kernel)]; kernel_rfl) | (rw [if_neg (by decide +kernel)]; exact ⟨rfl, rfl⟩))
    (fun os started H enc _ => lifted plain os started H enc)
end setAlone
theorem setAlone_holds : Rows.SetAloneSaid := setAlone.over law_SetAlone
end Go.Proofs.Ytdoebbgjjlicjaa
