/-
  What is proved here: from the plain law to the given statement: it is true of every input, and leaves it as it was. No condition.
-/
import Derived.Test.YtbdmdhfphnklbaaRows
import Derived.Test.YtbdmdhfphnklbaaW2
import Derived.Test.YtbdmdhfphnklbaaOwLf
import Derived.Test.YtbdmdhfphnklbaaOwPdeadV
namespace Go.Proofs.Ytbdmdhfphnklbaa
open Go.ChangeShapes Go.WideShapes Go.ChangeAt Go.RowKit Go.Ow
set_option linter.unusedVariables false
set_option linter.unusedSimpArgs false

theorem knob : ownKnob Try.prog.godebug = none := by kernel_rfl
theorem laid : laidOutB Try.prog = true := by kernel_rfl
/-- this seat's bulk -/
def bulk (H : Type) : Bulk H where
  one := Rows.uptoBulk
  all := Rows.uptoBulkAll
  hstr l := by simp [Rows.uptoBulk]
  hsl a b := by simp [Rows.uptoBulk]
  hagg a := by simp [Rows.uptoBulk]
  hnil := by simp [Rows.uptoBulkAll]
  hcons d r := by simp [Rows.uptoBulkAll]
  hone d := by
    cases d with
    | lit l => cases l <;> simp [Rows.uptoBulk]
    | nil => simp [Rows.uptoBulk]
    | ptr d => simp [Rows.uptoBulk]
    | slice elems spare => simp [Rows.uptoBulk]
    | agg parts => simp [Rows.uptoBulk]
    | iface t d => simp [Rows.uptoBulk]
    | map entries => simp [Rows.uptoBulk]
    | held h => simp [Rows.uptoBulk]
section
variable {H : Type} {enc : TypeId × Value → H} {W : World}
theorem cells3 : Try.prog.cellsOf 3 = 1 := by kernel_rfl
theorem cells30 : Try.prog.cellsOf 30 = 1 := by kernel_rfl
theorem cells32 : Try.prog.cellsOf 32 = 5 := by kernel_rfl
theorem readsT32 : Reads enc Try.prog W (bulk H) 32 R_Ptr 5 big_Ptr ok_Ptr :=
  reads_Ptr Try.underlying32 cells32 rfl
    ⟨rfl, rfl, cells3⟩ (reads_int Try.underlying3)
    ⟨rfl, rfl, cells30⟩ (reads_u32 Try.underlying30)
    ⟨rfl, rfl, cells30⟩ (reads_u32 Try.underlying30)
    ⟨rfl, rfl, cells30⟩ (reads_u32 Try.underlying30)
    ⟨rfl, rfl, cells30⟩ (reads_u32 Try.underlying30)
end
namespace deadLists
set_option maxRecDepth 100000 in
theorem lifted (plain : ∀ (x0 : List Ptr) (x1 : List Ptr) (x2 : Ptr) (x3 : UInt32), law16_DeadLists x0 x1 x2 x3 = some true) (os : Os) (started : os.Started) (H : Type) (enc : TypeId × Value → H) :
    ReturnsInHanded {} Try.checked os 4 .any (Rows.deadListsSpec.pre6 enc Try.prog Try.f4 Rows.deadListsRow.domain false) (Rows.deadListsSpec.post enc Try.prog Try.f4 false true false false) := by
  refine returnsInHanded_of_change (C := Try.checked) knob started (by kernel_rfl) Try.func4
    (ChangeSpec.witness6 (enc := enc) (C := Try.checked) false ⟨#[], #[.slice none 0 0, .slice none 0 0, .agg #[.int .i64 0, .int .u32 0, .int .u32 0, .int .u32 0, .int .u32 0], .int .u32 0], []⟩ 8 (by kernel_rfl) (by kernel_rfl) (by kernel_rfl) (by kernel_rfl)) ?_
  intro W base args ds gs before hval0 hW hcnd _
  have hval : ∀ (j : Nat) t v, Try.f4.params[j]? = some t → args[j]? = some v → Value.okWide Try.prog W .any base t v := hval0
  have hW' := hW
  obtain ⟨p, q, hA0, hV, rfl, hfz, hnd⟩ := hW
  have hA : DataW.TrodAll enc Try.prog W 0 (fun _ => true) true Try.f4.params.toList args.toList ds p := hA0
  rw [Try.params4] at hA hval
  obtain ⟨v0, vs0, d0, ds0, p0, q0, hargs, rfl, rfl, h0, r0⟩ := trodAll_cons hA
  obtain ⟨v1, vs1, d1, ds1, p1, q1, rfl, rfl, rfl, h1, r1⟩ := trodAll_cons r0
  obtain ⟨v2, vs2, d2, ds2, p2, q2, rfl, rfl, rfl, h2, r2⟩ := trodAll_cons r1
  obtain ⟨v3, vs3, d3, ds3, p3, q3, rfl, rfl, rfl, h3, r3⟩ := trodAll_cons r2
  obtain ⟨rfl, rfl, rfl⟩ := trodAll_nil r3
  obtain rfl : args = #[v0, v1, v2, v3] := by cases args; simp_all
  obtain ⟨rfl, rfl⟩ := trodVars_none hV
  obtain ⟨ao0, n0, c0, rfl, x0, s0, -, k0⟩ := arg_slice (B := bulk H) Try.underlying22 cells32 (by decide) readsT32 (hval 0 22 v0 rfl rfl) h0
  obtain ⟨ao1, n1, c1, rfl, x1, s1, -, k1⟩ := arg_slice (B := bulk H) Try.underlying22 cells32 (by decide) readsT32 (hval 1 22 v1 rfl rfl) h1
  obtain ⟨cs2, rfl, x2, s2, -, k2⟩ := arg_struct (B := bulk H) Try.underlying32 readsT32 (hval 2 32 v2 rfl rfl) h2
  have e2 : cs2.toList = [.int .i64 x2.At, .int .u32 (x2.Birth.toNat : Int), .int .u32 (x2.Iv.toNat : Int), .int .u32 (x2.Tag.toNat : Int), .int .u32 (x2.Sum.toNat : Int)] := s2
  obtain rfl : cs2 = #[.int .i64 x2.At, .int .u32 (x2.Birth.toNat : Int), .int .u32 (x2.Iv.toNat : Int), .int .u32 (x2.Tag.toNat : Int), .int .u32 (x2.Sum.toNat : Int)] := Array.toList_inj.1 e2
  obtain ⟨x3, rfl⟩ := arg_u32 (bulk H) Try.underlying30 (hval 3 30 v3 rfl rfl) h3
  exact lift_true (tb := 4) laid (by kernel_rfl) (by kernel_rfl) Try.underlying4 rfl hW' rfl (law16_DeadLists_ok x0 x1 x2 x3 (HW W) s0 s1 true (plain x0 x1 x2 x3)) (fun u K H' h => h.1)

theorem over (plain : ∀ (x0 : List Ptr) (x1 : List Ptr) (x2 : Ptr) (x3 : UInt32), law16_DeadLists x0 x1 x2 x3 = some true) : Rows.deadListsRow.holds Try.pinned (OpenSpec.ofChange Rows.deadListsSpec) :=
  OpenClaim.holds_of_wide 4 Try.f4 rfl rfl rfl rfl rfl rfl rfl ⟨rfl, rfl, rfl, rfl, rfl⟩ rfl rfl rfl rfl rfl (by kernel_rfl) Try.func4 (by kernel_rfl)
    (of_decide_eq_true (by kernel_rfl)) (by unfold Func.isWrapper; first | (rw [if_pos (by decide +kernel)]; kernel_rfl) | (rw [if_neg (by decide +kernel)]; exact ⟨rfl, rfl⟩))
    (fun os started H enc _ => lifted plain os started H enc)
end deadLists
theorem deadLists_holds : Rows.DeadListsSaid := deadLists.over Go.Ow.law_DeadLists
end Go.Proofs.Ytbdmdhfphnklbaa
