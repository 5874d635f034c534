import Derived.Test.YtebhagohhbmgoaaGreatRows
import Derived.Test.YtebhagohhbmgoaaGreatW2
import Derived.Test.YtebhagohhbmgoaaGreatOwMb
import Derived.Test.YtebhagohhbmgoaaGreatOwMe
/-
  What is proved here: from the plain law to the given statement: it is true of every input, and leaves it as it was. No condition.
-/
namespace Go.Proofs.YtebhagohhbmgoaaGreat
open Go.ChangeShapes Go.WideShapes Go.ChangeAt Go.RowKit Go.Ow
set_option linter.unusedVariables false
set_option linter.unusedSimpArgs false

theorem knob : ownKnob Tryz.prog.godebug = none:=by kernel_rfl
theorem laid : laidOutB Tryz.prog = true:=by kernel_rfl
def bulk (H : Type) : Bulk H where
  one:=Rows.uptoBulk
  all:=Rows.uptoBulkAll
  hstr l:=by simp [Rows.uptoBulk]
  hsl a b:=by simp [Rows.uptoBulk]
  hagg a:=by simp [Rows.uptoBulk]
  hnil:=by simp [Rows.uptoBulkAll]
  hcons d r:=by simp [Rows.uptoBulkAll]
  hone d:=by
    cases d with
    | lit l => cases l <;> simp [Rows.uptoBulk]
    | nil => simp [Rows.uptoBulk]
    | ptr d => simp [Rows.uptoBulk]
    | slice elems spare => simp [Rows.uptoBulk]
    | agg parts => simp [Rows.uptoBulk]
    | iface t d => simp [Rows.uptoBulk]
    | map entries => simp [Rows.uptoBulk]
    | held h => simp [Rows.uptoBulk]
section
variable {H : Type} {enc : TypeId × Value → H} {W : World}
theorem cells3 : Tryz.prog.cellsOf 3 = 1:=by kernel_rfl
theorem cells5 : Tryz.prog.cellsOf 5 = 1:=by kernel_rfl
theorem cells22 : Tryz.prog.cellsOf 22 = 1:=by kernel_rfl
theorem cells23 : Tryz.prog.cellsOf 23 = 1:=by kernel_rfl
theorem cells25 : Tryz.prog.cellsOf 25 = 2:=by kernel_rfl
theorem cells26 : Tryz.prog.cellsOf 26 = 1:=by kernel_rfl
theorem cells27 : Tryz.prog.cellsOf 27 = 1:=by kernel_rfl
theorem cells29 : Tryz.prog.cellsOf 29 = 5:=by kernel_rfl
theorem cells31 : Tryz.prog.cellsOf 31 = 5:=by kernel_rfl
theorem cells96 : Tryz.prog.cellsOf 96 = 2:=by kernel_rfl
theorem bytes5 : 1 ≤ Tryz.prog.bytesOf 5:=Nat.le_of_ble_eq_true (by kernel_rfl)
theorem bytes26 : 1 ≤ Tryz.prog.bytesOf 26:=Nat.le_of_ble_eq_true (by kernel_rfl)
theorem bytes96 : 1 ≤ Tryz.prog.bytesOf 96:=Nat.le_of_ble_eq_true (by kernel_rfl)
theorem readsT31 : Reads enc Tryz.prog W (bulk H) 31 R_Ptr 5 big_Ptr ok_Ptr :=
  reads_Ptr Tryz.underlying31 cells31 rfl
    ⟨rfl,rfl,cells3⟩ (reads_int Tryz.underlying3)
    ⟨rfl,rfl,cells27⟩ (reads_u32 Tryz.underlying27)
    ⟨rfl,rfl,cells27⟩ (reads_u32 Tryz.underlying27)
    ⟨rfl,rfl,cells27⟩ (reads_u32 Tryz.underlying27)
    ⟨rfl,rfl,cells27⟩ (reads_u32 Tryz.underlying27)
theorem readsF96 : ReadsF enc Tryz.prog W 96 R_Write 2 fit_Write :=
  readsF_Write Tryz.underlying96 cells96 rfl rfl
    ⟨rfl,rfl,cells3⟩ (Reads.f (B:=bulk H) (reads_int Tryz.underlying3))
    ⟨rfl,rfl,cells26⟩ (readsF_sl Tryz.underlying26 cells5 (by decide) bytes5 (Reads.f (B:=bulk H) (reads_u8 Tryz.underlying5)))
theorem readsF25 : ReadsF enc Tryz.prog W 25 R_Disk 2 fit_Disk :=
  readsF_Disk Tryz.underlying25 cells25 rfl rfl
    ⟨rfl,rfl,cells22⟩ (readsF_sl Tryz.underlying22 cells26 (by decide) bytes26 (readsF_sl Tryz.underlying26 cells5 (by decide) bytes5 (Reads.f (B:=bulk H) (reads_u8 Tryz.underlying5))))
    ⟨rfl,rfl,cells23⟩ (readsF_sl Tryz.underlying23 cells96 (by decide) bytes96 readsF96)
theorem readsF29 : ReadsF enc Tryz.prog W 29 R_Store 5 fit_Store :=
  readsF_Store Tryz.underlying29 cells29 rfl rfl
    ⟨rfl,rfl,cells25⟩ readsF25
    ⟨rfl,rfl,cells26⟩ (readsF_sl Tryz.underlying26 cells5 (by decide) bytes5 (Reads.f (B:=bulk H) (reads_u8 Tryz.underlying5)))
    ⟨rfl,rfl,cells27⟩ (Reads.f (B:=bulk H) (reads_u32 Tryz.underlying27))
    ⟨rfl,rfl,cells27⟩ (Reads.f (B:=bulk H) (reads_u32 Tryz.underlying27))
end
namespace storeReads
set_option maxRecDepth 100000 in
theorem lifted (plain : ∀ (x0 : Store) (x1 : Store) (x2 : Ptr) (x3 : List UInt8) (z0 : Sized x0.Disk) (y0 : FitD x0.Disk) (z1 : Sized x1.Disk) (y1 : FitD x1.Disk) (z2 : InI64 x2.At),law13_StoreReads x0 x1 x2 x3 = some true) (os : Os) (started : os.Started) (H : Type) (enc : TypeId × Value → H) :
    ReturnsInHanded {} Tryz.checked os 3 .any (Rows.storeReadsSpec.pre6 enc Tryz.prog Tryz.f3 Rows.storeReadsRow.domain false) (Rows.storeReadsSpec.post enc Tryz.prog Tryz.f3 false true false false):=by
  refine returnsInHanded_of_change_shaped (C:=Tryz.checked) knob started (by kernel_rfl) Tryz.func3
    (ChangeSpec.witness6 (enc:=enc) (C:=Tryz.checked) false ⟨#[],#[.agg #[.slice none 0 0,.slice none 0 0,.slice none 0 0,.int .u32 0,.int .u32 0],.agg #[.slice none 0 0,.slice none 0 0,.slice none 0 0,.int .u32 0,.int .u32 0],.agg #[.int .i64 0,.int .u32 0,.int .u32 0,.int .u32 0,.int .u32 0],.slice none 0 0],[]⟩ 8 (by kernel_rfl) (by kernel_rfl) (by kernel_rfl) (by kernel_rfl)) ?_
  intro W base args ds gs before hval0 hW hcnd hwt _ _
  have hval : ∀ (j : Nat) t v,Tryz.f3.params[j]? = some t → args[j]? = some v → Value.okWide Tryz.prog W .any base t v:=hval0
  have hW':=hW
  obtain ⟨p,q,hA0,hV,rfl,hfz,hnd⟩:=hW
  have hA : DataW.TrodAll enc Tryz.prog W 0 (fun _ => true) true Tryz.f3.params.toList args.toList ds p:=hA0
  rw [Tryz.params3] at hA hval
  obtain ⟨v0,vs0,d0,ds0,p0,q0,hargs,rfl,rfl,h0,r0⟩:=trodAll_cons hA
  obtain ⟨v1,vs1,d1,ds1,p1,q1,rfl,rfl,rfl,h1,r1⟩:=trodAll_cons r0
  obtain ⟨v2,vs2,d2,ds2,p2,q2,rfl,rfl,rfl,h2,r2⟩:=trodAll_cons r1
  obtain ⟨v3,vs3,d3,ds3,p3,q3,rfl,rfl,rfl,h3,r3⟩:=trodAll_cons r2
  obtain ⟨rfl,rfl,rfl⟩:=trodAll_nil r3
  obtain rfl : args = #[v0,v1,v2,v3]:=by cases args; simp_all
  obtain ⟨rfl,rfl⟩:=trodVars_none hV
  have hw : FitsEach Tryz.prog [29,29,31,26] [d0,d1,d2,d3]:=by rw [Tryz.params3] at hwt; exact hwt
  obtain ⟨F0,hw⟩:=fits_cons hw
  obtain ⟨F1,hw⟩:=fits_cons hw
  obtain ⟨F2,hw⟩:=fits_cons hw
  obtain ⟨F3,hw⟩:=fits_cons hw
  obtain ⟨cs0,rfl,x0,s0,k0⟩:=argF_struct Tryz.underlying29 readsF29 (hval 0 29 v0 rfl rfl) h0 F0
  obtain ⟨w0_0,w0_1,w0_2,e0,g0_0,g0_1,g0_2⟩:=s0
  obtain ⟨ao0_0,c0_0,rfl⟩:=IsSlice.val g0_0
  obtain ⟨ao0_1,c0_1,rfl⟩:=IsSlice.val g0_1
  obtain ⟨ao0_2,c0_2,rfl⟩:=IsSlice.val g0_2
  have e0 : cs0.toList = [.slice ao0_0 (x0.Disk.Blocks).length c0_0,.slice ao0_1 (x0.Disk.Waits).length c0_1,.slice ao0_2 (x0.Space).length c0_2,.int .u32 (x0.Epoch.toNat : Int),.int .u32 (x0.Count.toNat : Int)]:=e0
  obtain rfl : cs0 = #[.slice ao0_0 (x0.Disk.Blocks).length c0_0,.slice ao0_1 (x0.Disk.Waits).length c0_1,.slice ao0_2 (x0.Space).length c0_2,.int .u32 (x0.Epoch.toNat : Int),.int .u32 (x0.Count.toNat : Int)]:=Array.toList_inj.1 e0
  obtain ⟨cs1,rfl,x1,s1,k1⟩:=argF_struct Tryz.underlying29 readsF29 (hval 1 29 v1 rfl rfl) h1 F1
  obtain ⟨w1_0,w1_1,w1_2,e1,g1_0,g1_1,g1_2⟩:=s1
  obtain ⟨ao1_0,c1_0,rfl⟩:=IsSlice.val g1_0
  obtain ⟨ao1_1,c1_1,rfl⟩:=IsSlice.val g1_1
  obtain ⟨ao1_2,c1_2,rfl⟩:=IsSlice.val g1_2
  have e1 : cs1.toList = [.slice ao1_0 (x1.Disk.Blocks).length c1_0,.slice ao1_1 (x1.Disk.Waits).length c1_1,.slice ao1_2 (x1.Space).length c1_2,.int .u32 (x1.Epoch.toNat : Int),.int .u32 (x1.Count.toNat : Int)]:=e1
  obtain rfl : cs1 = #[.slice ao1_0 (x1.Disk.Blocks).length c1_0,.slice ao1_1 (x1.Disk.Waits).length c1_1,.slice ao1_2 (x1.Space).length c1_2,.int .u32 (x1.Epoch.toNat : Int),.int .u32 (x1.Count.toNat : Int)]:=Array.toList_inj.1 e1
  obtain ⟨cs2,rfl,x2,s2,-,k2⟩:=arg_struct (B:=bulk H) Tryz.underlying31 readsT31 (hval 2 31 v2 rfl rfl) h2
  have e2 : cs2.toList = [.int .i64 x2.At,.int .u32 (x2.Birth.toNat : Int),.int .u32 (x2.Iv.toNat : Int),.int .u32 (x2.Tag.toNat : Int),.int .u32 (x2.Sum.toNat : Int)]:=s2
  obtain rfl : cs2 = #[.int .i64 x2.At,.int .u32 (x2.Birth.toNat : Int),.int .u32 (x2.Iv.toNat : Int),.int .u32 (x2.Tag.toNat : Int),.int .u32 (x2.Sum.toNat : Int)]:=Array.toList_inj.1 e2
  obtain ⟨ao3,n3,c3,rfl,x3,s3,-,k3⟩:=arg_slice (B:=bulk H) Tryz.underlying26 cells5 (by decide) (reads_u8 Tryz.underlying5) (hval 3 26 v3 rfl rfl) h3
  exact lift_true (tb:=4) laid (by kernel_rfl) (by kernel_rfl) Tryz.underlying4 rfl hW' rfl (law13_StoreReads_ok x0 x1 x2 x3 (HW W) g0_0 g0_1 g0_2 g1_0 g1_1 g1_2 s3 true (plain x0 x1 x2 x3 ⟨g0_0.len_le,g0_1.len_le,fun w hw => (k0.1.2.2 w hw).1⟩ ⟨k0.1.1.1,k0.1.2.1,fun b hb => (k0.1.1.2 b hb).1,fun w hw => (k0.1.2.2 w hw).2.1⟩ ⟨g1_0.len_le,g1_1.len_le,fun w hw => (k1.1.2.2 w hw).1⟩ ⟨k1.1.1.1,k1.1.2.1,fun b hb => (k1.1.1.2 b hb).1,fun w hw => (k1.1.2.2 w hw).2.1⟩ k2.1)) (fun u K H' h => h.1)

theorem over (plain : ∀ (x0 : Store) (x1 : Store) (x2 : Ptr) (x3 : List UInt8) (z0 : Sized x0.Disk) (y0 : FitD x0.Disk) (z1 : Sized x1.Disk) (y1 : FitD x1.Disk) (z2 : InI64 x2.At),law13_StoreReads x0 x1 x2 x3 = some true) : Rows.storeReadsRow.holds Tryz.pinned (OpenSpec.ofChange Rows.storeReadsSpec) :=
  OpenClaim.holds_of_wide 3 Tryz.f3 rfl rfl rfl rfl rfl rfl rfl ⟨rfl,rfl,rfl,rfl,rfl⟩ rfl rfl rfl rfl rfl (by kernel_rfl) Tryz.func3 (by kernel_rfl)
    (of_decide_eq_true (by kernel_rfl)) (by unfold Func.isWrapper; first | (rw [if_pos (by decide +kernel)]; kernel_rfl) | (rw [if_neg (by decide +kernel)]; exact ⟨rfl,rfl⟩))
    (fun os started H enc _ => lifted plain os started H enc)
end storeReads
theorem storeReads_holds : Rows.StoreReadsSaid:=storeReads.over law_StoreReads'
end Go.Proofs.YtebhagohhbmgoaaGreat
