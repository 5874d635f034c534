import Derived.Test.YtebhagohhbmgoaaGreatRows
import Derived.Test.YtebhagohhbmgoaaGreatW2
import Derived.Test.YtebhagohhbmgoaaGreatOwMb
import Derived.Test.YtebhagohhbmgoaaGreatOwMf
import Derived.Test.YtebhagohhbmgoaaGreatOwMe
/-
  What is proved here: from the plain law to the given statement: it is true of every input, and leaves it as it was. No condition.
-/
set_option linter.unusedSimpArgs false
set_option linter.unusedVariables false
namespace Go.Proofs.YtebhagohhbmgoaaGreat
open Go.ChangeShapes Go.WideShapes Go.ChangeAt Go.RowKit Go.Ow
theorem knob:ownKnob Tryz.prog.godebug=none:=by kernel_rfl
theorem laid:laidOutB Tryz.prog=true:=by kernel_rfl
def bulk (H:Type):Bulk H where
  one:=Rows.uptoBulk
  all:=Rows.uptoBulkAll
  hstr l:=by simp[Rows.uptoBulk]
  hsl a b:=by simp[Rows.uptoBulk]
  hagg a:=by simp[Rows.uptoBulk]
  hnil:=by simp[Rows.uptoBulkAll]
  hcons d r:=by simp[Rows.uptoBulkAll]
  hone d:=by
    cases d with
    |lit l=>cases l<;>simp[Rows.uptoBulk]
    |nil=>simp[Rows.uptoBulk]
    |ptr d=>simp[Rows.uptoBulk]
    |slice elems spare=>simp[Rows.uptoBulk]
    |agg parts=>simp[Rows.uptoBulk]
    |iface t d=>simp[Rows.uptoBulk]
    |map entries=>simp[Rows.uptoBulk]
    |held h=>simp[Rows.uptoBulk]
section
variable{H:Type}{enc:TypeId×Value→H}{W:World}
theorem cells3:Tryz.prog.cellsOf 3=1:=by kernel_rfl
theorem cells5:Tryz.prog.cellsOf 5=1:=by kernel_rfl
theorem cells22:Tryz.prog.cellsOf 22=1:=by kernel_rfl
theorem cells23:Tryz.prog.cellsOf 23=1:=by kernel_rfl
theorem cells25:Tryz.prog.cellsOf 25=2:=by kernel_rfl
theorem cells26:Tryz.prog.cellsOf 26=1:=by kernel_rfl
theorem cells27:Tryz.prog.cellsOf 27=1:=by kernel_rfl
theorem cells29:Tryz.prog.cellsOf 29=5:=by kernel_rfl
theorem cells31:Tryz.prog.cellsOf 31=5:=by kernel_rfl
theorem cells51:Tryz.prog.cellsOf 51=1:=by kernel_rfl
theorem cells52:Tryz.prog.cellsOf 52=1:=by kernel_rfl
theorem cells53:Tryz.prog.cellsOf 53=1:=by kernel_rfl
theorem cells55:Tryz.prog.cellsOf 55=19:=by kernel_rfl
theorem cells96:Tryz.prog.cellsOf 96=2:=by kernel_rfl
theorem cells97:Tryz.prog.cellsOf 97=1:=by kernel_rfl
theorem cells99:Tryz.prog.cellsOf 99=13:=by kernel_rfl
theorem cells101:Tryz.prog.cellsOf 101=12:=by kernel_rfl
theorem bytes3:1≤Tryz.prog.bytesOf 3:=Nat.le_of_ble_eq_true (by kernel_rfl)
theorem bytes5:1≤Tryz.prog.bytesOf 5:=Nat.le_of_ble_eq_true (by kernel_rfl)
theorem bytes26:1≤Tryz.prog.bytesOf 26:=Nat.le_of_ble_eq_true (by kernel_rfl)
theorem bytes31:1≤Tryz.prog.bytesOf 31:=Nat.le_of_ble_eq_true (by kernel_rfl)
theorem bytes96:1≤Tryz.prog.bytesOf 96:=Nat.le_of_ble_eq_true (by kernel_rfl)
theorem bytes99:1≤Tryz.prog.bytesOf 99:=Nat.le_of_ble_eq_true (by kernel_rfl)
theorem bytes101:1≤Tryz.prog.bytesOf 101:=Nat.le_of_ble_eq_true (by kernel_rfl)
theorem readsT31:Reads enc Tryz.prog W (bulk H) 31 R_Ptr 5 big_Ptr ok_Ptr:=
  reads_Ptr Tryz.underlying31 cells31 rfl
    ⟨rfl,rfl,cells3⟩ (reads_int Tryz.underlying3)
    ⟨rfl,rfl,cells27⟩ (reads_u32 Tryz.underlying27)
    ⟨rfl,rfl,cells27⟩ (reads_u32 Tryz.underlying27)
    ⟨rfl,rfl,cells27⟩ (reads_u32 Tryz.underlying27)
    ⟨rfl,rfl,cells27⟩ (reads_u32 Tryz.underlying27)
theorem readsF96:ReadsF enc Tryz.prog W 96 R_Write 2 fit_Write:=
  readsF_Write Tryz.underlying96 cells96 rfl rfl
    ⟨rfl,rfl,cells3⟩ (Reads.f (B:=bulk H) (reads_int Tryz.underlying3))
    ⟨rfl,rfl,cells26⟩ (readsF_sl Tryz.underlying26 cells5 (by decide) bytes5 (Reads.f (B:=bulk H) (reads_u8 Tryz.underlying5)))
theorem readsF25:ReadsF enc Tryz.prog W 25 R_Disk 2 fit_Disk:=
  readsF_Disk Tryz.underlying25 cells25 rfl rfl
    ⟨rfl,rfl,cells22⟩ (readsF_sl Tryz.underlying22 cells26 (by decide) bytes26 (readsF_sl Tryz.underlying26 cells5 (by decide) bytes5 (Reads.f (B:=bulk H) (reads_u8 Tryz.underlying5))))
    ⟨rfl,rfl,cells23⟩ (readsF_sl Tryz.underlying23 cells96 (by decide) bytes96 readsF96)
theorem readsF29:ReadsF enc Tryz.prog W 29 R_Store 5 fit_Store:=
  readsF_Store Tryz.underlying29 cells29 rfl rfl
    ⟨rfl,rfl,cells25⟩ readsF25
    ⟨rfl,rfl,cells26⟩ (readsF_sl Tryz.underlying26 cells5 (by decide) bytes5 (Reads.f (B:=bulk H) (reads_u8 Tryz.underlying5)))
    ⟨rfl,rfl,cells27⟩ (Reads.f (B:=bulk H) (reads_u32 Tryz.underlying27))
    ⟨rfl,rfl,cells27⟩ (Reads.f (B:=bulk H) (reads_u32 Tryz.underlying27))
theorem readsF99:ReadsF enc Tryz.prog W 99 R_Line 13 fit_Line:=
  readsF_Line Tryz.underlying99 cells99 rfl rfl
    ⟨rfl,rfl,cells3⟩ (Reads.f (B:=bulk H) (reads_int Tryz.underlying3))
    ⟨rfl,rfl,cells5⟩ (Reads.f (B:=bulk H) (reads_u8 Tryz.underlying5))
    ⟨rfl,rfl,cells3⟩ (Reads.f (B:=bulk H) (reads_int Tryz.underlying3))
    ⟨rfl,rfl,cells3⟩ (Reads.f (B:=bulk H) (reads_int Tryz.underlying3))
    ⟨rfl,rfl,cells27⟩ (Reads.f (B:=bulk H) (reads_u32 Tryz.underlying27))
    ⟨rfl,rfl,cells27⟩ (Reads.f (B:=bulk H) (reads_u32 Tryz.underlying27))
    ⟨rfl,rfl,cells3⟩ (Reads.f (B:=bulk H) (reads_int Tryz.underlying3))
    ⟨rfl,rfl,cells31⟩ (Reads.f (B:=bulk H) readsT31)
    ⟨rfl,rfl,cells97⟩ (readsF_sl Tryz.underlying97 cells31 (by decide) bytes31 (Reads.f (B:=bulk H) readsT31))
theorem readsF101:ReadsF enc Tryz.prog W 101 R_Change 12 fit_Change:=
  readsF_Change Tryz.underlying101 cells101 rfl rfl
    ⟨rfl,rfl,cells3⟩ (Reads.f (B:=bulk H) (reads_int Tryz.underlying3))
    ⟨rfl,rfl,cells3⟩ (Reads.f (B:=bulk H) (reads_int Tryz.underlying3))
    ⟨rfl,rfl,cells3⟩ (Reads.f (B:=bulk H) (reads_int Tryz.underlying3))
    ⟨rfl,rfl,cells5⟩ (Reads.f (B:=bulk H) (reads_u8 Tryz.underlying5))
    ⟨rfl,rfl,cells3⟩ (Reads.f (B:=bulk H) (reads_int Tryz.underlying3))
    ⟨rfl,rfl,cells3⟩ (Reads.f (B:=bulk H) (reads_int Tryz.underlying3))
    ⟨rfl,rfl,cells26⟩ (readsF_sl Tryz.underlying26 cells5 (by decide) bytes5 (Reads.f (B:=bulk H) (reads_u8 Tryz.underlying5)))
    ⟨rfl,rfl,cells31⟩ (Reads.f (B:=bulk H) readsT31)
theorem readsF55:ReadsF enc Tryz.prog W 55 R_Pool 19 fit_Pool:=
  readsF_Pool Tryz.underlying55 cells55 rfl rfl
    ⟨rfl,rfl,cells29⟩ readsF29
    ⟨rfl,rfl,cells27⟩ (Reads.f (B:=bulk H) (reads_u32 Tryz.underlying27))
    ⟨rfl,rfl,cells31⟩ (Reads.f (B:=bulk H) readsT31)
    ⟨rfl,rfl,cells51⟩ (readsF_sl Tryz.underlying51 cells3 (by decide) bytes3 (Reads.f (B:=bulk H) (reads_int Tryz.underlying3)))
    ⟨rfl,rfl,cells52⟩ (readsF_sl Tryz.underlying52 cells99 (by decide) bytes99 readsF99)
    ⟨rfl,rfl,cells22⟩ (readsF_sl Tryz.underlying22 cells26 (by decide) bytes26 (readsF_sl Tryz.underlying26 cells5 (by decide) bytes5 (Reads.f (B:=bulk H) (reads_u8 Tryz.underlying5))))
    ⟨rfl,rfl,cells22⟩ (readsF_sl Tryz.underlying22 cells26 (by decide) bytes26 (readsF_sl Tryz.underlying26 cells5 (by decide) bytes5 (Reads.f (B:=bulk H) (reads_u8 Tryz.underlying5))))
    ⟨rfl,rfl,cells53⟩ (readsF_sl Tryz.underlying53 cells101 (by decide) bytes101 readsF101)
    ⟨rfl,rfl,cells3⟩ (Reads.f (B:=bulk H) (reads_int Tryz.underlying3))
    ⟨rfl,rfl,cells3⟩ (Reads.f (B:=bulk H) (reads_int Tryz.underlying3))
    ⟨rfl,rfl,cells27⟩ (Reads.f (B:=bulk H) (reads_u32 Tryz.underlying27))
end
namespace dataReads
set_option maxRecDepth 100000 in
theorem lifted (plain:∀(x0:Pool) (x1:Int) (x2:Int) (x3:Int) (z0:fit_Pool x0) (z1:InI64 x1) (z2:InI64 x2) (z3:InI64 x3),law20_DataReads x0 x1 x2 x3=some true)(os:Os)(started:os.Started)(H:Type)(enc:TypeId×Value→H):
    ReturnsInHanded {} Tryz.checked os 4 .any (Rows.dataReadsSpec.pre6 enc Tryz.prog Tryz.f4 Rows.dataReadsRow.domain false) (Rows.dataReadsSpec.post enc Tryz.prog Tryz.f4 false true false false):=by
  refine returnsInHanded_of_change_shaped (C:=Tryz.checked) knob started (by kernel_rfl) Tryz.func4
    (ChangeSpec.witness6 (enc:=enc) (C:=Tryz.checked) false ⟨#[],#[.agg #[.slice none 0 0,.slice none 0 0,.slice none 0 0,.int .u32 0,.int .u32 0,.int .u32 0,.int .i64 0,.int .u32 0,.int .u32 0,.int .u32 0,.int .u32 0,.slice none 0 0,.slice none 0 0,.slice none 0 0,.slice none 0 0,.slice none 0 0,.int .i64 0,.int .i64 0,.int .u32 0],.int .i64 0,.int .i64 0,.int .i64 0],[]⟩ 8 (by kernel_rfl) (by kernel_rfl) (by kernel_rfl) (by kernel_rfl)) ?_
  intro W base args ds gs before hval0 hW hcnd hwt _ _
  have hval:∀(j:Nat) t v,Tryz.f4.params[j]? =some t→args[j]? =some v→Value.okWide Tryz.prog W .any base t v:=hval0
  have hW':=hW
  obtain⟨p,q,hA0,hV,rfl,hfz,hnd⟩:=hW
  have hA:DataW.TrodAll enc Tryz.prog W 0 (λ_=>true) true Tryz.f4.params.toList args.toList ds p:=hA0
  rw[Tryz.params4]at hA hval
  obtain⟨v0,vs0,d0,ds0,p0,q0,hargs,rfl,rfl,h0,r0⟩:=trodAll_cons hA
  obtain⟨v1,vs1,d1,ds1,p1,q1,rfl,rfl,rfl,h1,r1⟩:=trodAll_cons r0
  obtain⟨v2,vs2,d2,ds2,p2,q2,rfl,rfl,rfl,h2,r2⟩:=trodAll_cons r1
  obtain⟨v3,vs3,d3,ds3,p3,q3,rfl,rfl,rfl,h3,r3⟩:=trodAll_cons r2
  obtain⟨rfl,rfl,rfl⟩:=trodAll_nil r3
  obtain rfl:args= #[v0,v1,v2,v3]:=by cases args;simp_all
  obtain⟨rfl,rfl⟩:=trodVars_none hV
  have hw:FitsEach Tryz.prog [55,3,3,3] [d0,d1,d2,d3]:=by rw[Tryz.params4]at hwt;exact hwt
  obtain⟨F0,hw⟩:=Zc hw
  obtain⟨F1,hw⟩:=Zc hw
  obtain⟨F2,hw⟩:=Zc hw
  obtain⟨F3,hw⟩:=Zc hw
  obtain⟨cs0,rfl,x0,s0,k0⟩:=argF_struct Tryz.underlying55 readsF55 (hval 0 55 v0 rfl rfl) h0 F0
  obtain⟨w0_0,w0_1,w0_2,w0_11,w0_12,w0_13,w0_14,w0_15,e0,g0_0,g0_1,g0_2,g0_11,g0_12,g0_13,g0_14,g0_15⟩:=s0
  obtain⟨ao0_0,c0_0,rfl⟩:=IsSlice.val g0_0
  obtain⟨ao0_1,c0_1,rfl⟩:=IsSlice.val g0_1
  obtain⟨ao0_2,c0_2,rfl⟩:=IsSlice.val g0_2
  obtain⟨ao0_11,c0_11,rfl⟩:=IsSlice.val g0_11
  obtain⟨ao0_12,c0_12,rfl⟩:=IsSlice.val g0_12
  obtain⟨ao0_13,c0_13,rfl⟩:=IsSlice.val g0_13
  obtain⟨ao0_14,c0_14,rfl⟩:=IsSlice.val g0_14
  obtain⟨ao0_15,c0_15,rfl⟩:=IsSlice.val g0_15
  have e0:cs0.toList= [.slice ao0_0 (x0.Store.Disk.Blocks).length c0_0,.slice ao0_1 (x0.Store.Disk.Waits).length c0_1,.slice ao0_2 (x0.Store.Space).length c0_2,.int .u32 (x0.Store.Epoch.toNat:Int),.int .u32 (x0.Store.Count.toNat:Int),.int .u32 (x0.Gen.toNat:Int),.int .i64 x0.Root.At,.int .u32 (x0.Root.Birth.toNat:Int),.int .u32 (x0.Root.Iv.toNat:Int),.int .u32 (x0.Root.Tag.toNat:Int),.int .u32 (x0.Root.Sum.toNat:Int),.slice ao0_11 (x0.MetaL).length c0_11,.slice ao0_12 (x0.Lines).length c0_12,.slice ao0_13 (x0.Keys).length c0_13,.slice ao0_14 (x0.Loaded).length c0_14,.slice ao0_15 (x0.Changes).length c0_15,.int .i64 x0.Logged,.int .i64 x0.NextId,.int .u32 (x0.NextGuid.toNat:Int)]:=e0
  obtain rfl:cs0= #[.slice ao0_0 (x0.Store.Disk.Blocks).length c0_0,.slice ao0_1 (x0.Store.Disk.Waits).length c0_1,.slice ao0_2 (x0.Store.Space).length c0_2,.int .u32 (x0.Store.Epoch.toNat:Int),.int .u32 (x0.Store.Count.toNat:Int),.int .u32 (x0.Gen.toNat:Int),.int .i64 x0.Root.At,.int .u32 (x0.Root.Birth.toNat:Int),.int .u32 (x0.Root.Iv.toNat:Int),.int .u32 (x0.Root.Tag.toNat:Int),.int .u32 (x0.Root.Sum.toNat:Int),.slice ao0_11 (x0.MetaL).length c0_11,.slice ao0_12 (x0.Lines).length c0_12,.slice ao0_13 (x0.Keys).length c0_13,.slice ao0_14 (x0.Loaded).length c0_14,.slice ao0_15 (x0.Changes).length c0_15,.int .i64 x0.Logged,.int .i64 x0.NextId,.int .u32 (x0.NextGuid.toNat:Int)]:=Array.toList_inj.1 e0
  obtain⟨x1,rfl,k1⟩:=arg_int Tryz.underlying3 (hval 1 3 v1 rfl rfl) h1
  obtain⟨x2,rfl,k2⟩:=arg_int Tryz.underlying3 (hval 2 3 v2 rfl rfl) h2
  obtain⟨x3,rfl,k3⟩:=arg_int Tryz.underlying3 (hval 3 3 v3 rfl rfl) h3
  exact lift_true (tb:=4) laid (by kernel_rfl) (by kernel_rfl) Tryz.underlying4 rfl hW' rfl (law20_DataReads_ok x0 x1 x2 x3 (HW W) g0_0 g0_1 g0_2 g0_11 g0_12 g0_13 g0_14 g0_15 true (plain x0 x1 x2 x3 k0 k1 k2 k3)) (λu K H' h=>h.1)
theorem over (plain:∀(x0:Pool) (x1:Int) (x2:Int) (x3:Int) (z0:fit_Pool x0) (z1:InI64 x1) (z2:InI64 x2) (z3:InI64 x3),law20_DataReads x0 x1 x2 x3=some true):Rows.dataReadsRow.holds Tryz.pinned (OpenSpec.ofChange Rows.dataReadsSpec):=
  OpenClaim.holds_of_wide 4 Tryz.f4 rfl rfl rfl rfl rfl rfl rfl ⟨rfl,rfl,rfl,rfl,rfl⟩ rfl rfl rfl rfl rfl (by kernel_rfl) Tryz.func4 (by kernel_rfl)
    (of_decide_eq_true (by kernel_rfl)) (by unfold Func.isWrapper;first|(rw[if_pos (by decide+kernel)];kernel_rfl)|(rw[if_neg (by decide+kernel)];exact⟨rfl,rfl⟩))
    (λos started H enc _=>lifted plain os started H enc)
end dataReads
theorem dataReads_holds:Rows.DataReadsSaid:=dataReads.over (λa b c d e _ _ _=>law_DataReads' a b c d e)
end Go.Proofs.YtebhagohhbmgoaaGreat
