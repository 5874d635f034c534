import Derived.Test.YtgiefadcpnegcaaGreatRows
import Derived.Test.YtgiefadcpnegcaaGreatW2
import Derived.Test.YtgiefadcpnegcaaGreatOwMb
import Derived.Test.YtgiefadcpnegcaaGreatOwMe
/-
  What is proved here: from the plain law to the given statement: it is true of every input, and leaves it as it was. No condition.
-/
set_option linter.unusedSimpArgs false
set_option linter.unusedVariables false
namespace Go.Proofs.YtgiefadcpnegcaaGreat
open Go.ChangeShapes Go.WideShapes Go.ChangeAt Go.RowKit Go.Ow
theorem knob:ownKnob Tryz.prog.godebug=none:=by kernel_rfl
theorem laid:laidOutB Tryz.prog=true:=by kernel_rfl
def bulk (H:Type):Bulk H where
  one:=Rows.uptoBulk
  all:=Rows.uptoBulkAll
  hstr l:=by simp[Rows.uptoBulk]
  hsl a b:=by simp[Rows.uptoBulk]
  hagg a:=by simp[Rows.uptoBulk]
  hnil:=by simp[Rows.uptoBulkAll]
  hcons d r:=by simp[Rows.uptoBulkAll]
  hone d:=by
    cases d with
    |lit l=>cases l<;>simp[Rows.uptoBulk]
    |nil=>simp[Rows.uptoBulk]
    |ptr d=>simp[Rows.uptoBulk]
    |slice elems spare=>simp[Rows.uptoBulk]
    |agg parts=>simp[Rows.uptoBulk]
    |iface t d=>simp[Rows.uptoBulk]
    |map entries=>simp[Rows.uptoBulk]
    |held h=>simp[Rows.uptoBulk]
section
variable{H:Type}{enc:TypeId×Value→H}{W:World}
theorem cells3:Tryz.prog.cellsOf 3=1:=by kernel_rfl
theorem cells5:Tryz.prog.cellsOf 5=1:=by kernel_rfl
theorem cells22:Tryz.prog.cellsOf 22=1:=by kernel_rfl
theorem cells23:Tryz.prog.cellsOf 23=1:=by kernel_rfl
theorem cells25:Tryz.prog.cellsOf 25=2:=by kernel_rfl
theorem cells26:Tryz.prog.cellsOf 26=1:=by kernel_rfl
theorem cells27:Tryz.prog.cellsOf 27=1:=by kernel_rfl
theorem cells29:Tryz.prog.cellsOf 29=5:=by kernel_rfl
theorem cells32:Tryz.prog.cellsOf 32=5:=by kernel_rfl
theorem cells78:Tryz.prog.cellsOf 78=2:=by kernel_rfl
theorem bytes5:1≤Tryz.prog.bytesOf 5:=Nat.le_of_ble_eq_true (by kernel_rfl)
theorem bytes26:1≤Tryz.prog.bytesOf 26:=Nat.le_of_ble_eq_true (by kernel_rfl)
theorem bytes78:1≤Tryz.prog.bytesOf 78:=Nat.le_of_ble_eq_true (by kernel_rfl)
theorem readsT32:Reads enc Tryz.prog W (bulk H) 32 R_Ptr 5 big_Ptr ok_Ptr:=
  reads_Ptr Tryz.underlying32 cells32 rfl
    ⟨rfl,rfl,cells3⟩ (reads_int Tryz.underlying3)
    ⟨rfl,rfl,cells27⟩ (reads_u32 Tryz.underlying27)
    ⟨rfl,rfl,cells27⟩ (reads_u32 Tryz.underlying27)
    ⟨rfl,rfl,cells27⟩ (reads_u32 Tryz.underlying27)
    ⟨rfl,rfl,cells27⟩ (reads_u32 Tryz.underlying27)
theorem readsF78:ReadsF enc Tryz.prog W 78 R_Write 2 fit_Write:=
  readsF_Write Tryz.underlying78 cells78 rfl rfl
    ⟨rfl,rfl,cells3⟩ (Reads.f (B:=bulk H) (reads_int Tryz.underlying3))
    ⟨rfl,rfl,cells26⟩ (readsF_sl Tryz.underlying26 cells5 (by decide) bytes5 (Reads.f (B:=bulk H) (reads_u8 Tryz.underlying5)))
theorem readsF25:ReadsF enc Tryz.prog W 25 R_Disk 2 fit_Disk:=
  readsF_Disk Tryz.underlying25 cells25 rfl rfl
    ⟨rfl,rfl,cells22⟩ (readsF_sl Tryz.underlying22 cells26 (by decide) bytes26 (readsF_sl Tryz.underlying26 cells5 (by decide) bytes5 (Reads.f (B:=bulk H) (reads_u8 Tryz.underlying5))))
    ⟨rfl,rfl,cells23⟩ (readsF_sl Tryz.underlying23 cells78 (by decide) bytes78 readsF78)
theorem readsF29:ReadsF enc Tryz.prog W 29 R_Store 5 fit_Store:=
  readsF_Store Tryz.underlying29 cells29 rfl rfl
    ⟨rfl,rfl,cells25⟩ readsF25
    ⟨rfl,rfl,cells26⟩ (readsF_sl Tryz.underlying26 cells5 (by decide) bytes5 (Reads.f (B:=bulk H) (reads_u8 Tryz.underlying5)))
    ⟨rfl,rfl,cells27⟩ (Reads.f (B:=bulk H) (reads_u32 Tryz.underlying27))
    ⟨rfl,rfl,cells27⟩ (Reads.f (B:=bulk H) (reads_u32 Tryz.underlying27))
end
namespace deadBack
set_option maxRecDepth 100000 in
theorem lifted (plain:∀(x0:Store) (x1:UInt32) (x2:List Ptr) (z0:Sized x0.Disk) (y0:FitD x0.Disk),law16_DeadBack x0 x1 x2=some true)(os:Os)(started:os.Started)(H:Type)(enc:TypeId×Value→H):
    ReturnsInHanded {} Tryz.checked os 4 .any (Rows.deadBackSpec.pre6 enc Tryz.prog Tryz.f4 Rows.deadBackRow.domain false) (Rows.deadBackSpec.post enc Tryz.prog Tryz.f4 false true false false):=by
  refine returnsInHanded_of_change_shaped (C:=Tryz.checked) knob started (by kernel_rfl) Tryz.func4
    (ChangeSpec.witness6 (enc:=enc) (C:=Tryz.checked) false ⟨#[],#[.agg #[.slice none 0 0,.slice none 0 0,.slice none 0 0,.int .u32 0,.int .u32 0],.int .u32 0,.slice none 0 0],[]⟩ 8 (by kernel_rfl) (by kernel_rfl) (by kernel_rfl) (by kernel_rfl)) ?_
  intro W base args ds gs before hval0 hW hcnd hwt _ _
  have hval:∀(j:Nat) t v,Tryz.f4.params[j]? =some t→args[j]? =some v→Value.okWide Tryz.prog W .any base t v:=hval0
  have hW':=hW
  obtain⟨p,q,hA0,hV,rfl,hfz,hnd⟩:=hW
  have hA:DataW.TrodAll enc Tryz.prog W 0 (λ_=>true) true Tryz.f4.params.toList args.toList ds p:=hA0
  rw[Tryz.params4]at hA hval
  obtain⟨v0,vs0,d0,ds0,p0,q0,hargs,rfl,rfl,h0,r0⟩:=trodAll_cons hA
  obtain⟨v1,vs1,d1,ds1,p1,q1,rfl,rfl,rfl,h1,r1⟩:=trodAll_cons r0
  obtain⟨v2,vs2,d2,ds2,p2,q2,rfl,rfl,rfl,h2,r2⟩:=trodAll_cons r1
  obtain⟨rfl,rfl,rfl⟩:=trodAll_nil r2
  obtain rfl:args= #[v0,v1,v2]:=by cases args;simp_all
  obtain⟨rfl,rfl⟩:=trodVars_none hV
  have hw:FitsEach Tryz.prog [29,27,30] [d0,d1,d2]:=by rw[Tryz.params4]at hwt;exact hwt
  obtain⟨F0,hw⟩:=fits_cons hw
  obtain⟨F1,hw⟩:=fits_cons hw
  obtain⟨F2,hw⟩:=fits_cons hw
  obtain⟨cs0,rfl,x0,s0,k0⟩:=argF_struct Tryz.underlying29 readsF29 (hval 0 29 v0 rfl rfl) h0 F0
  obtain⟨w0_0,w0_1,w0_2,e0,g0_0,g0_1,g0_2⟩:=s0
  obtain⟨ao0_0,c0_0,rfl⟩:=IsSlice.val g0_0
  obtain⟨ao0_1,c0_1,rfl⟩:=IsSlice.val g0_1
  obtain⟨ao0_2,c0_2,rfl⟩:=IsSlice.val g0_2
  have e0:cs0.toList= [.slice ao0_0 (x0.Disk.Blocks).length c0_0,.slice ao0_1 (x0.Disk.Waits).length c0_1,.slice ao0_2 (x0.Space).length c0_2,.int .u32 (x0.Epoch.toNat:Int),.int .u32 (x0.Count.toNat:Int)]:=e0
  obtain rfl:cs0= #[.slice ao0_0 (x0.Disk.Blocks).length c0_0,.slice ao0_1 (x0.Disk.Waits).length c0_1,.slice ao0_2 (x0.Space).length c0_2,.int .u32 (x0.Epoch.toNat:Int),.int .u32 (x0.Count.toNat:Int)]:=Array.toList_inj.1 e0
  obtain⟨x1,rfl⟩:=arg_u32 (bulk H) Tryz.underlying27 (hval 1 27 v1 rfl rfl) h1
  obtain⟨ao2,n2,c2,rfl,x2,s2,-,k2⟩:=arg_slice (B:=bulk H) Tryz.underlying30 cells32 (by decide) readsT32 (hval 2 30 v2 rfl rfl) h2
  exact lift_true (tb:=4) laid (by kernel_rfl) (by kernel_rfl) Tryz.underlying4 rfl hW' rfl (law16_DeadBack_ok x0 x1 x2 (HW W) g0_0 g0_1 g0_2 s2 true (plain x0 x1 x2 ⟨g0_0.len_le,g0_1.len_le,λw hw=>(k0.1.2.2 w hw).1⟩ ⟨k0.1.1.1,k0.1.2.1,λb hb=>(k0.1.1.2 b hb).1,λw hw=>(k0.1.2.2 w hw).2.1⟩)) (λu K H' h=>h.1)
theorem over (plain:∀(x0:Store) (x1:UInt32) (x2:List Ptr) (z0:Sized x0.Disk) (y0:FitD x0.Disk),law16_DeadBack x0 x1 x2=some true):Rows.deadBackRow.holds Tryz.pinned (OpenSpec.ofChange Rows.deadBackSpec):=
  OpenClaim.holds_of_wide 4 Tryz.f4 rfl rfl rfl rfl rfl rfl rfl ⟨rfl,rfl,rfl,rfl,rfl⟩ rfl rfl rfl rfl rfl (by kernel_rfl) Tryz.func4 (by kernel_rfl)
    (of_decide_eq_true (by kernel_rfl)) (by unfold Func.isWrapper;first|(rw[if_pos (by decide+kernel)];kernel_rfl)|(rw[if_neg (by decide+kernel)];exact⟨rfl,rfl⟩))
    (λos started H enc _=>lifted plain os started H enc)
end deadBack
theorem deadBack_holds:Rows.DeadBackSaid:=deadBack.over law_DeadBack'
end Go.Proofs.YtgiefadcpnegcaaGreat
