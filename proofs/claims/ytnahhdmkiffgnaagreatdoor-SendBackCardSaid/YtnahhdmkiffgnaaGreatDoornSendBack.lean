import Derived.Test.YtnahhdmkiffgnaaGreatDoorRows
import Derived.Test.YtnahhdmkiffgnaaGreatDoorW3
import Derived.Test.YtnahhdmkiffgnaaGreatDoorOwMh
import Derived.Test.YtnahhdmkiffgnaaGreatDoorJSendBack
import Derived.Test.YtnahhdmkiffgnaaGreatDoorOwMi
import Derived.ProofKit
import Derived.LaidMore
import Derived.OpenShut
import Derived.Stop.Joined
import Derived.SevenTiedAt
import Derived.Lay
import Derived.MakeChecks
import Derived.Test.YtnahhdmkiffgnaaGreatDoorTie
import Derived.Test.YtnahhdmkiffgnaaGreatDoorCards
/-
  What is proved here: from the plain law to the given statement: it is true of every input, and leaves it as it was. No condition.
-/
set_option linter.unusedSimpArgs false
set_option linter.unusedVariables false
namespace Go.Proofs.YtnahhdmkiffgnaaGreatDoor
open Go.ChangeShapes Go.WideShapes Go.ChangeAt Go.RowKit Go.Ow
theorem knob:ownKnob Tryz.prog.godebug=none:=by kernel_rfl
theorem laid:laidOutB Tryz.prog=true:=by kernel_rfl
def bulk (H:Type):Bulk H where
  one:=Rows.uptoBulk
  all:=Rows.uptoBulkAll
  hstr l:=by simp[Rows.uptoBulk]
  hsl a b:=by simp[Rows.uptoBulk]
  hagg a:=by simp[Rows.uptoBulk]
  hnil:=by simp[Rows.uptoBulkAll]
  hcons d r:=by simp[Rows.uptoBulkAll]
  hone d:=by
    cases d with
    |lit l=>cases l<;>simp[Rows.uptoBulk]
    |nil=>simp[Rows.uptoBulk]
    |ptr d=>simp[Rows.uptoBulk]
    |slice elems spare=>simp[Rows.uptoBulk]
    |agg parts=>simp[Rows.uptoBulk]
    |iface t d=>simp[Rows.uptoBulk]
    |map entries=>simp[Rows.uptoBulk]
    |held h=>simp[Rows.uptoBulk]
section
variable{H:Type}{enc:TypeId×Value→H}{W:World}
theorem cells3:Tryz.prog.cellsOf 3=1:=by kernel_rfl
theorem cells5:Tryz.prog.cellsOf 5=1:=by kernel_rfl
theorem cells22:Tryz.prog.cellsOf 22=1:=by kernel_rfl
theorem cells23:Tryz.prog.cellsOf 23=1:=by kernel_rfl
theorem cells24:Tryz.prog.cellsOf 24=1:=by kernel_rfl
theorem cells26:Tryz.prog.cellsOf 26=5:=by kernel_rfl
theorem cells57:Tryz.prog.cellsOf 57=5:=by kernel_rfl
theorem readsT57:Reads enc Tryz.prog W (bulk H) 57 R_Part 5 big_Part ok_Part:=
  reads_Part Tryz.underlying57 cells57 rfl
    ⟨rfl,rfl,cells3⟩ (reads_int Tryz.underlying3)
    ⟨rfl,rfl,cells3⟩ (reads_int Tryz.underlying3)
    ⟨rfl,rfl,cells22⟩ (reads_u32 Tryz.underlying22)
    ⟨rfl,rfl,cells22⟩ (reads_u32 Tryz.underlying22)
    ⟨rfl,rfl,cells23⟩ (reads_sl Tryz.underlying23 cells5 (by decide) (reads_u8 Tryz.underlying5))
theorem readsT26:Reads enc Tryz.prog W (bulk H) 26 R_Stream 5 big_Stream ok_Stream:=
  reads_Stream Tryz.underlying26 cells26 rfl
    ⟨rfl,rfl,cells22⟩ (reads_u32 Tryz.underlying22)
    ⟨rfl,rfl,cells22⟩ (reads_u32 Tryz.underlying22)
    ⟨rfl,rfl,cells23⟩ (reads_sl Tryz.underlying23 cells5 (by decide) (reads_u8 Tryz.underlying5))
    ⟨rfl,rfl,cells24⟩ (reads_sl Tryz.underlying24 cells57 (by decide) readsT57)
    ⟨rfl,rfl,cells23⟩ (reads_sl Tryz.underlying23 cells5 (by decide) (reads_u8 Tryz.underlying5))
end
namespace sendBack
abbrev laid2 : List (String × DataW Unit) := [("unicode/utf8.acceptRanges", Rows.laid_unicode_utf8_acceptRanges), ("unicode/utf8.first", Rows.laid_unicode_utf8_first)]
theorem door_met (os:Os)(args:Array Value):laidMetH Tryz.prog laid2 ((World.laidAll Tryz.prog os laid2).forCall (λ_ _=>0) ⟨#[],args,[]⟩).memory:=by
  rw[MakeChecks.laidMetH_plain _ _ _ (by kernel_rfl)];exact laidMet_laidAll _ (by kernel_rfl) (by kernel_rfl)
theorem door_shaped (os:Os):(World.laidAll Tryz.prog os laid2).Shaped Tryz.prog:=World.shaped_of_ZipB (by kernel_rfl) (by kernel_rfl)
set_option maxRecDepth 100000 in
theorem lifted (plain:∀(x0:Stream) (x1:List UInt8),law29_SendBack x0 x1=some true)(os:Os)(started:os.Started)(H:Type)(enc:TypeId×Value→H):
    ReturnsInHanded {} Tryz.checked os 3 .any (λw args=>(Rows.sendBackSpec.pre enc Tryz.prog Tryz.f3 [] false w args∧laidMetH Tryz.prog laid2 w)∧sizedMet enc Tryz.prog Tryz.f3 (OpenSpec.ofChange Rows.sendBackSpec) false w args)
      (Rows.sendBackSpec.post enc Tryz.prog Tryz.f3 false true false false):=by
  refine returnsInHanded_of_change_and (C:=Tryz.checked) (X:=λw _=>laidMetH Tryz.prog laid2 w) (λ_ _ _ hh h=>h.of_heap hh) knob started (by kernel_rfl) Tryz.func3
    (ChangeSpec.witness_shaped (enc:=enc) (C:=Tryz.checked) (os:=os) (X:=λw _=>laidMetH Tryz.prog laid2 w) false (World.laidAll Tryz.prog os laid2) #[.agg #[.int .u32 0,.int .u32 0,.slice none 0 0,.slice none 0 0,.slice none 0 0],.slice none 0 0] 8 (World.laidAll_os _ _ _) (door_shaped os) (by kernel_rfl) (by kernel_rfl) (by kernel_rfl) (door_met os _)) ?_
  intro W base args ds gs before hval0 hW _ _ hL _
  have hval:∀(j:Nat) t v,Tryz.f3.params[j]? =some t→args[j]? =some v→Value.okWide Tryz.prog W .any base t v:=hval0
  have hW':=hW
  obtain⟨p,q,hA0,hV,rfl,hfz,hnd⟩:=hW
  have hA:DataW.TrodAll enc Tryz.prog W 0 (λ_=>true) true Tryz.f3.params.toList args.toList ds p:=hA0
  rw[Tryz.params3]at hA hval
  obtain⟨v0,vs0,d0,ds0,p0,q0,hargs,rfl,rfl,h0,r0⟩:=trodAll_cons hA
  obtain⟨v1,vs1,d1,ds1,p1,q1,rfl,rfl,rfl,h1,r1⟩:=trodAll_cons r0
  obtain⟨rfl,rfl,rfl⟩:=trodAll_nil r1
  obtain rfl:args= #[v0,v1]:=by cases args;simp_all
  obtain⟨rfl,rfl⟩:=trodVars_none hV
  obtain⟨cs0,rfl,x0,s0,-,k0⟩:=arg_struct (B:=bulk H) Tryz.underlying26 readsT26 (hval 0 26 v0 rfl rfl) h0
  obtain⟨w0_2,w0_3,w0_4,e0,g0_2,g0_3,g0_4⟩:=s0
  obtain⟨ao0_2,c0_2,rfl⟩:=IsSlice.val g0_2
  obtain⟨ao0_3,c0_3,rfl⟩:=IsSlice.val g0_3
  obtain⟨ao0_4,c0_4,rfl⟩:=IsSlice.val g0_4
  have e0:cs0.toList= [.int .u32 (x0.Guid.toNat:Int),.int .u32 (x0.Base.toNat:Int),.slice ao0_2 (x0.Key).length c0_2,.slice ao0_3 (x0.Parts).length c0_3,.slice ao0_4 (x0.Sign).length c0_4]:=e0
  obtain rfl:cs0= #[.int .u32 (x0.Guid.toNat:Int),.int .u32 (x0.Base.toNat:Int),.slice ao0_2 (x0.Key).length c0_2,.slice ao0_3 (x0.Parts).length c0_3,.slice ao0_4 (x0.Sign).length c0_4]:=Array.toList_inj.1 e0
  obtain⟨ao1,n1,c1,rfl,x1,s1,-,k1⟩:=arg_slice (B:=bulk H) Tryz.underlying23 cells5 (by decide) (reads_u8 Tryz.underlying5) (hval 1 23 v1 rfl rfl) h1
  exact lift_true (tb:=4) laid (by kernel_rfl) (by kernel_rfl) Tryz.underlying4 rfl hW' rfl (law29_SendBack_ok x0 x1 (HW W) g0_2 g0_3 g0_4 s1 true (plain x0 x1)) (λu K H' h=>h.1)
theorem over (plain:∀(x0:Stream) (x1:List UInt8),law29_SendBack x0 x1=some true):Rows.sendBackRow.holds Tryz.pinned (OpenSpec.ofChange Rows.sendBackSpec):=
  OpenClaim.holds_of_wide 3 Tryz.f3 rfl rfl rfl rfl rfl rfl rfl ⟨rfl,rfl,rfl,rfl,rfl⟩ rfl rfl rfl rfl rfl namedJ Tryz.func3 closedJ instJ wrapJ
    (λos started H enc _=>lifted plain os started H enc)
end sendBack
theorem sendBack_holds:Rows.SendBackSaid:=sendBack.over law_SendBack
end Go.Proofs.YtnahhdmkiffgnaaGreatDoor
