import Derived.Test.YtooeopogefefiaaGreatDoorRows
import Derived.Test.YtooeopogefefiaaGreatDoorK4
import Derived.Test.YtooeopogefefiaaGreatDoorOwMh
import Derived.Test.YtooeopogefefiaaGreatDoorJSnapRefuses
import Derived.ProofKit
import Derived.LaidMore
import Derived.OpenShut
import Derived.Stop.Joined
import Derived.SevenTiedAt
import Derived.Lay
import Derived.MakeChecks
import Derived.Test.YtooeopogefefiaaGreatDoorTie
import Derived.Test.YtooeopogefefiaaGreatDoorCards
/-
  What is proved here: from the plain law to the given statement: it is true of every input, and leaves it as it was. No condition.
-/
set_option linter.unusedSimpArgs false
set_option linter.unusedVariables false
namespace Go.Proofs.YtooeopogefefiaaGreatDoor
open Go.ChangeShapes Go.WideShapes Go.ChangeAt Go.RowKit Go.Ow
theorem knob:ownKnob Tryz.prog.godebug=none:=by kernel_rfl
theorem laid:laidOutB Tryz.prog=true:=by kernel_rfl
def bulk (H:Type):Bulk H where
  one:=Rows.uptoBulk
  all:=Rows.uptoBulkAll
  hstr l:=by simp[Rows.uptoBulk]
  hsl a b:=by simp[Rows.uptoBulk]
  hagg a:=by simp[Rows.uptoBulk]
  hnil:=by simp[Rows.uptoBulkAll]
  hcons d r:=by simp[Rows.uptoBulkAll]
  hone d:=by
    cases d with
    |lit l=>cases l<;>simp[Rows.uptoBulk]
    |nil=>simp[Rows.uptoBulk]
    |ptr d=>simp[Rows.uptoBulk]
    |slice c s=>simp[Rows.uptoBulk]
    |agg p=>simp[Rows.uptoBulk]
    |iface t d=>simp[Rows.uptoBulk]
    |map e=>simp[Rows.uptoBulk]
    |held h=>simp[Rows.uptoBulk]
section
variable{H:Type}{enc:TypeId×Value->H}{W:World}
theorem VW:Tryz.prog.cellsOf 3=1:=by kernel_rfl
theorem ZAg:Tryz.prog.cellsOf 5=1:=by kernel_rfl
theorem ZKk:Tryz.prog.cellsOf 22=1:=by kernel_rfl
theorem ZTJ:Tryz.prog.cellsOf 23=1:=by kernel_rfl
theorem ZOr:Tryz.prog.cellsOf 25=2:=by kernel_rfl
theorem ZBR:Tryz.prog.cellsOf 26=1:=by kernel_rfl
theorem WL:Tryz.prog.cellsOf 27=1:=by kernel_rfl
theorem ZOq:Tryz.prog.cellsOf 29=5:=by kernel_rfl
theorem ZEF:Tryz.prog.cellsOf 31=5:=by kernel_rfl
theorem ZTI:Tryz.prog.cellsOf 32=1:=by kernel_rfl
theorem ZTH:Tryz.prog.cellsOf 33=1:=by kernel_rfl
theorem ZTG:Tryz.prog.cellsOf 34=1:=by kernel_rfl
theorem ZTF:Tryz.prog.cellsOf 36=19:=by kernel_rfl
theorem ZTE:Tryz.prog.cellsOf 39=1:=by kernel_rfl
theorem ZOp:Tryz.prog.cellsOf 41=13:=by kernel_rfl
theorem ZOo:Tryz.prog.cellsOf 57=12:=by kernel_rfl
theorem ZMi:Tryz.prog.cellsOf 117=2:=by kernel_rfl
theorem ZU7:1<=Tryz.prog.bytesOf 3:=TN (by kernel_rfl)
theorem ZE7:1<=Tryz.prog.bytesOf 5:=TN (by kernel_rfl)
theorem ZKl:1<=Tryz.prog.bytesOf 26:=TN (by kernel_rfl)
theorem ZTM:1<=Tryz.prog.bytesOf 31:=TN (by kernel_rfl)
theorem ZTL:1<=Tryz.prog.bytesOf 41:=TN (by kernel_rfl)
theorem ZTK:1<=Tryz.prog.bytesOf 57:=TN (by kernel_rfl)
theorem ZRu:1<=Tryz.prog.bytesOf 117:=TN (by kernel_rfl)
theorem ZDZ:Reads enc Tryz.prog W (bulk H) 31 R_Ptr 5 ZKm GE:=
  ZPT Tryz.underlying31 ZEF rfl
    ⟨rfl,rfl,VW⟩ (Yo Tryz.underlying3)
    ⟨rfl,rfl,WL⟩ (QU Tryz.underlying27)
    ⟨rfl,rfl,WL⟩ (QU Tryz.underlying27)
    ⟨rfl,rfl,WL⟩ (QU Tryz.underlying27)
    ⟨rfl,rfl,WL⟩ (QU Tryz.underlying27)
theorem ZPU:ReadsF enc Tryz.prog W 117 R_Write 2 ZBO:=
  ZJ5 Tryz.underlying117 ZMi rfl rfl
    ⟨rfl,rfl,VW⟩ (Reads.f (B:=bulk H) (Yo Tryz.underlying3))
    ⟨rfl,rfl,ZBR⟩ (Yp Tryz.underlying26 ZAg (by decide) ZE7 (Reads.f (B:=bulk H) (WY Tryz.underlying5)))
theorem ZQt:ReadsF enc Tryz.prog W 25 R_Disk 2 ZD1:=
  ZLS Tryz.underlying25 ZOr rfl rfl
    ⟨rfl,rfl,ZKk⟩ (Yp Tryz.underlying22 ZBR (by decide) ZKl (Yp Tryz.underlying26 ZAg (by decide) ZE7 (Reads.f (B:=bulk H) (WY Tryz.underlying5))))
    ⟨rfl,rfl,ZTJ⟩ (Yp Tryz.underlying23 ZMi (by decide) ZRu ZPU)
theorem ZQs:ReadsF enc Tryz.prog W 29 R_Store 5 ZBP:=
  ZJ6 Tryz.underlying29 ZOq rfl rfl
    ⟨rfl,rfl,ZOr⟩ ZQt
    ⟨rfl,rfl,ZBR⟩ (Yp Tryz.underlying26 ZAg (by decide) ZE7 (Reads.f (B:=bulk H) (WY Tryz.underlying5)))
    ⟨rfl,rfl,WL⟩ (Reads.f (B:=bulk H) (QU Tryz.underlying27))
    ⟨rfl,rfl,WL⟩ (Reads.f (B:=bulk H) (QU Tryz.underlying27))
theorem ZQq:ReadsF enc Tryz.prog W 41 R_Line 13 ZD0:=
  ZLR Tryz.underlying41 ZOp rfl rfl
    ⟨rfl,rfl,VW⟩ (Reads.f (B:=bulk H) (Yo Tryz.underlying3))
    ⟨rfl,rfl,ZAg⟩ (Reads.f (B:=bulk H) (WY Tryz.underlying5))
    ⟨rfl,rfl,VW⟩ (Reads.f (B:=bulk H) (Yo Tryz.underlying3))
    ⟨rfl,rfl,VW⟩ (Reads.f (B:=bulk H) (Yo Tryz.underlying3))
    ⟨rfl,rfl,WL⟩ (Reads.f (B:=bulk H) (QU Tryz.underlying27))
    ⟨rfl,rfl,WL⟩ (Reads.f (B:=bulk H) (QU Tryz.underlying27))
    ⟨rfl,rfl,VW⟩ (Reads.f (B:=bulk H) (Yo Tryz.underlying3))
    ⟨rfl,rfl,ZEF⟩ (Reads.f (B:=bulk H) ZDZ)
    ⟨rfl,rfl,ZTE⟩ (Yp Tryz.underlying39 ZEF (by decide) ZTM (Reads.f (B:=bulk H) ZDZ))
theorem ZQp:ReadsF enc Tryz.prog W 57 R_Change 12 Bj:=
  ZIZ Tryz.underlying57 ZOo rfl rfl
    ⟨rfl,rfl,VW⟩ (Reads.f (B:=bulk H) (Yo Tryz.underlying3))
    ⟨rfl,rfl,VW⟩ (Reads.f (B:=bulk H) (Yo Tryz.underlying3))
    ⟨rfl,rfl,VW⟩ (Reads.f (B:=bulk H) (Yo Tryz.underlying3))
    ⟨rfl,rfl,ZAg⟩ (Reads.f (B:=bulk H) (WY Tryz.underlying5))
    ⟨rfl,rfl,VW⟩ (Reads.f (B:=bulk H) (Yo Tryz.underlying3))
    ⟨rfl,rfl,VW⟩ (Reads.f (B:=bulk H) (Yo Tryz.underlying3))
    ⟨rfl,rfl,ZBR⟩ (Yp Tryz.underlying26 ZAg (by decide) ZE7 (Reads.f (B:=bulk H) (WY Tryz.underlying5)))
    ⟨rfl,rfl,ZEF⟩ (Reads.f (B:=bulk H) ZDZ)
theorem ZQr:ReadsF enc Tryz.prog W 36 R_Pool 19 ZAS:=
  ZLQ Tryz.underlying36 ZTF rfl rfl
    ⟨rfl,rfl,ZOq⟩ ZQs
    ⟨rfl,rfl,WL⟩ (Reads.f (B:=bulk H) (QU Tryz.underlying27))
    ⟨rfl,rfl,ZEF⟩ (Reads.f (B:=bulk H) ZDZ)
    ⟨rfl,rfl,ZTI⟩ (Yp Tryz.underlying32 VW (by decide) ZU7 (Reads.f (B:=bulk H) (Yo Tryz.underlying3)))
    ⟨rfl,rfl,ZTH⟩ (Yp Tryz.underlying33 ZOp (by decide) ZTL ZQq)
    ⟨rfl,rfl,ZKk⟩ (Yp Tryz.underlying22 ZBR (by decide) ZKl (Yp Tryz.underlying26 ZAg (by decide) ZE7 (Reads.f (B:=bulk H) (WY Tryz.underlying5))))
    ⟨rfl,rfl,ZKk⟩ (Yp Tryz.underlying22 ZBR (by decide) ZKl (Yp Tryz.underlying26 ZAg (by decide) ZE7 (Reads.f (B:=bulk H) (WY Tryz.underlying5))))
    ⟨rfl,rfl,ZTG⟩ (Yp Tryz.underlying34 ZOo (by decide) ZTK ZQp)
    ⟨rfl,rfl,VW⟩ (Reads.f (B:=bulk H) (Yo Tryz.underlying3))
    ⟨rfl,rfl,VW⟩ (Reads.f (B:=bulk H) (Yo Tryz.underlying3))
    ⟨rfl,rfl,WL⟩ (Reads.f (B:=bulk H) (QU Tryz.underlying27))
end
namespace snapRefuses
abbrev ZHY : List (String × DataW Unit) := [("unicode/utf8.acceptRanges", Rows.laid_unicode_utf8_acceptRanges), ("unicode/utf8.first", Rows.laid_unicode_utf8_first)]
theorem ZRh (os:Os)(args:Array Value):laidMetH Tryz.prog ZHY ((World.laidAll Tryz.prog os ZHY).forCall (λ_ _=>0) ⟨#[],args,[]⟩).memory:=by
  rw[MakeChecks.laidMetH_plain _ _ _ (by kernel_rfl)];exact laidMet_laidAll _ (by kernel_rfl) (by kernel_rfl)
theorem ZMS (os:Os):(World.laidAll Tryz.prog os ZHY).Shaped Tryz.prog:=World.shaped_of_ZipB (by kernel_rfl) (by kernel_rfl)
set_option maxRecDepth 100000 in
theorem ZUq (c:∀(e:Pool) (x:Int) (z0:ZAS e) (z1:InI64 x),law21_SnapRefuses e x=some true)(os:Os)(s:os.Started)(H:Type)(enc:TypeId×Value->H):
    ReturnsInHanded {} Tryz.checked os 3 .any (λw args=>(Rows.snapRefusesSpec.pre enc Tryz.prog Tryz.f3 [] false w args/\laidMetH Tryz.prog ZHY w)/\sizedMet enc Tryz.prog Tryz.f3 (OpenSpec.ofChange Rows.snapRefusesSpec) false w args)
      (Rows.snapRefusesSpec.post enc Tryz.prog Tryz.f3 false true false false):=by
  refine returnsInHanded_of_change_and (C:=Tryz.checked) (X:=λw _=>laidMetH Tryz.prog ZHY w) (λ_ _ _ G h=>h.of_heap G) knob s (by kernel_rfl) Tryz.func3
    (ChangeSpec.witness_shaped (enc:=enc) (C:=Tryz.checked) (os:=os) (X:=λw _=>laidMetH Tryz.prog ZHY w) false (World.laidAll Tryz.prog os ZHY) #[.agg #[.slice none 0 0,.slice none 0 0,.slice none 0 0,.int .u32 0,.int .u32 0,.int .u32 0,.int .i64 0,.int .u32 0,.int .u32 0,.int .u32 0,.int .u32 0,.slice none 0 0,.slice none 0 0,.slice none 0 0,.slice none 0 0,.slice none 0 0,.int .i64 0,.int .i64 0,.int .u32 0],.int .i64 0] 8 (World.laidAll_os _ _ _) (ZMS os) (by kernel_rfl) (by kernel_rfl) (by kernel_rfl) (ZRh os _)) ?_
  intro W base args ds gs g d A B f _ _;have a:∀(j:Nat) t v,Tryz.f3.params[j]? =some t->args[j]? =some v->Value.okWide Tryz.prog W .any base t v:=d;have m:=A;obtain⟨p,q,n,J,rfl,L,M⟩:=A;have D:DataW.TrodAll enc Tryz.prog W 0 (λ_=>true) true Tryz.f3.params.toList args.toList ds p:=n;rw[Tryz.params3]at D a;obtain⟨E,N,O,P,p0,q0,o,rfl,rfl,h0,Q⟩:=trodAll_cons D;obtain⟨F,R,S,T,p1,q1,rfl,rfl,rfl,h1,U⟩:=trodAll_cons Q;obtain⟨rfl,rfl,rfl⟩:=trodAll_nil U;obtain rfl:args= #[E,F]:=by cases args;simp_all
  obtain⟨rfl,rfl⟩:=trodVars_none J;have l:FitsEach Tryz.prog [36,3] [O,S]:=by rw[Tryz.params3]at f;exact f
  obtain⟨V,l⟩:=ZM l;obtain⟨F1,l⟩:=ZM l;obtain⟨r,rfl,e,s0,Y⟩:=ZMk Tryz.underlying36 ZQr (a 0 36 E rfl rfl) h0 V;obtain⟨x,rfl,Z⟩:=ZTT Tryz.underlying3 (a 1 3 F rfl rfl) h1;have hD:=Pv.Kf.use ZBi rfl rfl (I:=Pv.argI (HW W)) (us:=[.agg r,.int .i64 x]) (cs:=[.ag (Pv.stC .Pool e),.i x]) (co:=[.b true]) (z:=(e,x)) (y:=true) (Pv.VRs.cons (Pv.agg_ok (k:=.Pool) s0) (Pv.VRs.cons (by simp only[Pv.VR]) (Pv.VRs.nil))) (by kernel_rfl) (c e x Y Z) (by kernel_rfl);exact ZPb (tb:=4) laid (by kernel_rfl) (by kernel_rfl) Tryz.underlying4 rfl m rfl hD (λu K H' h=>Pv.true_of h)
theorem over (p:∀(x:Pool) (a:Int) (z:ZAS x) (b:InI64 a),law21_SnapRefuses x a=some true):Rows.snapRefusesRow.holds Tryz.pinned (OpenSpec.ofChange Rows.snapRefusesSpec):=
  OpenClaim.holds_of_wide 3 Tryz.f3 rfl rfl rfl rfl rfl rfl rfl ⟨rfl,rfl,rfl,rfl,rfl⟩ rfl rfl rfl rfl rfl namedJ Tryz.func3 ZTC instJ wrapJ
    (λos s H enc _=>ZUq p os s H enc)
end snapRefuses
theorem snapRefuses_holds:Rows.SnapRefusesSaid:=snapRefuses.over (λp id h _=>law_SnapRefuses p id (ZS3 h))
end Go.Proofs.YtooeopogefefiaaGreatDoor
