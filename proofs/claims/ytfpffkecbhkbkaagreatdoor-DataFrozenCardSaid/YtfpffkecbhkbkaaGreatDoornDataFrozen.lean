import Derived.Test.YtfpffkecbhkbkaaGreatDoorRows
import Derived.Test.YtfpffkecbhkbkaaGreatDoorK4
import Derived.Test.YtfpffkecbhkbkaaGreatDoorOwMh
import Derived.Test.YtfpffkecbhkbkaaGreatDoorJDataFrozen
import Derived.ProofKit
import Derived.LaidMore
import Derived.OpenShut
import Derived.Stop.Joined
import Derived.SevenTiedAt
import Derived.Lay
import Derived.MakeChecks
import Derived.Test.YtfpffkecbhkbkaaGreatDoorTie
import Derived.Test.YtfpffkecbhkbkaaGreatDoorCards
/-
  What is proved here: from the plain law to the given statement: it is true of every input, and leaves it as it was. No condition.
-/
set_option linter.unusedSimpArgs false
set_option linter.unusedVariables false
namespace Go.Proofs.YtfpffkecbhkbkaaGreatDoor
open Go.ChangeShapes Go.WideShapes Go.ChangeAt Go.RowKit Go.Ow
theorem knob:ownKnob Tryz.prog.godebug=none:=by kernel_rfl
theorem laid:laidOutB Tryz.prog=true:=by kernel_rfl
def bulk (H:Type):Bulk H where
  one:=Rows.uptoBulk
  all:=Rows.uptoBulkAll
  hstr l:=by simp[Rows.uptoBulk]
  hsl a b:=by simp[Rows.uptoBulk]
  hagg a:=by simp[Rows.uptoBulk]
  hnil:=by simp[Rows.uptoBulkAll]
  hcons d r:=by simp[Rows.uptoBulkAll]
  hone d:=by
    cases d with
    |lit l=>cases l<;>simp[Rows.uptoBulk]
    |nil=>simp[Rows.uptoBulk]
    |ptr d=>simp[Rows.uptoBulk]
    |slice c s=>simp[Rows.uptoBulk]
    |agg p=>simp[Rows.uptoBulk]
    |iface t d=>simp[Rows.uptoBulk]
    |map e=>simp[Rows.uptoBulk]
    |held h=>simp[Rows.uptoBulk]
section
variable{H:Type}{enc:TypeId×Value→H}{W:World}
theorem VV:Tryz.prog.cellsOf 3=1:=by kernel_rfl
theorem BT:Tryz.prog.cellsOf 5=1:=by kernel_rfl
theorem ZKp:Tryz.prog.cellsOf 22=1:=by kernel_rfl
theorem ZTW:Tryz.prog.cellsOf 23=1:=by kernel_rfl
theorem ZO7:Tryz.prog.cellsOf 25=2:=by kernel_rfl
theorem ZAx:Tryz.prog.cellsOf 26=1:=by kernel_rfl
theorem WJ:Tryz.prog.cellsOf 27=1:=by kernel_rfl
theorem ZO6:Tryz.prog.cellsOf 29=5:=by kernel_rfl
theorem ZDu:Tryz.prog.cellsOf 31=5:=by kernel_rfl
theorem ZTV:Tryz.prog.cellsOf 32=1:=by kernel_rfl
theorem ZTU:Tryz.prog.cellsOf 33=1:=by kernel_rfl
theorem ZTT:Tryz.prog.cellsOf 34=1:=by kernel_rfl
theorem ZTS:Tryz.prog.cellsOf 36=19:=by kernel_rfl
theorem ZTR:Tryz.prog.cellsOf 39=1:=by kernel_rfl
theorem ZO5:Tryz.prog.cellsOf 41=13:=by kernel_rfl
theorem ZO4:Tryz.prog.cellsOf 55=12:=by kernel_rfl
theorem ZMu:Tryz.prog.cellsOf 105=2:=by kernel_rfl
theorem ZVG:1≤Tryz.prog.bytesOf 3:=TP (by kernel_rfl)
theorem ZEv:1≤Tryz.prog.bytesOf 5:=TP (by kernel_rfl)
theorem ZKq:1≤Tryz.prog.bytesOf 26:=TP (by kernel_rfl)
theorem ZTZ:1≤Tryz.prog.bytesOf 31:=TP (by kernel_rfl)
theorem ZTY:1≤Tryz.prog.bytesOf 41:=TP (by kernel_rfl)
theorem ZTX:1≤Tryz.prog.bytesOf 55:=TP (by kernel_rfl)
theorem ZRz:1≤Tryz.prog.bytesOf 105:=TP (by kernel_rfl)
theorem ZDE:Reads enc Tryz.prog W (bulk H) 31 R_Ptr 5 ZKr GB:=
  ZPg Tryz.underlying31 ZDu rfl
    ⟨rfl,rfl,VV⟩ (Yg Tryz.underlying3)
    ⟨rfl,rfl,WJ⟩ (QI Tryz.underlying27)
    ⟨rfl,rfl,WJ⟩ (QI Tryz.underlying27)
    ⟨rfl,rfl,WJ⟩ (QI Tryz.underlying27)
    ⟨rfl,rfl,WJ⟩ (QI Tryz.underlying27)
theorem ZPh:ReadsF enc Tryz.prog W 105 R_Write 2 ZAt:=
  ZKA Tryz.underlying105 ZMu rfl rfl
    ⟨rfl,rfl,VV⟩ (Reads.f (B:=bulk H) (Yg Tryz.underlying3))
    ⟨rfl,rfl,ZAx⟩ (Yh Tryz.underlying26 BT (by decide) ZEv (Reads.f (B:=bulk H) (KA Tryz.underlying5)))
theorem ZQu:ReadsF enc Tryz.prog W 25 R_Disk 2 ZDk:=
  ZLX Tryz.underlying25 ZO7 rfl rfl
    ⟨rfl,rfl,ZKp⟩ (Yh Tryz.underlying22 ZAx (by decide) ZKq (Yh Tryz.underlying26 BT (by decide) ZEv (Reads.f (B:=bulk H) (KA Tryz.underlying5))))
    ⟨rfl,rfl,ZTW⟩ (Yh Tryz.underlying23 ZMu (by decide) ZRz ZPh)
theorem ZQt:ReadsF enc Tryz.prog W 29 R_Store 5 ZAu:=
  ZKB Tryz.underlying29 ZO6 rfl rfl
    ⟨rfl,rfl,ZO7⟩ ZQu
    ⟨rfl,rfl,ZAx⟩ (Yh Tryz.underlying26 BT (by decide) ZEv (Reads.f (B:=bulk H) (KA Tryz.underlying5)))
    ⟨rfl,rfl,WJ⟩ (Reads.f (B:=bulk H) (QI Tryz.underlying27))
    ⟨rfl,rfl,WJ⟩ (Reads.f (B:=bulk H) (QI Tryz.underlying27))
theorem ZQr:ReadsF enc Tryz.prog W 41 R_Line 13 ZDj:=
  ZLW Tryz.underlying41 ZO5 rfl rfl
    ⟨rfl,rfl,VV⟩ (Reads.f (B:=bulk H) (Yg Tryz.underlying3))
    ⟨rfl,rfl,BT⟩ (Reads.f (B:=bulk H) (KA Tryz.underlying5))
    ⟨rfl,rfl,VV⟩ (Reads.f (B:=bulk H) (Yg Tryz.underlying3))
    ⟨rfl,rfl,VV⟩ (Reads.f (B:=bulk H) (Yg Tryz.underlying3))
    ⟨rfl,rfl,WJ⟩ (Reads.f (B:=bulk H) (QI Tryz.underlying27))
    ⟨rfl,rfl,WJ⟩ (Reads.f (B:=bulk H) (QI Tryz.underlying27))
    ⟨rfl,rfl,VV⟩ (Reads.f (B:=bulk H) (Yg Tryz.underlying3))
    ⟨rfl,rfl,ZDu⟩ (Reads.f (B:=bulk H) ZDE)
    ⟨rfl,rfl,ZTR⟩ (Yh Tryz.underlying39 ZDu (by decide) ZTZ (Reads.f (B:=bulk H) ZDE))
theorem ZQq:ReadsF enc Tryz.prog W 55 R_Change 12 BP:=
  ZIW Tryz.underlying55 ZO4 rfl rfl
    ⟨rfl,rfl,VV⟩ (Reads.f (B:=bulk H) (Yg Tryz.underlying3))
    ⟨rfl,rfl,VV⟩ (Reads.f (B:=bulk H) (Yg Tryz.underlying3))
    ⟨rfl,rfl,VV⟩ (Reads.f (B:=bulk H) (Yg Tryz.underlying3))
    ⟨rfl,rfl,BT⟩ (Reads.f (B:=bulk H) (KA Tryz.underlying5))
    ⟨rfl,rfl,VV⟩ (Reads.f (B:=bulk H) (Yg Tryz.underlying3))
    ⟨rfl,rfl,VV⟩ (Reads.f (B:=bulk H) (Yg Tryz.underlying3))
    ⟨rfl,rfl,ZAx⟩ (Yh Tryz.underlying26 BT (by decide) ZEv (Reads.f (B:=bulk H) (KA Tryz.underlying5)))
    ⟨rfl,rfl,ZDu⟩ (Reads.f (B:=bulk H) ZDE)
theorem ZQs:ReadsF enc Tryz.prog W 36 R_Pool 19 D2:=
  ZLV Tryz.underlying36 ZTS rfl rfl
    ⟨rfl,rfl,ZO6⟩ ZQt
    ⟨rfl,rfl,WJ⟩ (Reads.f (B:=bulk H) (QI Tryz.underlying27))
    ⟨rfl,rfl,ZDu⟩ (Reads.f (B:=bulk H) ZDE)
    ⟨rfl,rfl,ZTV⟩ (Yh Tryz.underlying32 VV (by decide) ZVG (Reads.f (B:=bulk H) (Yg Tryz.underlying3)))
    ⟨rfl,rfl,ZTU⟩ (Yh Tryz.underlying33 ZO5 (by decide) ZTY ZQr)
    ⟨rfl,rfl,ZKp⟩ (Yh Tryz.underlying22 ZAx (by decide) ZKq (Yh Tryz.underlying26 BT (by decide) ZEv (Reads.f (B:=bulk H) (KA Tryz.underlying5))))
    ⟨rfl,rfl,ZKp⟩ (Yh Tryz.underlying22 ZAx (by decide) ZKq (Yh Tryz.underlying26 BT (by decide) ZEv (Reads.f (B:=bulk H) (KA Tryz.underlying5))))
    ⟨rfl,rfl,ZTT⟩ (Yh Tryz.underlying34 ZO4 (by decide) ZTX ZQq)
    ⟨rfl,rfl,VV⟩ (Reads.f (B:=bulk H) (Yg Tryz.underlying3))
    ⟨rfl,rfl,VV⟩ (Reads.f (B:=bulk H) (Yg Tryz.underlying3))
    ⟨rfl,rfl,WJ⟩ (Reads.f (B:=bulk H) (QI Tryz.underlying27))
end
namespace dataFrozen
abbrev ZHW : List (String × DataW Unit) := [("unicode/utf8.acceptRanges", Rows.laid_unicode_utf8_acceptRanges), ("unicode/utf8.first", Rows.laid_unicode_utf8_first)]
theorem ZRl (os:Os)(args:Array Value):laidMetH Tryz.prog ZHW ((World.laidAll Tryz.prog os ZHW).forCall (λ_ _=>0) ⟨#[],args,[]⟩).memory:=by
  rw[MakeChecks.laidMetH_plain _ _ _ (by kernel_rfl)];exact laidMet_laidAll _ (by kernel_rfl) (by kernel_rfl)
theorem ZMi (os:Os):(World.laidAll Tryz.prog os ZHW).Shaped Tryz.prog:=World.shaped_of_ZipB (by kernel_rfl) (by kernel_rfl)
set_option maxRecDepth 100000 in
theorem ZU1 (d:∀(m:Pool) (x:Int) (e:Int) (f:Int) (o:List UInt8) (n:UInt8) (g:Int) (z0:D2 m) (z1:InI64 x) (z2:InI64 e) (z3:InI64 f) (z6:InI64 g),law20_DataFrozen m x e f o n g=some true)(os:Os)(s:os.Started)(H:Type)(enc:TypeId×Value→H):
    ReturnsInHanded {} Tryz.checked os 3 .any (λw args=>(Rows.dataFrozenSpec.pre enc Tryz.prog Tryz.f3 [] false w args∧laidMetH Tryz.prog ZHW w)∧sizedMet enc Tryz.prog Tryz.f3 (OpenSpec.ofChange Rows.dataFrozenSpec) false w args)
      (Rows.dataFrozenSpec.post enc Tryz.prog Tryz.f3 false true false false):=by
  refine returnsInHanded_of_change_and (C:=Tryz.checked) (X:=λw _=>laidMetH Tryz.prog ZHW w) (λ_ _ _ V h=>h.of_heap V) knob s (by kernel_rfl) Tryz.func3
    (ChangeSpec.witness_shaped (enc:=enc) (C:=Tryz.checked) (os:=os) (X:=λw _=>laidMetH Tryz.prog ZHW w) false (World.laidAll Tryz.prog os ZHW) #[.agg #[.slice none 0 0,.slice none 0 0,.slice none 0 0,.int .u32 0,.int .u32 0,.int .u32 0,.int .i64 0,.int .u32 0,.int .u32 0,.int .u32 0,.int .u32 0,.slice none 0 0,.slice none 0 0,.slice none 0 0,.slice none 0 0,.slice none 0 0,.int .i64 0,.int .i64 0,.int .u32 0],.int .i64 0,.int .i64 0,.int .i64 0,.slice none 0 0,.int .u8 0,.int .i64 0] 8 (World.laidAll_os _ _ _) (ZMi os) (by kernel_rfl) (by kernel_rfl) (by kernel_rfl) (ZRl os _)) ?_
  intro W base args ds gs A l L M r _ _;have a:∀(j:Nat) t v,Tryz.f3.params[j]? =some t→args[j]? =some v→Value.okWide Tryz.prog W .any base t v:=l;have D:=L;obtain⟨p,q,E,Y,rfl,Z,hnd⟩:=L;have N:DataW.TrodAll enc Tryz.prog W 0 (λ_=>true) true Tryz.f3.params.toList args.toList ds p:=E;rw[Tryz.params3]at N a;obtain⟨O,vs0,d0,ds0,p0,q0,F,rfl,rfl,h0,r0⟩:=trodAll_cons N;obtain⟨P,vs1,d1,ds1,p1,q1,rfl,rfl,rfl,h1,r1⟩:=trodAll_cons r0;obtain⟨Q,vs2,d2,ds2,p2,q2,rfl,rfl,rfl,h2,r2⟩:=trodAll_cons r1;obtain⟨R,vs3,d3,ds3,p3,q3,rfl,rfl,rfl,h3,r3⟩:=trodAll_cons r2;obtain⟨S,vs4,d4,ds4,p4,q4,rfl,rfl,rfl,h4,r4⟩:=trodAll_cons r3;obtain⟨T,vs5,d5,ds5,p5,q5,rfl,rfl,rfl,h5,r5⟩:=trodAll_cons r4;obtain⟨U,vs6,d6,ds6,p6,q6,rfl,rfl,rfl,h6,r6⟩:=trodAll_cons r5;obtain⟨rfl,rfl,rfl⟩:=trodAll_nil r6;obtain rfl:args= #[O,P,Q,R,S,T,U]:=by cases args;simp_all
  obtain⟨rfl,rfl⟩:=trodVars_none Y;have c:FitsEach Tryz.prog [36,3,3,3,26,5,3] [d0,d1,d2,d3,d4,d5,d6]:=by rw[Tryz.params3]at r;exact r
  obtain⟨F0,c⟩:=ZJ c;obtain⟨F1,c⟩:=ZJ c;obtain⟨F2,c⟩:=ZJ c;obtain⟨F3,c⟩:=ZJ c;obtain⟨F4,c⟩:=ZJ c;obtain⟨F5,c⟩:=ZJ c;obtain⟨F6,c⟩:=ZJ c;obtain⟨G,rfl,m,s0,k0⟩:=ZMx Tryz.underlying36 ZQs (a 0 36 O rfl rfl) h0 F0;obtain⟨x,rfl,k1⟩:=ZGa Tryz.underlying3 (a 1 3 P rfl rfl) h1;obtain⟨e,rfl,k2⟩:=ZGa Tryz.underlying3 (a 2 3 Q rfl rfl) h2;obtain⟨f,rfl,k3⟩:=ZGa Tryz.underlying3 (a 3 3 R rfl rfl) h3;obtain⟨J,n4,c4,rfl,o,s4,-,k4⟩:=ZP4 (B:=bulk H) Tryz.underlying26 BT (by decide) (KA Tryz.underlying5) (a 4 26 S rfl rfl) h4;obtain⟨n,rfl⟩:=ZVK (bulk H) Tryz.underlying5 (a 5 5 T rfl rfl) h5;obtain⟨g,rfl,k6⟩:=ZGa Tryz.underlying3 (a 6 3 U rfl rfl) h6;have hD:=Pv.Kf.use ZCW rfl rfl (I:=Pv.argI (HW W)) (us:=[.agg G,.int .i64 x,.int .i64 e,.int .i64 f,.slice J n4 c4,.int .u8 (n.toNat:Int),.int .i64 g]) (cs:=[.ag (Pv.stC .Pool m),.i x,.i e,.i f,.sl .w8 o,.w8 n,.i g]) (co:=[.b true]) (z:=(m,x,e,f,o,n,g)) (y:=true) (Pv.VRs.cons (Pv.agg_ok (k:=.Pool) s0) (Pv.VRs.cons (by simp only[Pv.VR]) (Pv.VRs.cons (by simp only[Pv.VR]) (Pv.VRs.cons (by simp only[Pv.VR]) (Pv.VRs.cons (Pv.slice_ok (t:=.w8) s4) (Pv.VRs.cons (by simp only[Pv.VR]) (Pv.VRs.cons (by simp only[Pv.VR]) (Pv.VRs.nil)))))))) (by kernel_rfl) (d m x e f o n g k0 k1 k2 k3 k6) (by kernel_rfl);exact ZPm (tb:=4) laid (by kernel_rfl) (by kernel_rfl) Tryz.underlying4 rfl D rfl hD (λu K H' h=>Pv.true_of h)
theorem over (p:∀(x:Pool) (a:Int) (b:Int) (c:Int) (e:List UInt8) (f:UInt8) (d:Int) (z:D2 x) (g:InI64 a) (h:InI64 b) (i:InI64 c) (j:InI64 d),law20_DataFrozen x a b c e f d=some true):Rows.dataFrozenRow.holds Tryz.pinned (OpenSpec.ofChange Rows.dataFrozenSpec):=
  OpenClaim.holds_of_wide 3 Tryz.f3 rfl rfl rfl rfl rfl rfl rfl ⟨rfl,rfl,rfl,rfl,rfl⟩ rfl rfl rfl rfl rfl namedJ Tryz.func3 ZTP instJ wrapJ
    (λos s H enc _=>ZU1 p os s H enc)
end dataFrozen
theorem dataFrozen_holds:Rows.DataFrozenSaid:=dataFrozen.over (λp id n k b kind s h _ _ _ _=>law_DataFrozen p id n k b kind s (ZTG h))
end Go.Proofs.YtfpffkecbhkbkaaGreatDoor
