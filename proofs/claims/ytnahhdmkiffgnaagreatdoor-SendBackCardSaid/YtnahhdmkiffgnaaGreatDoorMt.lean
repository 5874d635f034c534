import Derived.Test.YtnahhdmkiffgnaaGreatDoorNb
import Derived.Test.YtnahhdmkiffgnaaGreatDoorEv1
import Derived.KernelRfl
/-
  What is proved here: what the function tree of package sign answers for the seed of the examples, by value; it is computed at once from here on.
-/
set_option linter.unusedVariables false
namespace Go.Proofs.YtnahhdmkiffgnaaGreatDoor
open Go Go.Ow Go.RowKit Go.Proofs Go.Ev
noncomputable def more (f0:FuncId) (g:Phi) (N:Nat1):Nat1:=λf=>Bool.rec (N f) (some g) (Nat.beq f f0)
theorem more_ok{P:Program}{f0:FuncId}{g0:Phi}{N:Nat1}(h0:SFn P f0 g0)(hN:∀f g,N f=some g→SFn P f g)(f:FuncId)(g:Phi)(e:more f0 g0 N f=some g):SFn P f g:=by
  rcases bb_some (show(Bool.rec (N f) (some g0) (Nat.beq f f0):Option Phi)=some g from e)with⟨h1,h2⟩|⟨_,h2⟩
  · cases h2
    rw[Nat.eq_of_beq_eq_true h1];exact h0
  · exact hN f g h2
def seedA:List TV:=[.d (.s 16 1 (ib .u8 [97,32,115,101,101,100,32,111,102,32,115,105,120,116,101,101] 0))]
def treeT:List TV:=[.d (.s 4 1 ([(.s 8 1 ([(.s 16 1 (ib .u8 [172,125,66,208,248,34,30,55,13,200,240,138,187,189,27,112] 0)),(.s 16 1 (ib .u8 [244,149,247,92,169,170,134,229,120,206,236,39,85,207,146,100] 0)),(.s 16 1 (ib .u8 [73,122,254,240,177,92,36,107,165,159,29,132,126,184,215,69] 0)),(.s 16 1 (ib .u8 [92,159,63,104,1,12,8,67,104,84,69,1,99,118,210,130] 0)),(.s 16 1 (ib .u8 [186,57,140,144,1,226,229,246,94,2,145,173,4,188,167,127] 0)),(.s 16 1 (ib .u8 [243,178,166,116,6,141,170,28,156,244,177,128,134,128,40,109] 0)),(.s 16 1 (ib .u8 [56,85,147,205,205,36,11,37,114,78,244,28,5,167,38,32] 0)),(.s 16 1 (ib .u8 [209,132,167,175,13,157,227,23,211,4,9,241,166,225,214,68] 0))])),(.s 4 1 ([(.s 16 1 (ib .u8 [64,180,5,22,59,106,46,168,113,112,46,157,170,156,248,55] 0)),(.s 16 1 (ib .u8 [192,66,226,23,238,63,127,175,253,95,131,90,133,220,155,124] 0)),(.s 16 1 (ib .u8 [251,109,13,205,136,43,95,142,200,41,220,95,100,89,45,24] 0)),(.s 16 1 (ib .u8 [159,58,127,152,243,236,126,9,112,16,16,56,86,206,94,153] 0))])),(.s 2 1 ([(.s 16 1 (ib .u8 [160,180,131,26,60,254,192,208,79,15,156,80,156,163,61,170] 0)),(.s 16 1 (ib .u8 [56,129,206,132,221,254,146,37,33,226,78,14,178,244,81,122] 0))])),(.s 1 1 ([(.s 16 1 (ib .u8 [153,138,120,9,26,74,38,241,78,57,220,21,165,148,64,252] 0))]))])),
  .d (vi .i64 0)]
theorem tree_is:lyTs seedA ⟨full 2,0⟩ (λvs h=>rdRo Tryz.prog ((ev Tryz.prog nats gOf 100000).f 98 vs h))=some treeT:=by kernel_rfl
noncomputable def natm:Nat1:=more 98 (nM Tryz.prog seedA treeT) nats
theorem natm_ok (f:FuncId)(g:Phi)(e:natm f=some g):SFn Tryz.prog f g:=more_ok (nM_ok mixed enP nats_ok tree_is (en Tryz.func98 rfl)) nats_ok f g e
end Go.Proofs.YtnahhdmkiffgnaaGreatDoor
