import Derived.Test.YtooeopogefefiaaGreatDoorOwMf
import Derived.Test.YtooeopogefefiaaGreatDoorW2
/- what is proved here: the iterators' contracts by value. -/
set_option linter.unusedSimpArgs false
set_option linter.unusedVariables false
namespace Go.Proofs.YtooeopogefefiaaGreatDoor
open Go Go.Ow Go.Pv Go.RowKit Go.Proofs
set_option maxRecDepth 20000
theorem ZJP:ItOk Tryz.prog 141 ⟨ZC6 .w8,1,[.d (.sl .w8) []],fun(x:List UInt8×Int) _ _ b s=>chunkR x.1 x.2 b s⟩:=
  ZIA E141 (λm N=>rfl) (λy=>rfl) (λm N h H v a c h1 h2 h3=>Dv m N h H h1 h2 h3)
theorem ZJN:ItOk Tryz.prog 169 ⟨ZC6 (.st .Ptr),1,[.d (.sl (.st .Ptr)) []],fun(x:List Ptr×Int) _ _ b s=>chunkR x.1 x.2 b s⟩:=
  ZIA (Z2 Tryz.func169 (by kernel_rfl) (by kernel_rfl)) (λm N=>rfl) (λy=>rfl) (λm N h H v a c h1 h2 h3=>ZBc m N h H h1 h2 h3)
theorem ZJO:ItOk Tryz.prog 112 ⟨ZC6 .i,1,[.d (.sl .i) []],fun(x:List Int×Int) _ _ b s=>chunkR x.1 x.2 b s⟩:=
  ZIA (Z2 Tryz.func112 (by kernel_rfl) (by kernel_rfl)) (λm N=>rfl) (λy=>rfl) (λm N h H v a c h1 h2 h3=>ZBb m N h H h1 h2 h3)
theorem ZOh:ItOk Tryz.prog 226 ⟨ZRR,2,[.d .i [],.d .w8 []],fun(x:List UInt8) _ _ a s=>backR x a s⟩:=
  ZTS E226 (λm H v b h1 h2=>Gh m H h1 h2)
end Go.Proofs.YtooeopogefefiaaGreatDoor
