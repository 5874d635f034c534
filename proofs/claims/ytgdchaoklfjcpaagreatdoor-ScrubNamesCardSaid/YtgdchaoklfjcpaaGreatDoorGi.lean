import Derived.Test.YtgdchaoklfjcpaaGreatDoorOwMf
import Derived.Test.YtgdchaoklfjcpaaGreatDoorW2
/- Proved: the iterators' contracts by value. -/
set_option linter.unusedSimpArgs false
set_option linter.unusedVariables false
namespace Go.Proofs.YtgdchaoklfjcpaaGreatDoor
open Go Go.Ow Go.Pv Go.RowKit Go.Proofs
set_option maxRecDepth 20000
theorem ZI8:ItOk Tryz.prog 131 ⟨ZCP .w8,1,[.d (.sl .w8) []],fun(x:List UInt8×Int) _ _ b s=>Y4 x.1 x.2 b s⟩:=
 ZHo E131 (λm N=>rfl) (λy=>rfl) λm N h H v a c h1 h2 h3=>DM m N h H h1 h2 h3
theorem ZI6:ItOk Tryz.prog 226 ⟨ZCP<|.st .Ptr,1,[.d (.sl<|.st .Ptr) []],fun(x:List Ptr×Int) _ _ b s=>Y4 x.1 x.2 b s⟩:=
 ZHo (ZQ Tryz.func226 (by kernel_rfl) rfl) (λm N=>rfl) (λy=>rfl) λm N h H v a c h1 h2 h3=>ZAm m N h H h1 h2 h3
theorem ZI7:ItOk Tryz.prog 143 ⟨ZCP .i,1,[.d (.sl .i) []],fun(x:List Int×Int) _ _ b s=>Y4 x.1 x.2 b s⟩:=
 ZHo (ZQ Tryz.func143 (by kernel_rfl) rfl) (λm N=>rfl) (λy=>rfl) λm N h H v a c h1 h2 h3=>ZAl m N h H h1 h2 h3
theorem ZNk:ItOk Tryz.prog 181 ⟨ZPt,2,[.d .i [],.d .w8 []],fun(x:List UInt8) _ _ a s=>backR x a s⟩:=
 ZRg E181 λm H v b h1 h2=>GB m H h1 h2
end Go.Proofs.YtgdchaoklfjcpaaGreatDoor
