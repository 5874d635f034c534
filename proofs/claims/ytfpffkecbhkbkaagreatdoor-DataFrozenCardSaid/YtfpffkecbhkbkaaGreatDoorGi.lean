import Derived.Test.YtfpffkecbhkbkaaGreatDoorOwMf
import Derived.Test.YtfpffkecbhkbkaaGreatDoorW2
/- what is proved here: the iterators' contracts by value. -/
set_option linter.unusedSimpArgs false
set_option linter.unusedVariables false
namespace Go.Proofs.YtfpffkecbhkbkaaGreatDoor
open Go Go.Ow Go.Pv Go.RowKit Go.Proofs
set_option maxRecDepth 20000
theorem ZJW:ItOk Tryz.prog 156 ⟨ZCd .w8,1,[.d (.sl .w8) []],fun(x:List UInt8×Int) _ _ b s=>Zp x.1 x.2 b s⟩:=
  ZH5 E156 (λm N=>rfl) (λy=>rfl) (λm N h H v a c h1 h2 h3=>DX m N h H h1 h2 h3)
theorem ZJU:ItOk Tryz.prog 180 ⟨ZCd (.st .Ptr),1,[.d (.sl (.st .Ptr)) []],fun(x:List Ptr×Int) _ _ b s=>Zp x.1 x.2 b s⟩:=
  ZH5 (Z2 Tryz.func180 (by kernel_rfl) (by kernel_rfl)) (λm N=>rfl) (λy=>rfl) (λm N h H v a c h1 h2 h3=>ZA7 m N h H h1 h2 h3)
theorem ZJV:ItOk Tryz.prog 60 ⟨ZCd .i,1,[.d (.sl .i) []],fun(x:List Int×Int) _ _ b s=>Zp x.1 x.2 b s⟩:=
  ZH5 (Z2 Tryz.func60 (by kernel_rfl) (by kernel_rfl)) (λm N=>rfl) (λy=>rfl) (λm N h H v a c h1 h2 h3=>ZA6 m N h H h1 h2 h3)
theorem ZOx:ItOk Tryz.prog 218 ⟨ZRV,2,[.d .i [],.d .w8 []],fun(x:List UInt8) _ _ a s=>backR x a s⟩:=
  ZTi E218 (λm H v b h1 h2=>GZ m H h1 h2)
end Go.Proofs.YtfpffkecbhkbkaaGreatDoor
