import Derived.Test.YtgdchaoklfjcpaaGreatDoorOwMf
import Derived.Test.YtgdchaoklfjcpaaGreatDoorOwSo
import Derived.Test.YtgdchaoklfjcpaaGreatDoorOwMb
import Derived.Test.YtgdchaoklfjcpaaGreatDoorS4
/- Proved: the contract by value of slices.SortFunc at pointers. -/
set_option linter.unusedSimpArgs false
set_option linter.unusedVariables false
namespace Go.Proofs.YtgdchaoklfjcpaaGreatDoor
open Go Go.Ow Go.Pv Go.RowKit Go.Proofs Go.Sort
set_option maxRecDepth 20000
def pk (x:Ptr):CV:=.ag [.i x.At,.w32 x.Birth,.w32 x.Iv,.w32 x.Tag,.w32 x.Sum]
theorem ZSU (I:In)(x:Ptr):VR I (pk x) (.agg (JP x).toArray):=by
  unfold pk JP;simp only[VR];exact⟨_,rfl,VRs.cons (by simp only[VR])<|VRs.cons (by simp only[VR])<|VRs.cons (by simp only[VR])<|VRs.cons (by simp only[VR])<|VRs.cons (by simp only[VR]) VRs.nil⟩
theorem ZQ8:∀(k:Nat) (a:Option Nat),ZK ([(0,some 0)]:Rho) k=some a->k<1:=λk a e=>by
  rw[ZH]at e;split at e
  . rename_i q;have q:0=k:=q;subst q;exact Nat.zero_lt_one
  . cases e
theorem ZPu{D:Ptr->Ptr->Option Int}(h:FnOk Tryz.prog 178 ⟨[.ag 5,.d (.st .Ptr) [],.ag 5,.d (.st .Ptr) []],[]⟩ ⟨[.d .i []],[]⟩ λx=>D x.1 x.2)(f:Enters Tryz.prog 178)(cf:Ptr->Ptr->Int)(j:∀x y,D x y=some (cf x y))(l:SWO (ltOf cf)):
    FnOk Tryz.prog 239 ⟨[.d (.sl<|.st .Ptr) [(0,0,32)],.c<|.fn 178],[.row]⟩ ⟨[.bor (.st .Ptr) 0 32],[.row]⟩ (λx=>if x.length<=LIM then some (sortL cf x)else none):=
  P0 (λz=> [.row 0,.fn 178]) (λz=>s1 (.st .Ptr) 32 z) (λz=>rfl) (λI x seg vs z y m hs b=>by
    obtain⟨v,us,rfl,h1,h2⟩:=m.un;obtain⟨u,us,rfl,h3,n⟩:=h2.un;cases n.un0;simp only[VR]at h3;subst h3;obtain⟨_,rfl,_⟩:=VR_row h1;have r:=((hs.rw 0 (.own (.st .Ptr) 32 z) rfl).resolve_left<|by simp).2;split at b
    . rename_i o;cases b;have a:∀x y:Ptr,Does Tryz.prog 178 #[.agg (JP x).toArray,.agg (JP y).toArray] [] (λ_ _=>none) (λu _ _=>u=.int .i64 (cf x y)):=λx y=>by
        refine(Pg h rfl rfl (I:=⟨λ_ _=>none,λ_=>(0,.nilIface),0,λ_=>0,0⟩) (us:=[.agg (JP x).toArray,.agg (JP y).toArray]) (cs:=[pk x,pk y]) (co:=[.i<|cf x y]) (z:=(x,y)) (y:=cf x y) (VRs.cons (ZSU _ x)<|VRs.cons (ZSU _ y) VRs.nil) rfl (j x y) rfl).mono ?_;rintro u K' p ⟨_,ws,J,_,rfl,q⟩;obtain⟨w,ws,rfl,e,s⟩:=q.un;cases s.un0;simp only[VR]at e;exact e
      refine(ZOJ (H:=I.H) Tryz.sort239 (by decide) Tryz.isAgg32 Tryz.sizeOf32 (λ_ _ _=>Iff.rfl) (λ_=>rfl) ZLp cf l (g:=178) f a r (Nat.lt_of_le_of_lt o<|by decide)).mono ?_;rintro u K' p ⟨K,rfl,rfl,rfl,t,_⟩;exact⟨[],I,λ_=>K,s1 (.st .Ptr) 32<|sortL cf z,[],[(0,some 0)],rfl,rfl,λk A=>rfl,Rw.one t,VRs.nil,rfl,ZQ8,rfl⟩
    . cases b)
end Go.Proofs.YtgdchaoklfjcpaaGreatDoor
