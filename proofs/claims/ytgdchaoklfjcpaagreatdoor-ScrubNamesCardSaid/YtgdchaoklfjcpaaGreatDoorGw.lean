import Derived.Test.YtgdchaoklfjcpaaGreatDoorOwMf
import Derived.Test.YtgdchaoklfjcpaaGreatDoorOwMg
import Derived.Test.YtgdchaoklfjcpaaGreatDoorIns
import Derived.Test.YtgdchaoklfjcpaaGreatDoorS5
/- Proved: contracts by value of slices.Insert and slices.Sort. -/
set_option linter.unusedSimpArgs false
set_option linter.unusedVariables false
namespace Go.Proofs.YtgdchaoklfjcpaaGreatDoor
open Go Go.Ow Go.Pv Go.RowKit Go.Proofs
set_option maxRecDepth 20000
def st3 (t:Ty)(E:Nat)(m:List (den t)):PS:=⟨0,[],[],[],3,[],0,[(2,.own t E m)]⟩
theorem ZOa : FnOk Tryz.prog 115 ⟨[.d (.sl<|.st .Change) [(0,0,83)],.d .i [],.d (.sl<|.st .Change) [(0,1,83)]],[.row,.row]⟩ ⟨[.d (.sl<|.st .Change) [(0,2,83)]],[.row,.row,.row]⟩ (λx=>insO x.1 x.2.1 x.2.2):=
  P0 (λz=> [.row 0,.i z.2.1,.row 1]) (λz=>⟨0,[],[],[],2,[],0,[(0,.own (.st .Change) 83 z.1),(1,.own (.st .Change) 83 z.2.2)]⟩) (λz=>rfl) (λI x seg vs z y o hs h=>by
    obtain⟨v,us,rfl,h1,h2⟩:=o.un;obtain⟨n,us,rfl,h3,A⟩:=h2.un;obtain⟨u,us,rfl,B,C⟩:=A.un;cases C.un0;simp only[VR]at h3;subst h3;obtain⟨_,rfl,_⟩:=VR_row h1;obtain⟨_,rfl,_⟩:=VR_row B;have p:=((hs.rw 0 (.own (.st .Change) 83 z.1) rfl).resolve_left<|by simp).2;have c:=((hs.rw 1 (.own (.st .Change) 83 z.2.2) rfl).resolve_left<|by simp).2;obtain⟨l,i,m⟩:=z;dsimp only at p c h|-
    match m,c,h with
    |[],c,h=>cases h
    |_::_::_,c,h=>cases h
    | [b],c,h=>
      by_cases f:0<=i/\i<=(l.length:Int)/\l.length+1<=LIM
      . have h:(if 0<=i/\i<=(l.length:Int)/\l.length+1<=LIM then some (l.take i.toNat++b::l.drop i.toNat)else none)=some y:=h;rw[TJ f]at h;cases h;obtain⟨k,rfl⟩:∃k:Nat,i=(k:Int):=⟨Int.toNat i,(Int.toNat_of_nonneg f.1).symm⟩;have D:=ZPp (H:=I.H) insW (show Tryz.prog.underlying 35=some (.slice 83) by kernel_rfl) (show Tryz.prog.underlying 3=some (.int .i64) by kernel_rfl) (z:=.agg #[.int .i64 0,.int .i64 0,.int .i64 0,.int .u8 0,.int .i64 0,.int .i64 0,.slice none 0 0,.int .i64 0,.int .u32 0,.int .u32 0,.int .u32 0,.int .u32 0]) (bytes:=96) (by kernel_rfl) (λw=>Go.Ow.run_sizeOf (g:=true) (by kernel_rfl) w) (λv o=>Ti.1 (show(Value.cells<|.agg #[.int .i64 0,.int .i64 0,.int .i64 0,.int .u8 0,.int .i64 0,.int .i64 0,.slice none 0 0,.int .i64 0,.int .u32 0,.int .u32 0,.int .u32 0,.int .u32 0]).toList.all Value.oneCell'=true from by kernel_rfl) v o) (by decide) p c (i:=k) (Int.ofNat_le.1 f.2.1) f.2.2;refine D.mono ?_;rintro r K' J ⟨K,rfl,rfl,s⟩;obtain⟨ao,cap,F,_⟩:=s.len;refine⟨[r],{I with ν:=λa=>if a=2 then(0,r)else I.ν a,n:=3},λa=>if a=2 then K else [],st3 (.st .Change) 83 (l.take k++b::l.drop k),[.row 2],[(2,some 2),(1,some 1),(0,some 0)],rfl,rfl,λk G=> ?_,⟨λj t E m e _=> ?_,λj t m e=> ?_,λj E m e=> ?_,λa m e=>(by cases e)⟩,VRs.cons (by simp only[VR];exact⟨by decide,rfl,ao,_,cap,F⟩) VRs.nil,rfl,λk a e=> ?_,rfl⟩
        . have:¬k=2:=(by have:k<2:=G;omega);simp only[TK this]
        . rw[show(st3 (.st .Change) 83 (l.take k++b::l.drop k)).r= [(2,.own (.st .Change) 83 (l.take k++b::l.drop k))]from rfl,ZH]at e;split at e
          . rename_i q;have q:2=j:=q;subst q;cases e;exact s
          . cases e
        . rcases e with e|⟨e,_⟩
          . rw[show(st3 (.st .Change) 83 (l.take k++b::l.drop k)).r= [(2,.own (.st .Change) 83 (l.take k++b::l.drop k))]from rfl,ZH]at e;split at e<;>cases e
          . cases e
        . rw[show(st3 (.st .Change) 83 (l.take k++b::l.drop k)).r= [(2,.own (.st .Change) 83 (l.take k++b::l.drop k))]from rfl,ZH]at e;split at e<;>cases e
        . rw [ZH,ZH,ZH]at e;show k<3;split at e
          . rename_i q;have q:2=k:=q;omega
          . split at e
            . rename_i q;have q:1=k:=q;omega
            . split at e
              . rename_i q;have q:0=k:=q;omega
              . cases e
      . have h:(if 0<=i/\i<=(l.length:Int)/\l.length+1<=LIM then some (l.take i.toNat++b::l.drop i.toNat)else none)=some y:=h;rw[TK f]at h;cases h)
theorem ZSs:∀(k:Nat) (a:Option Nat),ZK ([(0,some 0)]:Rho) k=some a->k<1:=λk a e=>by
  rw[ZH]at e;split at e
  . rename_i q;have q:0=k:=q;subst q;exact Nat.zero_lt_one
  . cases e
theorem ZRN:FnOk Tryz.prog 79 ⟨[.d (.sl .i) [(0,0,3)]],[.row]⟩ ⟨[.bor .i 0 3],[.row]⟩ (λx=>ZJa x):=
  P0 (λz=> [.row 0]) (λz=>s1 .i 3 z) (λz=>rfl) (λI x seg vs z y a hs h=>by
    obtain⟨v,us,rfl,h1,h2⟩:=a.un;cases h2.un0;obtain⟨_,rfl,_⟩:=VR_row h1;have r:=((hs.rw 0 (.own .i 3 z) rfl).resolve_left<|by simp).2;unfold ZJa at h;split at h
    . rename_i b;have h:some (sortI z)=some y:=(congrArg some<|ZKo z).trans h;cases h;refine(ZGY (H:=I.H) Tryz.sort79 r (Nat.lt_of_le_of_lt b<|by decide)).mono ?_;rintro u K' e ⟨K,rfl,rfl,rfl,c,_⟩;exact⟨[],I,λ_=>K,s1 .i 3<|sortI z,[],[(0,some 0)],rfl,rfl,λk f=>rfl,Rw.one c,VRs.nil,rfl,ZSs,rfl⟩
    . cases h)
end Go.Proofs.YtgdchaoklfjcpaaGreatDoor
