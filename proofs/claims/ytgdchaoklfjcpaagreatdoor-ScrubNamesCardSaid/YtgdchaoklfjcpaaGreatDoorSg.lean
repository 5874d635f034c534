import Derived.Test.YtgdchaoklfjcpaaGreatDoorOwMh
import Derived.Test.YtgdchaoklfjcpaaGreatDoorW2
import Derived.Test.YtgdchaoklfjcpaaGreatDoorSk
/- Proved: contracts by value of the disk's Tamper, the set's Walk, the scrub's two. -/
set_option linter.unusedSimpArgs false
set_option linter.unusedVariables false
namespace Go.Proofs.YtgdchaoklfjcpaaGreatDoor
open Go Go.Ow Go.Pv Go.RowKit Go.Proofs
set_option maxRecDepth 20000
theorem ZOY:FnOk Tryz.prog 9 ⟨[.ag 2,.d (.st .Disk) [],.d .i [],.d .i [],.d .w8 []],[]⟩ ⟨[.ag 2,.d (.st .Disk) [],.d .i []],[]⟩ (λx=>XP x.1 x.2.1 x.2.2.1 x.2.2.2):=
  FnOk.data rfl rfl (λz=> [.ag<|stC .Disk z.1,.i z.2.1,.i z.2.2.1,.w8 z.2.2.2]) (λy=> [.ag<|stC .Disk y.1,.i y.2]) (λz=>rfl) (λy=>rfl) (λI vs z y h b=>by
    obtain⟨v,us,rfl,h1,h⟩:=h.un;obtain⟨f,us,rfl,h2,h⟩:=h.un;obtain⟨j,k,rfl,h3,a⟩:=vr2 h;obtain⟨l,n,c0,m,o,p,rfl,g,c⟩:=iDisk h1;simp only[VR]at h2 h3 a;subst h2 h3 a;refine(ZIb z.1 z.2.1 z.2.2.1 z.2.2.2 I.H g c y b).mono ?_;rintro u K' e ⟨q,r,s,t,w,A,rfl,rfl,e1,e2,_⟩;exact⟨[_,_],rfl,rfl,VRs.cons (vDisk (I:={I with H:=e}) (e1.old<|RSl.mono RU8.mono) (e2.old R_Write.mono))<|VRs.cons (by simp only[VR]) VRs.nil⟩)
abbrev iPo:Pv.Sp:=⟨[.ag 19,.d (.st .Pool) []],[]⟩
abbrev oLi:Pv.Sp:=⟨[.d (.sl .i) [],.d .i []],[]⟩
abbrev iSt:Pv.Sp:=⟨[.ag 5,.d (.st .Store) []],[]⟩
abbrev iB8:Pv.Sp:=⟨[.d (.sl .w8) []],[]⟩
abbrev iWk:Pv.Sp:=⟨[.ag 5,.d (.st .Store) [],.ag 5,.d (.st .Ptr) [],.d .w32 []],[]⟩
abbrev oWk:Pv.Sp:=⟨[.d (.sl<|.st .Ptr) [],.d .i []],[]⟩
variable{q1:Pool->Option Int}{q2:Store->Ptr->Option (List UInt8×Int)}{q3:List UInt8->Option (List Ptr×Int)}{q4:List UInt8->Option (Object×Int)}{q5:Store->Option Int}{q6:Ptr->Option Int}{q7:Store->Ptr->Option (List Ptr×Int)}{q8:Store->Ptr->Option (Object×Int)}{q9:Store->Ptr->UInt32->Option (List Ptr×Int)}
theorem ZRM (a:FnOk Tryz.prog 21 iSt oI1 λx=>q5 x)(b:FnOk Tryz.prog 22 ⟨[.ag 5,.d (.st .Ptr) []],[]⟩ oI1 λx=>q6 x)(c:FnOk Tryz.prog 23 iSP (oPi 32) λx=>q7 x.1 x.2)(e:FnOk Tryz.prog 24 iSP (oOi 32) λx=>q8 x.1 x.2):
    FnOk Tryz.prog 36 iWk oWk (λx=>JD q5 q6 q7 q8 x.1 x.2.1 x.2.2):=
  FnOk.data rfl rfl (λz=> [.ag<|stC .Store z.1,.ag<|stC .Ptr z.2.1,.w32 z.2.2]) (λy=> [.sl (.st .Ptr) y.1,.i y.2]) (λz=>rfl) (λy=>rfl) (λI vs z y h f=>by
    obtain⟨v,us,rfl,h1,h⟩:=h.un;obtain⟨l,m,rfl,h2,h3⟩:=vr2 h;obtain⟨n,o,c0,p,q,r,s,u,w,rfl,g,j,k⟩:=ZS5 h1;obtain rfl:=iPtr h2;simp only[VR]at h3;subst h3;exact Pw (t:=.st .Ptr) R_Ptr.mono (ZKq (ZOg a) (ZRV b) (ZQB c) (ZRW e) z.1 z.2.1 z.2.2 I.H g j k y f))
theorem ZOZ (h1:FnOk Tryz.prog 29 iPo oI1 λx=>q1 x)(h:FnOk Tryz.prog 36 iWk oWk λx=>q9 x.1 x.2.1 x.2.2):FnOk Tryz.prog 11 iPo oLi (λx=>KC q1 q9 x):=
  FnOk.data rfl rfl (λz=> [.ag<|stC .Pool z]) (λy=> [.sl .i y.1,.i y.2]) (λz=>rfl) (λy=>rfl) (λI vs z y a b=>by
    obtain⟨v,rfl,c⟩:=vr1 a;obtain⟨n,o,c0,p,q,r,s,u,w,A,B,C,D,E,F,G,J,K,L,M,N,O,P,Q,rfl,g,d,e,f,j,k,l,m⟩:=ZSX c;exact Pw (t:=.i) RInt.mono (ZFf (ZL2 h1) (ZP9 h) z I.H g d e f j k l m y b))
theorem ZPv (h1:FnOk Tryz.prog 29 iPo oI1 λx=>q1 x)(h2:FnOk Tryz.prog 31 iSP ⟨[.d (.sl .w8) [],.d .i []],[]⟩ λx=>q2 x.1 x.2)(h3:FnOk Tryz.prog 32 iB8 (oPi 32) λx=>q3 x)(h:FnOk Tryz.prog 33 iB8 (oOi 32) λx=>q4 x):
    FnOk Tryz.prog 10 iPo oLi (λx=>Kr q1 q2 q3 q4 x):=
  FnOk.data rfl rfl (λz=> [.ag<|stC .Pool z]) (λy=> [.sl .i y.1,.i y.2]) (λz=>rfl) (λy=>rfl) (λI vs z y a b=>by
    obtain⟨v,rfl,c⟩:=vr1 a;obtain⟨o,p,c0,q,r,s,u,w,A,B,C,D,E,F,G,J,K,L,M,N,O,P,Q,R,rfl,g,e,f,j,k,l,m,n⟩:=ZSX c;exact Pw (t:=.i) RInt.mono (ZGc (ZL2 h1) (ZQC h2) (ZQA h3) (ZRX h) z I.H g e f j k l m n y b))
end Go.Proofs.YtgdchaoklfjcpaaGreatDoor
