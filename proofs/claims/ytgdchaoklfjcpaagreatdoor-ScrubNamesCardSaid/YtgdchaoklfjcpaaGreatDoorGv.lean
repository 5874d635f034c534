import Derived.Test.YtgdchaoklfjcpaaGreatDoorOwMf
import Derived.Test.YtgdchaoklfjcpaaGreatDoorW2
/- Proved: contracts by value of library functions and of the disk's, out of their walks. -/
set_option linter.unusedSimpArgs false
set_option linter.unusedVariables false
namespace Go.Proofs.YtgdchaoklfjcpaaGreatDoor
open Go Go.Ow Go.Pv Go.RowKit Go.Proofs
set_option maxRecDepth 20000
theorem two{I:In}{a b:CV}{vs:List Value}(h:VRs I [a,b] vs):∃v u,vs= [v,u]/\VR I a v/\VR I b u:=by
  obtain⟨v,us,rfl,h1,h2⟩:=h.un;obtain⟨u,ws,rfl,h3,c⟩:=h2.un;cases c.un0;exact⟨v,u,rfl,h1,h3⟩
theorem one{I:In}{a:CV}{vs:List Value}(h:VRs I [a] vs):∃v,vs= [v]/\VR I a v:=by
  obtain⟨v,us,rfl,h1,h2⟩:=h.un;cases h2.un0;exact⟨v,rfl,h1⟩
theorem ZCh{x:Cx}{l:Slots}{own:List Own}{H:Heaplet}{v:Value}{C:Act->World->Prop}(i:Nat){E d B:Nat}{K:Own}{bs:List (List UInt8)}(f:x.S= [])(hi:own[i]? =some K)(g:Pcs B E d v bs K)
    (h:∀b,Hle H b->IsSlice b (RSl RU8 1) 1 v bs->JN x C l (own.set i []) b):JN x C l own H:=λa w e=>by
  have c:Pcs x.w0.heap.size E d v bs K:=g.base λp c=>by
    have j:p∈own.flatten:=Sd.2 ⟨K,Tq hi,c⟩;rcases e.mem.fresh p j with h|h
    . rw[f]at h;cases h
    . exact h
  exact JN.pubPcs i hi c (TF _) (λb h1 h2=>h b h1<|h2.mono (RSl.mono RU8.mono)<|New.le _ _) a w e
theorem ZH3{x:Cx}{l:Slots}{own:List Own}{H:Heaplet}{C:Act->World->Prop}(b:own.flatten= [])(h:JN x C l [] H):JN x C l own H:=λa w c=>h a w<|Go.Pv.hperm c (by rw[b];exact Sk _)
theorem ZMx:FnOk Tryz.prog 169 ⟨[.d (.sl .w8) [],.d .i []],[]⟩ ⟨[.d (.sl .w8) [(0,0,5)]],[.row]⟩ (λx=>X5 x.1 x.2):=
  FnOk.row rfl (λz=> [.sl .w8 z.1,.i z.2]) (λz=>rfl) (λm=>rfl) (λI vs z m h a=>by
    obtain⟨v,u,rfl,h1,h2⟩:=two h;simp only[VR]at h1 h2;subst h2;have h1:IsSlice I.H RU8 1 v z.1:=h1;obtain⟨ao,cap,rfl⟩:=IsSlice.val h1;refine(ZF6 z.1 z.2 I.H h1 m a).mono ?_;rintro u K' f ⟨b,n,c,K,rfl,rfl,rfl,e,_⟩;exact⟨K,rfl,e.old RU8.mono⟩)
theorem ZPx:FnOk Tryz.prog 209 ⟨[.c .nils,.d .i []],[]⟩ ⟨[.d (.sl .w8) [(0,0,5)]],[.row]⟩ (λx=>Yg x):=
  FnOk.row rfl (λz=> [.nils,.i z]) (λz=>rfl) (λm=>rfl) (λI vs z m h b=>by
    obtain⟨v,u,rfl,h1,h2⟩:=two h;simp only[VR]at h1 h2;subst h1 h2;refine(ZAk z I.H m b).mono ?_;rintro u K' g ⟨e,n,a,K,rfl,rfl,rfl,f,_⟩;exact⟨K,rfl,f.old RU8.mono⟩)
theorem ZPw:FnOk Tryz.prog 245 ⟨[.c .nils,.d .i []],[]⟩ ⟨[.d (.sl<|.st .Ptr) [(0,0,32)]],[.row]⟩ (λx=>Ys x):=
  FnOk.row rfl (λz=> [.nils,.i z]) (λz=>rfl) (λm=>rfl) (λI vs z m h b=>by
    obtain⟨v,u,rfl,h1,h2⟩:=two h;simp only[VR]at h1 h2;subst h1 h2;refine(ZBt z I.H m b).mono ?_;rintro u K' g ⟨e,n,a,K,rfl,rfl,rfl,f,_⟩;exact⟨K,rfl,f.old R_Ptr.mono⟩)
def dk (z:Disk):List CV:=[.ag [.sl (.sl .w8) z.Blocks,.sl (.st .Write) z.Waits]]
theorem ZM2{I:In}{v w:Value}{r:Disk}(h1:IsSlice I.H (RSl RU8 1) 1 v r.Blocks)(h2:IsSlice I.H R_Write 2 w r.Waits):VRs I (dk r) [.agg #[v,w]]:=by
  refine VRs.cons ?_ VRs.nil;simp only[VR];refine⟨[v,w],rfl,VRs.cons ?_<|VRs.cons ?_ VRs.nil⟩
  . simp only[VR];exact h1
  . simp only[VR];exact h2
theorem ZSZ{I:In}{vs:List Value}{z:Disk}{r:List CV}(h:VRs I (dk z++r) vs):∃ao n cap d g c us,vs=.agg #[.slice ao n cap,.slice d g c]::us/\IsSlice I.H (RSl RU8 1) 1 (.slice ao n cap) z.Blocks/\IsSlice I.H R_Write 2 (.slice d g c) z.Waits/\VRs I r us:=by
  obtain⟨v,us,rfl,h1,h2⟩:=(show VRs I (_::r) vs from h).un
  simp only[VR]at h1;obtain⟨ws,rfl,h3⟩:=h1;obtain⟨a,b,rfl,e,f⟩:=two h3;simp only[VR]at e f;have e:IsSlice I.H (RSl RU8 1) 1 a z.Blocks:=e;have f:IsSlice I.H R_Write 2 b z.Waits:=f;obtain⟨ao,cap,rfl⟩:=IsSlice.val e;obtain⟨d,c,rfl⟩:=IsSlice.val f;exact⟨ao,_,cap,d,_,c,us,rfl,e,f,h2⟩
theorem ZS6:FnOk Tryz.prog 101 ⟨[],[]⟩ ⟨[.ag 2,.d (.st .Disk) []],[]⟩ (λ_=>UY):=
  FnOk.data rfl rfl (λz=> []) (λy=>dk y) (λz=>rfl) (λy=>rfl) (λI vs z y a b=>by
    cases a.un0;refine Pm (ZM5 I.H y b) λw v K' k e=> ?_;obtain⟨f,n,c,K,g,l,rfl,rfl,i,_,j,_⟩:=e;refine ZCh 0 rfl rfl i (λH2 h hs=>ZH3 (by simp) ?_);exact ZDm (R:=λK2 H2=>∃us,_=Ow.pack us/\K2= []/\VRs {I with H:=H2} (dk y) us) ⟨[_],rfl,rfl,ZM2 (I:={I with H:=H2}) hs (j.mono R_Write.mono<|(New.le _ _).trans h)⟩)
theorem gv_Twin:FnOk Tryz.prog 28 ⟨[.ag 2,.d (.st .Disk) []],[]⟩ ⟨[.ag 2,.d (.st .Disk) []],[]⟩ (λx=>XD x):=
  FnOk.data rfl rfl (λz=>dk z) (λy=>dk y) (λz=>rfl) (λy=>rfl) (λI vs z y g i=>by
    obtain⟨ao,n,cap,j,s,c,us,rfl,h1,h2,h3⟩:=ZSZ (r:=[]) (by rw[Th];exact g);cases h3.un0;refine Pm (Dq z I.H h1 h2 y i) λw v K' t k=> ?_;obtain⟨l,u,e,K,m,A,f,B,rfl,rfl,o,_,p,_⟩:=k;refine ZCh 0 rfl rfl o λH2 a hs=> ?_;refine JN.pub0 1 R_Write.mono rfl ((p.old R_Write.mono).mono R_Write.mono a) (λq h b=>ZH3 (by simp) ?_);exact ZDm (R:=λK2 H2=>∃us,_=Ow.pack us/\K2= []/\VRs {I with H:=H2} (dk y) us) ⟨[_],rfl,rfl,ZM2 (I:={I with H:=q}) (hs.mono (RSl.mono RU8.mono) h) b⟩)
theorem gv_left:FnOk Tryz.prog 129 ⟨[.ag 2,.d (.st .Disk) [],.c<|.fn 130],[]⟩ ⟨[.ag 2,.d (.st .Disk) []],[]⟩ (λx=>QY x):=
  FnOk.data rfl rfl (λz=>dk z++ [.fn 130]) (λy=>dk y) (λz=>rfl) (λy=>rfl) (λI vs z y j k=>by
    obtain⟨ao,n,cap,l,t,e,us,rfl,h1,h2,h3⟩:=ZSZ j;obtain⟨v,rfl,f⟩:=one h3;simp only[VR]at f;subst f;refine Pm (ZLs z I.H h1 h2 y k) λw v K' u m=> ?_;obtain⟨o,A,g,K,p,B,i,C,rfl,rfl,q,_,r,_⟩:=m;refine ZCh 0 rfl rfl q λH2 a hs=> ?_;refine JN.pub0 1 R_Write.mono rfl ((r.old R_Write.mono).mono R_Write.mono a) (λs h b=>ZH3 (by simp) ?_);exact ZDm (R:=λK2 H2=>∃us,_=Ow.pack us/\K2= []/\VRs {I with H:=H2} (dk y) us) ⟨[_],rfl,rfl,ZM2 (I:={I with H:=s}) (hs.mono (RSl.mono RU8.mono) h) b⟩)
end Go.Proofs.YtgdchaoklfjcpaaGreatDoor
