import Derived.Test.YtgdchaoklfjcpaaGreatDoorOwMf
/- Proved: a contract by value is used, that has an own row among its results. -/
set_option linter.constructorNameAsVariable false
set_option linter.unusedVariables false
namespace Go.Pv
open Go Go.Ow Go.RowKit
theorem Pi{P:Program}{f:Nat}{i o:Sp}{d:VH (hyS i)->Option (VH<|hyS o)}(h:FnOk P f i o d)(hi:i.bs= [])(l:o.bs= [.row]){t:Ty}{E:Nat}{m:List (den t)}{I:In}{us:List Value}{cs co:List CV}{z:VH (hyS i)}{y:VH (hyS o)}(n:VRs I cs us)
    (p:mtS s0 i cs [] (λhs ρ js=>some (hs,ρ,js))=some (ofVH (hyS i) z,[],[]))(a:d z=some y)(b:PS.bu s0 [] o (ofVH (hyS o) y) (λus s=>some (us,s))=some (.row 0::co,s1 t E m)):
    Does P f us.toArray [] I.H (λu K' c=>∃(K:Own) (v:Value) (ws:List Value) (J:In),K'= [K]/\J.H=c/\u=Ow.pack (v::ws)/\RowOf c (RT t) 0 E (szY t) v m K/\VRs J co ws):=by
  have q:=DP (Rw.zero I λ_=> []) rfl n p;have:=h I.H _ us z y (λk w e=>by unfold Wf at e;cases e) q a;rw[hi]at this;refine this.mono ?_;rintro u K' c ⟨ws,W,h1,_,h3,r,g⟩;rw[l]at g;obtain⟨J,x,j,A,hs,_⟩:=ZDN h1 r b;obtain⟨v,ws,rfl,B,C⟩:=A.un;obtain⟨_,rfl,_⟩:=VR_row B;have D:=((hs.rw 0 (.own t E m) rfl).resolve_left<|by simp).2;exact⟨sgW W 0,_,ws,J,g,j,h3,j▸D,C⟩
end Go.Pv
