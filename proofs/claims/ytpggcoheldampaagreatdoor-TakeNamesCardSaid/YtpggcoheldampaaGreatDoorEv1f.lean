import Derived.Test.YtpggcoheldampaaGreatDoorEv1
/-
  What is proved here: a function whose arguments are known numbers: what it answers, by value, may be laid at once.
-/
namespace Go.Ev
open Go Go.Ow Go.RowKit
set_option linter.unusedVariables false
set_option linter.unusedSimpArgs false
variable {P : Program} {w : World}
theorem tws_flat {N : Nat} : ∀ {A us : List Value}, TWs w N (A.map fun v => TV.d (.v v)) us → us = A
  | [], us, h => h
  | v :: A, us, h => by
    obtain ⟨u, us', rfl, h1, h2⟩ := (h : ∃ u us', us = u :: us' ∧ TW w N (TV.d (.v v)) u ∧ TWs w N (A.map fun v => TV.d (.v v)) us')
    have h1 : u = v ∧ flat1 v = true := h1
    rw [h1.1, tws_flat h2]
theorem nF_ok {N : Nat1} {G : FuncId → Nat} (hm : P.follows .mixedOrders = true) (hE : EnP P) (hN : ∀ f g, N f = some g → SFn P f g) {n d : Nat} {f : FuncId} {A : List Value} {T : List TV} (hA : flatL A = true) (e : rdR P ((ev P N G n).f f A ⟨full d, 0⟩) = some T) (hf : Enters P f) : SFn P f (nM P (A.map fun v => TV.d (.v v)) T) :=
  .of hf (fun vs h v h' e' m S w0 w r hb => by
    obtain ⟨ts, e1, h1⟩ := rdTs_ok (N := 0) r (fun b sz q => by obtain ⟨bl, q⟩ := szB_get q; exact ⟨bl, q, Nat.zero_le _⟩) (show rdTs (szB P h) h vs _ = some (v, h') from e') hb
    obtain ⟨h2, e2⟩ := bT e1
    obtain rfl := eqTs_eq h2
    have hvs := tws_flat h1
    obtain ⟨⟨v1, h3⟩, e4, e5⟩ := oB_some (show oB _ _ = some T from e)
    obtain ⟨_, C⟩ := (ev_ok hm hE hN n).2.1 f A ⟨full d, 0⟩ v1 h3 e4
    have C' := C (fun _ => ⟨0, 0, 0, 1, Nat.zero_le _⟩) _ w w (rel0 d w) (fun u hu => bel_flat1 (flatL_iff hA u hu) _)
    have hmap : A.map (inst (fun _ => ⟨0, 0, 0, 1, Nat.zero_le _⟩)) = A := by
      rw [show A.map (inst (fun _ => ⟨0, 0, 0, 1, Nat.zero_le _⟩)) = A.map id from List.map_congr_left fun u hu => inst_flat1 (flatL_iff hA u hu) _, List.map_id]
    rw [hmap] at C'
    show CallsIn Fence.wide 0 P f _ w _
    rw [hvs]
    refine CallsIn.mono C' ?_
    rintro e6 w' ⟨m1, x1, n1, r1, b1, rfl⟩
    have hk : Kept [] w w' := ⟨r1.os, r1.tape, r1.output, r1.size, r1.drawn, fun k hk _ => r1.keep k hk (fun q => q)⟩
    have e5 : rdRv (szB P h3) h3 v1 = some T := e5
    unfold rdRv at e5
    split at e5
    · rename_i us
      obtain ⟨ts, e7, h4⟩ := rdTs_ok r1 (szB_ok r1) e5 (bel_tuple.1 b1)
      cases e7
      obtain ⟨vs', m2, h5, e8, x2, n2, r2, b2, i2⟩ := lyTs_ok e2 (NewR.of r hk) h4
      cases e8
      exact ⟨m2, x2, n2, r2.rel, bel_tuple.2 b2, by rw [inst_tuple, inst_tuple, i2]⟩
    · cases e5)
end Go.Ev
