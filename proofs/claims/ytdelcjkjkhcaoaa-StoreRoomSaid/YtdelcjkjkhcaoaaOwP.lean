/-
  What is proved here: the plain vocabulary into which walks are printed: partial operations on lists and integers, and loops by rounds. No program, no model.
-/
namespace Go.Ow
set_option linter.unusedVariables false
set_option linter.unusedSimpArgs false

variable {α β σ τ : Type}

/-! ### Integers -/
def w64 (n : Int) : Int := (n + 9223372036854775808) % 18446744073709551616 - 9223372036854775808
theorem w64_of {n : Int} (h1 : -9223372036854775808 ≤ n) (h2 : n ≤ 9223372036854775807) : w64 n = n := by unfold w64; omega
/-! ### Partial operations, in the order of the text -/
theorem bnd_some {o : Option α} {k : α → Option β} {r : β} (h : Option.bind o k = some r) : ∃ y, o = some y ∧ k y = some r := Option.bind_eq_some_iff.1 h
theorem cond_t {b : Bool} {x y z : Option α} (c : b = true) (h : cond b x y = z) : x = z := by rw [c] at h; exact h
theorem cond_f {b : Bool} {x y z : Option α} (c : b = false) (h : cond b x y = z) : y = z := by rw [c] at h; exact h

/-- 'i' is a place of the list, and 'y' stands there -/
def Nth (l : List α) (i : Int) (y : α) : Prop := 0 ≤ i ∧ l[i.toNat]? = some y
def idx (l : List α) (i : Int) (k : α → Option β) : Option β := if 0 ≤ i then Option.bind l[i.toNat]? k else none
theorem idx_some {l : List α} {i : Int} {k : α → Option β} {r : β} (h : idx l i k = some r) : ∃ y, Nth l i y ∧ k y = some r := by
  unfold idx at h
  split at h
  · obtain ⟨y, h1, h2⟩ := bnd_some h
    exact ⟨y, ⟨by assumption, h1⟩, h2⟩
  · cases h
theorem idx_eq {l : List α} {i : Int} {y : α} {k : α → Option β} (h : Nth l i y) : idx l i k = k y := by
  unfold idx; rw [if_pos h.1, h.2]; rfl
theorem idx_nat {l : List α} {i : Nat} (k : α → Option β) (h : i < l.length) : idx l (i : Int) k = k l[i] :=
  idx_eq ⟨Int.natCast_nonneg i, by simp [h]⟩

def setI (l : List α) (i : Int) (y : α) (k : List α → Option β) : Option β := if 0 ≤ i ∧ i.toNat < l.length then k (l.set i.toNat y) else none
theorem setI_some {l : List α} {i : Int} {y : α} {k : List α → Option β} {r : β} (h : setI l i y k = some r) : ∃ m, m = l.set i.toNat y ∧ (0 ≤ i ∧ i.toNat < l.length) ∧ k m = some r := by
  unfold setI at h
  split at h
  · exact ⟨_, rfl, by assumption, h⟩
  · cases h
theorem setI_eq {l : List α} {i : Int} {y : α} {k : List α → Option β} (h0 : 0 ≤ i) (h : i.toNat < l.length) : setI l i y k = k (l.set i.toNat y) := by
  unfold setI; rw [if_pos ⟨h0, h⟩]

def cut (l : List α) (a b : Int) : List α := (l.drop a.toNat).take (b.toNat - a.toNat)
def slc (l : List α) (a b : Int) (k : List α → Option β) : Option β := if 0 ≤ a ∧ a ≤ b ∧ b ≤ l.length then k (cut l a b) else none
theorem slc_some {l : List α} {a b : Int} {k : List α → Option β} {r : β} (h : slc l a b k = some r) : ∃ m, m = cut l a b ∧ (0 ≤ a ∧ a ≤ b ∧ b ≤ l.length) ∧ k m = some r := by
  unfold slc at h
  split at h
  · exact ⟨_, rfl, by assumption, h⟩
  · cases h
theorem slc_eq {l : List α} {a b : Int} {k : List α → Option β} (h0 : 0 ≤ a) (h1 : a ≤ b) (h2 : b ≤ l.length) : slc l a b k = k (cut l a b) := by
  unfold slc; rw [if_pos ⟨h0, h1, h2⟩]
theorem cut_length {l : List α} {a b : Int} (h0 : 0 ≤ a) (h1 : a ≤ b) (h2 : b ≤ l.length) : ((cut l a b).length : Int) = b - a := by
  unfold cut; simp only [List.length_take, List.length_drop]; omega

/-- more than that no list of a walk is long -/
def LIM : Nat := 1099511627776
def app (l m : List α) (k : List α → Option β) : Option β := if l.length + m.length ≤ LIM then k (l ++ m) else none
theorem app_some {l m : List α} {k : List α → Option β} {r : β} (h : app l m k = some r) : ∃ q, q = l ++ m ∧ l.length + m.length ≤ LIM ∧ k q = some r := by
  unfold app at h
  split at h
  · exact ⟨_, rfl, by assumption, h⟩
  · cases h
theorem app_eq {l m : List α} {k : List α → Option β} (h : l.length + m.length ≤ LIM) : app l m k = k (l ++ m) := by
  unfold app; rw [if_pos h]
def mks (n : Int) (z : α) (k : List α → Option β) : Option β := if 0 ≤ n ∧ n.toNat ≤ LIM then k (List.replicate n.toNat z) else none
theorem mks_some {n : Int} {z : α} {k : List α → Option β} {r : β} (h : mks n z k = some r) : ∃ q, q = List.replicate n.toNat z ∧ (0 ≤ n ∧ n.toNat ≤ LIM) ∧ k q = some r := by
  unfold mks at h
  split at h
  · exact ⟨_, rfl, by assumption, h⟩
  · cases h
theorem mks_eq {n : Nat} {z : α} {k : List α → Option β} (h : n ≤ LIM) : mks (n : Int) z k = k (List.replicate n z) := by
  unfold mks; rw [if_pos ⟨Int.natCast_nonneg n, by simpa using h⟩, Int.toNat_natCast]
def chk (p : Prop) [Decidable p] (k : Option β) : Option β := if p then k else none
theorem chk_some {p : Prop} [Decidable p] {k : Option β} {r : β} (h : chk p k = some r) : p ∧ k = some r := by
  unfold chk at h
  split at h
  · exact ⟨by assumption, h⟩
  · cases h
theorem chk_eq {p : Prop} [Decidable p] {k : Option β} (h : p) : chk p k = k := by unfold chk; rw [if_pos h]

/-! ### Loops: a round goes on, or ends the loop -/
def run (body : σ → Option (σ ⊕ τ)) : Nat → σ → Option τ
  | 0, _ => none
  | n + 1, s => Option.bind (body s) fun o => match o with
    | .inl s' => run body n s'
    | .inr t => some t
def FUEL : Nat := 18446744073709551616
def loop (body : σ → Option (σ ⊕ τ)) (s : σ) : Option τ := run body FUEL s
/-- what is left to do behind a round -/
def Stp (body : σ → Option (σ ⊕ τ)) (n : Nat) (t : τ) : σ ⊕ τ → Prop
  | .inl s' => run body n s' = some t
  | .inr t' => t' = t
theorem run_some {body : σ → Option (σ ⊕ τ)} {n : Nat} {s : σ} {t : τ} (h : run body (n + 1) s = some t) : ∃ o, body s = some o ∧ Stp body n t o := by
  obtain ⟨o, h1, h2⟩ := bnd_some h
  refine ⟨o, h1, ?_⟩
  cases o with
  | inl s' => exact h2
  | inr t' => exact Option.some.inj h2
theorem run_next {body : σ → Option (σ ⊕ τ)} {n : Nat} {t : τ} {s' : σ} {o : σ ⊕ τ} (hd : Stp body n t o) (hx : some (.inl s') = some o) : run body n s' = some t := by
  cases hx; exact hd
theorem run_done {body : σ → Option (σ ⊕ τ)} {n : Nat} {t t' : τ} {o : σ ⊕ τ} (hd : Stp body n t o) (hx : some (.inr t') = some o) : t' = t := by
  cases hx; exact hd
theorem run_zero {body : σ → Option (σ ⊕ τ)} {s : σ} {t : τ} (h : run body 0 s = some t) : False := by cases h
theorem run_mono {body : σ → Option (σ ⊕ τ)} {t : τ} : ∀ {n : Nat} {s : σ} {m : Nat}, n ≤ m → run body n s = some t → run body m s = some t
  | 0, _, _, _, h => (run_zero h).elim
  | n + 1, s, 0, hm, _ => absurd hm (by omega)
  | n + 1, s, m + 1, hm, h => by
    obtain ⟨o, h1, h2⟩ := run_some h
    show Option.bind (body s) _ = _
    rw [h1]
    cases o with
    | inl s' => exact run_mono (by omega) h2
    | inr t' => simp only [Stp] at h2; subst h2; rfl
theorem loop_of {body : σ → Option (σ ⊕ τ)} {s : σ} {t : τ} {n : Nat} (hn : n ≤ FUEL) (h : run body n s = some t) : loop body s = some t := run_mono hn h
/-- a loop by its invariant and a measure -/
theorem loop_rule {body : σ → Option (σ ⊕ τ)} (I : σ → Prop) (m : σ → Nat) (R : τ → Prop)
    (step : ∀ s, I s → (∃ s', body s = some (.inl s') ∧ I s' ∧ m s' < m s) ∨ (∃ t, body s = some (.inr t) ∧ R t)) {s : σ} (h0 : I s) (hm : m s < FUEL) : ∃ t, loop body s = some t ∧ R t := by
  have key : ∀ n s, m s < n → I s → ∃ t, run body n s = some t ∧ R t := by
    intro n
    induction n with
    | zero => intro s h; omega
    | succ n ih =>
      intro s h hI
      rcases step s hI with ⟨s', e, hI', hlt⟩ | ⟨t, e, hR⟩
      · obtain ⟨t, h1, h2⟩ := ih s' (by omega) hI'
        exact ⟨t, by show Option.bind (body s) _ = _; rw [e]; exact h1, h2⟩
      · exact ⟨t, by show Option.bind (body s) _ = _; rw [e]; rfl, hR⟩
  exact key FUEL s hm h0
/-! ### Ranges over what an iterator yields: a round goes on, or leaves -/
def forL (body : α → σ → Option (σ ⊕ τ)) : List α → σ → Option (σ ⊕ τ)
  | [], s => some (.inl s)
  | y :: r, s => Option.bind (body y s) fun o => match o with
    | .inl s' => forL body r s'
    | .inr t => some (.inr t)
theorem forL_some {body : α → σ → Option (σ ⊕ τ)} {y : α} {r : List α} {s : σ} {t : σ ⊕ τ} (h : forL body (y :: r) s = some t) :
    ∃ o, body y s = some o ∧ ((∃ s', o = .inl s' ∧ forL body r s' = some t) ∨ ∃ e, o = .inr e ∧ t = .inr e) := by
  obtain ⟨o, h1, h2⟩ := bnd_some h
  refine ⟨o, h1, ?_⟩
  cases o with
  | inl s' => exact .inl ⟨s', rfl, h2⟩
  | inr e => exact .inr ⟨e, rfl, (Option.some.inj h2).symm⟩
theorem forL_cons {body : α → σ → Option (σ ⊕ τ)} {y : α} {r : List α} {s s' : σ} (h : body y s = some (.inl s')) : forL body (y :: r) s = forL body r s' := by
  show Option.bind (body y s) _ = _; rw [h]; rfl
theorem forL_stop {body : α → σ → Option (σ ⊕ τ)} {y : α} {r : List α} {s : σ} {e : τ} (h : body y s = some (.inr e)) : forL body (y :: r) s = some (.inr e) := by
  show Option.bind (body y s) _ = _; rw [h]; rfl
/-- bytes from behind, each with its place -/
def bwd (m : List UInt8) : Nat → List (Nat × UInt8)
  | 0 => []
  | k + 1 => (k, m.getD k 0) :: bwd m k
end Go.Ow
