/-
  What is proved here: a region whose order Go leaves open: what only reads may be taken first; the rest as it comes; over OwH.
-/
import Derived.Test.YtdelcjkjkhcaoaaOwH
namespace Go.Ow
open Go.RowKit
set_option linter.unusedVariables false
set_option linter.unusedSimpArgs false

section orders
variable {F : Fence} {n : Nat} {P : Program} {md : Region.Mode} {ops : Array Oper} {Q : Exit → Act → World → Prop} {S : World → Prop}

/-- whatever order: behind each operation S holds -/
def wpAS (F : Fence) (n : Nat) (P : Program) (md : Region.Mode) (ops : Array Oper) (Q : Exit → Act → World → Prop) (S : World → Prop) : Nat → Array Bool → Act → World → Prop
  | 0, listed, a, w => Region.ready md ops listed = [] ∧ Q .normal a w
  | fuel + 1, listed, a, w => (Region.ready md ops listed = [] → Q .normal a w) ∧
    ∀ i ∈ Region.ready md ops listed, wpOpIn F n P ops Q i (fun a' w' => S w' ∧ wpAS F n P md ops Q S fuel (listed.setIfInBounds i true) a' w') a w
theorem wpAS_sound : ∀ (fuel : Nat) (listed : Array Bool) (a : Act) (w : World), wpAS F n P md ops Q S fuel listed a w → wpAnyIn F n P md ops Q fuel listed a w
  | 0, _, _, _, h => h
  | fuel + 1, listed, a, w, h => ⟨h.1, fun i hi => wpOpIn_mono (fun a' w' h' => wpAS_sound fuel _ a' w' h'.2) (h.2 i hi)⟩

def YieldsS (P : Program) (ops : Array Oper) (S : World → Prop) (o : Oper) (v : Value) (a : Act) : Prop :=
  (Region.wanted o (yielded ops a.tmps) = true ∧ ∀ w, S w → (execOp a.eval o).run P w = .ok (.value v) w) ∨ (Region.wanted o (yielded ops a.tmps) = false ∧ v = undef)
theorem YieldsS.of_same {o : Oper} {v : Value} {a a' : Act} (hy : YieldsS P ops S o v a) (he : execOp a'.eval o = execOp a.eval o)
    (hw : Region.wanted o (yielded ops a'.tmps) = Region.wanted o (yielded ops a.tmps)) : YieldsS P ops S o v a' := by
  unfold YieldsS at *; rw [he, hw]; exact hy
theorem YieldsS.op (hF : ∀ f, F.fn f) {i : Nat} {o : Oper} {v : Value} {a : Act} (hi : ops[i]? = some o) (hn : noDefer o.op = true) (hy : YieldsS P ops S o v a)
    {K : Act → World → Prop} {w : World} (hS : S w) (h : K (a.put o.dst v) w) : wpOpIn F n P ops Q i K a w := by
  unfold wpOpIn
  simp only [hi]
  rcases hy with ⟨hw, hv⟩ | ⟨hw, rfl⟩
  · simp only [hw, if_true]
    refine ⟨fun f _ => hF f, ?_⟩
    rw [semAt_of hn, hv w hS]; exact h
  · simp only [hw, Bool.false_eq_true, if_false]; exact ⟨fun f _ => hF f, h⟩

theorem wpOpIn_putS (hF : ∀ f, F.fn f) {j : Nat} {oi oj : Oper} {v : Value} (hj : ops[j]? = some oj) (hap : oi.apart ops oj = true) (hsi : ∀ cs b, oi.op ≠ .select cs b) (hsj : ∀ cs b, oj.op ≠ .select cs b)
    (hnj : noDefer oj.op = true) (hQ : ∀ c a w, Q (.panic c) (a.put oi.dst v) w → Q (.panic c) a w) {K : Act → World → Prop} {a : Act} {w : World}
    (hy : YieldsS P ops S oi v a) (h : wpOpIn F n P ops Q j K (a.put oi.dst v) w) :
    wpOpIn F n P ops Q j (fun a' w' => YieldsS P ops S oi v a' ∧ K (a'.put oi.dst v) w') a w := by
  obtain ⟨h1, h2, h3⟩ := Oper.apart_spec hap
  have keep : ∀ (a : Act), YieldsS P ops S oi v a → ∀ u, YieldsS P ops S oi v (a.put oj.dst u) := fun a hy u =>
    hy.of_same (execOp_put oi hsi a oj.dst u h3) (wanted_put oi a oj.dst u h3)
  unfold wpOpIn at *
  simp only [hj] at *
  rw [wanted_put oj a oi.dst v h1] at h
  split
  · rename_i hw
    simp only [hw, if_true] at h
    refine ⟨fun f _ => hF f, ?_⟩
    have h := h.2
    rw [semAt_of hnj, execOp_put oj hsj a oi.dst v h1] at h
    rw [semAt_of hnj]
    generalize hr : (execOp a.eval oj).run P w = r at *
    cases r with
    | ok x w' =>
      cases x <;> simp only [Oper.uponIn] at h ⊢
      case value u => exact ⟨keep a hy u, by rw [← Act.put_comm a v u h2]; exact h⟩
      case skip => exact ⟨keep a hy _, by rw [← Act.put_comm a v undef h2]; exact h⟩
      case defer d =>
        refine ⟨keep { a with defers := d :: a.defers } (hy.of_same rfl rfl) _, ?_⟩
        rw [← Act.put_comm _ v undef h2, ← Act.put_defers]
        exact h
      case enter f args =>
        refine ⟨h.1, CallsIn.mono h.2 fun e w'' he => ?_⟩
        cases e with
        | returned u => exact ⟨keep a hy u, by rw [← Act.put_comm a v u h2]; exact he⟩
        | panicked c => exact hQ _ _ _ he
        | outgrown => exact he
      case row row args => exact ⟨h.1, RowsIn.mono h.2 fun u w'' he => ⟨keep a hy u, by rw [← Act.put_comm a v u h2]; exact he⟩⟩
      case round l f tmps assign body =>
        refine ⟨h.1, RoundIn.mono h.2 fun e w'' he => ?_⟩
        cases e with
        | returned u => exact ⟨keep a hy u, by rw [← Act.put_comm a v u h2]; exact he⟩
        | panicked c => exact hQ _ _ _ he
        | outgrown => exact he
    | halt x w' =>
      cases x <;> simp only [Oper.uponIn] at h ⊢
      case panic u => exact hQ _ _ _ h
  · rename_i hw
    simp only [hw] at h
    exact ⟨fun f _ => hF f, keep a hy _, by rw [← Act.put_comm a v undef h2]; exact h.2⟩

/-- what only reads may be taken first -/
theorem wpAS_first (hF : ∀ f, F.fn f) {i : Nat} {oi : Oper} {v : Value} (hi : ops[i]? = some oi) (hsel : ∀ (j : Nat) (o : Oper) cs b, ops[j]? = some o → o.op ≠ .select cs b)
    (hdef : ∀ (j : Nat) (o : Oper), ops[j]? = some o → noDefer o.op = true) (hQ : ∀ c a w, Q (.panic c) (a.put oi.dst v) w → Q (.panic c) a w) :
    ∀ (fuel : Nat) (listed : Array Bool) (a : Act) (w : World),
      (∀ j oj, ops[j]? = some oj → j ≠ i → listed.getD j true = false → (∀ e ∈ oj.after, Region.binds md e = true → e.on ≠ i) → oi.apart ops oj = true) →
      i ∈ Region.ready md ops listed → YieldsS P ops S oi v a → S w →
      wpAS F n P md ops Q S fuel (listed.setIfInBounds i true) (a.put oi.dst v) w → wpAS F n P md ops Q S (fuel + 1) listed a w := by
  intro fuel
  induction fuel with
  | zero =>
    intro listed a w _ hr hy hS H
    refine ⟨fun h => (by rw [h] at hr; cases hr), fun j hj => ?_⟩
    by_cases hji : j = i
    · subst hji; exact hy.op hF hi (hdef _ _ hi) hS ⟨hS, H⟩
    · have := ready_mono hj hji
      rw [H.1] at this
      cases this
  | succ fuel ih =>
    intro listed a w hfree hr hy hS H
    refine ⟨fun h => (by rw [h] at hr; cases hr), fun j hj => ?_⟩
    by_cases hji : j = i
    · subst hji; exact hy.op hF hi (hdef _ _ hi) hS ⟨hS, H⟩
    · have h1 := H.2 j (ready_mono hj hji)
      obtain ⟨hjun, oj, hoj, hall⟩ := mem_ready.1 hj
      have hnot : ∀ e ∈ oj.after, Region.binds md e = true → e.on ≠ i := fun e he hb heq => by
        have h1 := hall e he hb
        have h0 := (mem_ready.1 hr).1
        rw [heq] at h1
        rcases Nat.lt_or_ge i listed.size with h' | h'
        · simp [h'] at h0 h1; rw [h0] at h1; cases h1
        · simp [Array.getElem?_eq_none h'] at h1
      have h2 := wpOpIn_putS hF hoj (hfree j oj hoj hji hjun hnot) (fun cs b => hsel i oi cs b hi) (fun cs b => hsel j oj cs b hoj) (hdef j oj hoj) hQ hy h1
      have hfree' : ∀ k ok, ops[k]? = some ok → k ≠ i → (listed.setIfInBounds j true).getD k true = false →
          (∀ e ∈ ok.after, Region.binds md e = true → e.on ≠ i) → oi.apart ops ok = true := fun k ok hk hki hun hno => by
        refine hfree k ok hk hki ?_ hno
        by_cases hjk : j = k
        · subst hjk; exact hjun
        · rw [getD_set_ne true hjk] at hun; exact hun
      refine wpOpIn_mono (fun a' w' h3 => ⟨h3.2.1, ih (listed.setIfInBounds j true) a' w' hfree' (ready_mono hr (Ne.symm hji)) h3.1 h3.2.1 ?_⟩) h2
      rw [Array.setIfInBounds_comm _ _ hji]
      exact h3.2.2
end orders

/-! ### The same from a state -/
variable {x : Cx} {ops : Array Oper} {Q : Exit → Act → World → Prop} {l : Slots} {own : List Own} {H : Heaplet}

/-- a panic is no way out that asks for the frame -/
def Calm (Q : Exit → Act → World → Prop) : Prop := ∀ c a a' w, Q (.panic c) a w → Q (.panic c) a' w
def JA (x : Cx) (ops : Array Oper) (Q : Exit → Act → World → Prop) (so : List Own) (sH : Heaplet) (fuel : Nat) (listed : Array Bool) (l : Slots) (own : List Own) (H : Heaplet) : Prop :=
  ∀ a w, Holds x l own H a w → wpAS (Fw x.r) 0 x.P .any ops Q (Stab so sH) fuel listed a w

/-- no way out but the plain one -/
def onlyN (K : Act → World → Prop) : Exit → Act → World → Prop
  | .normal, a, w => K a w
  | _, _, _ => False
theorem calm_only (K : Act → World → Prop) : Calm (onlyN K) := fun _ _ _ _ h => h
/-- which of the segments are kept -/
def SubO : List Own → List Own → Prop
  | [], _ => True
  | s :: r, own => (∃ i : Nat, own[i]? = some s) ∧ SubO r own
theorem JC.draw {so : List Own} (N : Nat) {id : Nat} (hN : ops.size = N) (hm : x.P.follows .mixedOrders = true) (_hso : SubO so own) (h : JA x ops (onlyN (Q .normal)) so H N (Array.replicate N false) l own H) : JC x (.region id ops true) Q l own H := fun a w hh => by
  subst hN
  refine wpIn_mono (Q := onlyN (Q .normal)) (wpIn_region_any hm (wpAS_sound _ _ _ _ (h a w.drew ⟨hh.size, hh.ds, hh.slots, hh.mem.drew⟩))) ?_
  intro e a w hq
  cases e with
  | normal => exact hq
  | exit id => exact hq.elim
  | goto t => exact hq.elim
  | ret => exact hq.elim
  | panic c => exact hq.elim
  | outgrown => exact hq.elim
theorem JA.gSplit {so : List Own} {sH : Heaplet} {fuel : Nat} {listed : Array Bool} {t : Nat} {b : Bool} (hb : lk l t = some (.bool b)) (ht : b = true → JA x ops Q so sH fuel listed ((t, .bool true) :: l) own H)
    (hf : b = false → JA x ops Q so sH fuel listed ((t, .bool false) :: l) own H) : JA x ops Q so sH fuel listed l own H := fun a w hh => by
  cases b with
  | true => exact ht rfl a w (hh.set hb rfl)
  | false => exact hf rfl a w (hh.set hb rfl)
/-- the region's own facts, each closed -/
structure Reg (ops : Array Oper) : Prop where
  sel : Region.noSelect ops = true
  dfr : ops.all (fun o => noDefer o.op) = true
theorem Reg.noDefer {ops : Array Oper} (h : Reg ops) : ∀ (j : Nat) (o : Oper), ops[j]? = some o → noDefer o.op = true := fun j o ho =>
  Array.all_eq_true_iff_forall_mem.1 h.dfr o (Array.mem_of_getElem? ho)

/-- which one is taken first -/
structure Take (ops : Array Oper) (listed : Array Bool) (i : Nat) (listed' : Array Bool) : Prop where
  rdy : (Region.ready .any ops listed).contains i = true
  free : Region.free .any ops listed i = true
  nxt : listed.setIfInBounds i true = listed'
def guardYes (ops : Array Oper) (l : Slots) : Option (Nat × Bool) → Prop
  | none => True
  | some (j, b) => ∃ t oj, ops[j]? = some oj ∧ oj.dst = some t ∧ lk l t = some (.bool b)
theorem wanted_yes {a : Act} {w : World} (hh : Holds x l own H a w) {o : Oper} (hg : guardYes ops l o.guard) : Region.wanted o (yielded ops a.tmps) = true := by
  obtain ⟨dst, op, ty, pos, aft, g⟩ := o
  cases g with
  | none => rfl
  | some jb =>
    obtain ⟨j, b⟩ := jb
    obtain ⟨t, oj, hj, ht, hb⟩ := hg
    simp only [Region.wanted, yielded, hj, Option.bind_some, ht]
    have := hh.slots t _ hb
    cases hs : a.tmps[t]? with
    | none => simp [hs, undef] at this
    | some u => simp [hs] at this; simp [this]

theorem JA.val {so : List Own} {sH : Heaplet} {fuel i d : Nat} {listed listed' : Array Bool} {op : Op} {ty : TypeId} {pos : String} {aft : Array Edge} {g : Option (Nat × Bool)} {v : Value} (hreg : Reg ops) (hc : Calm Q)
    (ho : ops[i]? = some ⟨some d, op, ty, pos, aft, g⟩) (ht : Take ops listed i listed') (hg : guardYes ops l g) (hs : ∀ a w, Holds x l own H a w → Stab so sH w) (hr : Runs x op ty l so sH v) (hd : Nat.blt d x.n = true)
    (h : JA x ops Q so sH fuel listed' ((d, v) :: l) own H) : JA x ops Q so sH (fuel + 1) listed l own H := fun a w hh => by
  have hl := ht.nxt
  subst hl
  refine wpAS_first (fun _ => trivial) ho (Region.noSelect_spec hreg.sel) hreg.noDefer (fun c a' w' h' => hc c _ _ w' h') fuel listed a w (Region.free_spec ho ht.free) (by simpa using ht.rdy)
    (.inl ⟨wanted_yes hh hg, fun w' hw' => hr a.eval w' (some d) pos aft g (fun o u e => eval_of hh e) hw'⟩) (hs a w hh) (h _ _ (hh.put hd v))
/-- an operation whose guard says no -/
theorem JA.no {so : List Own} {sH : Heaplet} {fuel i d j t : Nat} {b b' : Bool} {listed listed' : Array Bool} {op : Op} {ty : TypeId} {pos : String} {aft : Array Edge} {oj : Oper} (hreg : Reg ops) (hc : Calm Q)
    (ho : ops[i]? = some ⟨some d, op, ty, pos, aft, some (j, b)⟩) (ht : Take ops listed i listed') (hj : ops[j]? = some oj) (htj : oj.dst = some t) (hb : lk l t = some (.bool b')) (hne : (b' == b) = false)
    (hs : ∀ a w, Holds x l own H a w → Stab so sH w) (hd : Nat.blt d x.n = true)
    (h : JA x ops Q so sH fuel listed' ((d, undef) :: l) own H) : JA x ops Q so sH (fuel + 1) listed l own H := fun a w hh => by
  have hl := ht.nxt
  subst hl
  have hw : Region.wanted ⟨some d, op, ty, pos, aft, some (j, b)⟩ (yielded ops a.tmps) = false := by
    simp only [Region.wanted, yielded, hj, Option.bind_some, htj]
    have := hh.slots t _ hb
    cases hs : a.tmps[t]? with
    | none => simp [hs, undef] at this
    | some u => simp [hs] at this; subst this; simpa using hne
  exact wpAS_first (fun _ => trivial) ho (Region.noSelect_spec hreg.sel) hreg.noDefer (fun c a' w' h' => hc c _ _ w' h') fuel listed a w (Region.free_spec ho ht.free) (by simpa using ht.rdy)
    (.inr ⟨hw, rfl⟩) (hs a w hh) (h _ _ (hh.put hd undef))
theorem JA.noU {so : List Own} {sH : Heaplet} {fuel i d j t : Nat} {b : Bool} {listed listed' : Array Bool} {op : Op} {ty : TypeId} {pos : String} {aft : Array Edge} {oj : Oper} (hreg : Reg ops) (hc : Calm Q)
    (ho : ops[i]? = some ⟨some d, op, ty, pos, aft, some (j, b)⟩) (ht : Take ops listed i listed') (hj : ops[j]? = some oj) (htj : oj.dst = some t) (hb : lk l t = some undef)
    (hs : ∀ a w, Holds x l own H a w → Stab so sH w) (hd : Nat.blt d x.n = true)
    (h : JA x ops Q so sH fuel listed' ((d, undef) :: l) own H) : JA x ops Q so sH (fuel + 1) listed l own H := fun a w hh => by
  have hl := ht.nxt
  subst hl
  have hw : Region.wanted ⟨some d, op, ty, pos, aft, some (j, b)⟩ (yielded ops a.tmps) = false := by
    simp only [Region.wanted, yielded, hj, Option.bind_some, htj]
    have := hh.slots t _ hb
    cases hs : a.tmps[t]? with
    | none => simp
    | some u => simp [hs] at this; subst this; simp [undef]
  exact wpAS_first (fun _ => trivial) ho (Region.noSelect_spec hreg.sel) hreg.noDefer (fun c a' w' h' => hc c _ _ w' h') fuel listed a w (Region.free_spec ho ht.free) (by simpa using ht.rdy)
    (.inr ⟨hw, rfl⟩) (hs a w hh) (h _ _ (hh.put hd undef))
theorem JA.done {so : List Own} {sH : Heaplet} {fuel : Nat} {listed : Array Bool} (hr : Region.ready .any ops listed = []) (h : JN x (Q .normal) l own H) : JA x ops Q so sH fuel listed l own H := fun a w hh => by
  cases fuel with
  | zero => exact ⟨hr, h a w hh⟩
  | succ fuel => exact ⟨fun _ => h a w hh, by rw [hr]; simp⟩

theorem stab_of {so : List Own} {sH : Heaplet} (hle : Hle sH H) (hs : SubO so own) : ∀ a w, Holds x l own H a w → Stab so sH w := fun a w hh => by
  refine ⟨hh.mem.agr.le hle, ?_⟩
  induction so with
  | nil => intro p hp; simp at hp
  | cons s r ih =>
    intro p hp
    simp only [List.flatten_cons, List.mem_append] at hp
    rcases hp with hp | hp
    · obtain ⟨i, hi⟩ := hs.1
      exact hh.mem.ok.here p (List.mem_flatten.2 ⟨s, List.mem_of_getElem? hi, hp⟩)
    · exact ih hs.2 p hp
theorem JA.doneN {so : List Own} {sH : Heaplet} {fuel : Nat} {listed : Array Bool} {K : Act → World → Prop} (hr : Region.ready .any ops listed = []) (h : JN x K l own H) : JA x ops (onlyN K) so sH fuel listed l own H := JA.done hr h
/-- one operation of those that may come up -/
def JO (x : Cx) (ops : Array Oper) (Q : Exit → Act → World → Prop) (so : List Own) (sH : Heaplet) (fuel : Nat) (listed : Array Bool) (i : Nat) (l : Slots) (own : List Own) (H : Heaplet) : Prop :=
  ∀ a w, Holds x l own H a w → wpOpIn (Fw x.r) 0 x.P ops Q i (fun a' w' => Stab so sH w' ∧ wpAS (Fw x.r) 0 x.P .any ops Q (Stab so sH) fuel (listed.setIfInBounds i true) a' w') a w
theorem JA.one {so : List Own} {sH : Heaplet} {fuel i : Nat} {listed : Array Bool} (hr : Region.ready .any ops listed = [i]) (h1 : JO x ops Q so sH fuel listed i l own H) :
    JA x ops Q so sH (fuel + 1) listed l own H := fun a w hh => by
  refine ⟨fun h0 => (by rw [hr] at h0; cases h0), fun k hk => ?_⟩
  rw [hr] at hk; simp at hk; subst hk; exact h1 a w hh
theorem JA.two {so : List Own} {sH : Heaplet} {fuel i j : Nat} {listed : Array Bool} (hr : Region.ready .any ops listed = [i, j]) (h1 : JO x ops Q so sH fuel listed i l own H) (h2 : JO x ops Q so sH fuel listed j l own H) :
    JA x ops Q so sH (fuel + 1) listed l own H := fun a w hh => by
  refine ⟨fun h0 => (by rw [hr] at h0; cases h0), fun k hk => ?_⟩
  rw [hr] at hk; simp at hk; rcases hk with rfl | rfl
  · exact h1 a w hh
  · exact h2 a w hh
theorem JA.three {so : List Own} {sH : Heaplet} {fuel i j m : Nat} {listed : Array Bool} (hr : Region.ready .any ops listed = [i, j, m]) (h1 : JO x ops Q so sH fuel listed i l own H) (h2 : JO x ops Q so sH fuel listed j l own H)
    (h3 : JO x ops Q so sH fuel listed m l own H) : JA x ops Q so sH (fuel + 1) listed l own H := fun a w hh => by
  refine ⟨fun h0 => (by rw [hr] at h0; cases h0), fun k hk => ?_⟩
  rw [hr] at hk; simp at hk; rcases hk with rfl | rfl | rfl
  · exact h1 a w hh
  · exact h2 a w hh
  · exact h3 a w hh
/-- it is carried out: by any rule on the text's order, told of this one operation alone -/
theorem JO.step {so : List Own} {sH : Heaplet} {fuel i : Nat} {listed listed' : Array Bool} {dst : Option Tmp} {op : Op} {ty : TypeId} {pos : String} {aft : Array Edge} {g : Option (Nat × Bool)}
    (ho : ops[i]? = some ⟨dst, op, ty, pos, aft, g⟩) (hg : guardYes ops l g) (hl : listed.setIfInBounds i true = listed')
    (h : ∀ K : Act → World → Prop, (∀ l' own' H', (∀ a w, Holds x l' own' H' a w → Stab so sH w) → JA x ops Q so sH fuel listed' l' own' H' → JN x K l' own' H') →
      JL x ops (fun e a w => match e with | .normal => K a w | e => Q e a w) [⟨dst, op, ty, pos, aft, none⟩] l own H) :
    JO x ops Q so sH fuel listed i l own H := fun a w hh => by
  subst hl
  have := h (fun a' w' => Stab so sH w' ∧ wpAS (Fw x.r) 0 x.P .any ops Q (Stab so sH) fuel (listed.setIfInBounds i true) a' w')
    (fun l' own' H' hs hJ a' w' hh' => ⟨hs a' w' hh', hJ a' w' hh'⟩) a w hh
  simp only [wpLs, wanted_none, if_true] at this
  unfold wpOpIn
  simp only [ho]
  rw [if_pos (wanted_yes hh hg)]
  refine ⟨fun _ _ => trivial, ?_⟩
  have h2 := this.2
  have es : ∀ (ρ : Operand → Value), Oper.semAt (Fw x.r).round ρ ⟨dst, op, ty, pos, aft, g⟩ = Oper.semAt (Fw x.r).round ρ ⟨dst, op, ty, pos, aft, none⟩ := fun ρ => by
    unfold Oper.semAt; cases (Fw x.r).round <;> cases op <;> rfl
  rw [es]
  generalize (Oper.semAt (Fw x.r).round a.eval ⟨dst, op, ty, pos, aft, none⟩).run x.P w = r at *
  cases r with
  | ok y w' =>
    cases y <;> simp only [Oper.uponIn] at h2 ⊢ <;> first | exact h2 | exact ⟨h2.1, CallsIn.mono h2.2 (fun e w'' he => by cases e <;> exact he)⟩ | exact ⟨h2.1, RoundIn.mono h2.2 (fun e w'' he => by cases e <;> exact he)⟩
  | halt y w' => cases y <;> simp only [Oper.uponIn] at h2 ⊢ <;> exact h2
end Go.Ow
