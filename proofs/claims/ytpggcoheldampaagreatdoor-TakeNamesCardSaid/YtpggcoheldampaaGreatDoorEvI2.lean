import Derived.Test.YtpggcoheldampaaGreatDoorOwMe
/-
  What is proved here: functions that are computed at once, each by its contract: maps of space; bytes counted, and found.
-/
namespace Go.Ev
open Go Go.Ow Go.RowKit
set_option linter.unusedVariables false
set_option linter.unusedSimpArgs false

variable {P : Program} {m : Mp} {h : Hp} {S : Nat → Prop} {w0 w : World}
section
variable {β : Type}
noncomputable def allN (f : Nat → Bool) (l : List Nat) : Bool := List.rec true (fun b _ ih => Bool.rec false ih (f b)) l
theorem allN_some {f : Nat → Bool} : ∀ {l : List Nat}, allN f l = true → ∀ b ∈ l, f b = true
  | [], _ => fun b hb => by cases hb
  | a :: l, e => by
    have e : (Bool.rec false (allN f l) (f a) : Bool) = true := e
    cases hf : f a with
    | false => rw [hf] at e; cases e
    | true =>
      rw [hf] at e
      intro b hb
      rcases List.mem_cons.1 hb with rfl | hb
      · exact hf
      · exact allN_some e b hb
end
noncomputable def nSpC : Phi := fun vs h => a1 vs fun v => rdB h v fun n cs => natsL cs fun l => takeA l 12 [] fun t => Bool.rec none (some (.int .i64 0, h)) (and (Nat.beq n 256) (and (allN (fun b => Nat.ble b 2) l) (allN (Nat.beq 1) t)))
theorem nSpC_ok {f : FuncId} (hE : Enters P f) (C : ∀ (b : List UInt8) (H : Heaplet) (a : Option Addr) (n c : Nat), IsSlice H RU8 1 (.slice a n c) b → ∀ r, space_Check b = some r → Does P f #[.slice a n c] [] H (fun u _ _ => u = .int .i64 r)) : SFn P f nSpC :=
  .of hE (fun vs h v h' e m S w0 w r hb => by
    obtain ⟨a, rfl, e⟩ := a1_some e
    obtain ⟨b, e, hs⟩ := rdB_ok e r
    rw [natsL_eq] at e
    obtain ⟨_, e⟩ := takeA_some e
    obtain ⟨hk, e⟩ := bT e
    cases e
    simp only [Bool.and_eq_true] at hk
    obtain ⟨k1, k2, k3⟩ := hk
    have k1 := Nat.eq_of_beq_eq_true k1
    have hok : okS b := by
      refine ⟨k1, fun x hx => ?_, fun x hx => ?_⟩
      · rw [UInt8.le_iff_toNat_le]; exact ble_le (allN_some k2 _ (List.mem_map_of_mem hx))
      · have := allN_some k3 x.toNat (by rw [List.append_nil, ← List.map_take]; exact List.mem_map_of_mem hx)
        have := Nat.eq_of_beq_eq_true this
        exact UInt8.toNat_inj.1 this.symm
    obtain ⟨ao, cap, q, _⟩ := id hs
    rw [q] at hs
    exact .flat r (by rw [List.map_cons, List.map_nil, q]; exact C b _ _ _ _ hs 0 (by rw [space_Check_eq, if_pos hok])) rfl (fun u K' H' q => q))
theorem rep_one : bytes_Repeat [1] 12 = some (List.replicate 12 1) := by decide +kernel
theorem spaceNew_eq : space_New = some (List.replicate 12 1 ++ List.replicate 244 0) := by
  unfold space_New
  rw [rep_one, Option.bind_some, show (244 : Int) = ((244 : Nat) : Int) from rfl, mks_eq (lim_le (by omega)), app_eq (lim_le (by rw [List.length_replicate, List.length_replicate]; omega))]
def nrow : List Value := List.replicate 12 (.int .u8 (.ofNat 1)) ++ List.replicate 244 (.int .u8 (.ofNat 0))
theorem nrow_eq : nrow = bvs (List.replicate 12 1 ++ List.replicate 244 0) := by
  unfold nrow bvs
  rw [List.map_append, List.map_replicate, List.map_replicate]
  exact congr (congrArg _ (congrArg (List.replicate 12) rfl)) (congrArg (List.replicate 244) rfl)
noncomputable def nSpN (E : TypeId) : Phi := fun vs h => List.rec (allA nrow fun z => lyR E 256 z h fun v h => some (v, h)) (fun _ _ _ => none) vs
theorem nSpN_ok {f : FuncId} {E : TypeId} (hE : Enters P f) (C : ∀ (H : Heaplet) (r : List UInt8), space_New = some r → Does P f #[] [] H (fun u K' H' => ∃ K0, K' = [K0] ∧ RowOf (Ow.New H H) RU8 0 E 1 u r K0)) : SFn P f (nSpN E) :=
  .of hE (fun vs h v h' e m S w0 w r hb => by
    cases vs with
    | cons => cases e
    | nil =>
      have e : (allA nrow fun z => lyR E 256 z h fun v h => some (v, h)) = some (v, h') := e
      rw [allA_eq, nrow_eq] at e
      have hl : (List.replicate 12 (1 : UInt8) ++ List.replicate 244 0).length = 256 := by rw [List.length_append, List.length_replicate, List.length_replicate]
      generalize hg : List.replicate 12 (1 : UInt8) ++ List.replicate 244 0 = row at e hl
      have e : lyR E row.length (bvs row) h (fun v h => some (v, h)) = some (v, h') := by rw [hl]; exact e
      refine .of (C _ row (by rw [spaceNew_eq, hg])) (fun u K' H' w' hR hM => ?_)
      obtain ⟨K0, rfl, hR⟩ := hR
      obtain ⟨m', h2, v2, k1, x1, x2, x3, x4, x5⟩ := lyR_ok e r hR (by simp) hM
      cases k1
      exact ⟨m', x1, x2, x3, x4, x5⟩)
/-! ### Bytes counted, and found -/
noncomputable def cntL {β : Type} (c : Nat) (l : List Nat) : Nat → (Nat → Option β) → Option β := List.rec (fun n k => k n) (fun b _ ih n k => Bool.rec (ih n k) (fN (Nat.succ n) fun n => ih n k) (Nat.beq b c)) l
theorem beq_u8 (a b : UInt8) : Nat.beq a.toNat b.toNat = (a == b) := by
  cases hc : (a == b) with
  | true => have := eq_of_beq hc; subst this; exact Nat.beq_refl _
  | false =>
    cases hn : Nat.beq a.toNat b.toNat with
    | false => rfl
    | true =>
      have := UInt8.toNat_inj.1 (Nat.eq_of_beq_eq_true hn)
      subst this; simp at hc
theorem cntL_eq {β : Type} (c : UInt8) : ∀ (l : List UInt8) (n : Nat) (k : Nat → Option β), cntL c.toNat (l.map UInt8.toNat) n k = k (l.foldl (fun n x => if x == c then n + 1 else n) n)
  | [], n, k => rfl
  | b :: l, n, k => by
    show (Bool.rec (cntL c.toNat (l.map UInt8.toNat) n k) (fN (Nat.succ n) fun n => cntL c.toNat (l.map UInt8.toNat) n k) (Nat.beq b.toNat c.toNat) : Option β) = _
    rw [beq_u8, List.foldl_cons, fN_eq]
    cases hc : (b == c) with
    | true => rw [if_pos rfl]; exact cntL_eq c l (n + 1) k
    | false => rw [if_neg (by simp)]; exact cntL_eq c l n k
def one {β : Type} (l : List Nat) (k : Nat → Option β) : Option β := match l with | [x] => k x | _ => none
theorem count1 (b : List UInt8) (x : UInt8) : bytes_Count b [x] = some ((cntB b x : Nat) : Int) := by
  unfold bytes_Count
  have h : idx [x] 0 (fun y => some ((cntB b y : Nat) : Int)) = some ((cntB b x : Nat) : Int) := idx_nat (l := [x]) (i := 0) _ (by simp)
  rw [decide_eq_false (by simp), cond_false, decide_eq_true (by simp), cond_true, h]
noncomputable def nCnt : Phi := fun vs h => a2 vs fun v y => rdB h v fun n cs => natsL cs fun l => rdB h y fun n2 cs2 => natsL cs2 fun l2 => one l2 fun c => cntL c l 0 fun n => some (.int .i64 (.ofNat n), h)
theorem nCnt_ok {f : FuncId} (hE : Enters P f) (C : ∀ (b b2 : List UInt8) (H : Heaplet) (a : Option Addr) (n c : Nat) (a2 : Option Addr) (n2 c2 : Nat), IsSlice H RU8 1 (.slice a n c) b → IsSlice H RU8 1 (.slice a2 n2 c2) b2 → ∀ r, bytes_Count b b2 = some r → Does P f #[.slice a n c, .slice a2 n2 c2] [] H (fun u _ _ => u = .int .i64 r)) : SFn P f nCnt :=
  .of hE (fun vs h v h' e m S w0 w r hb => by
    obtain ⟨a, y, rfl, e⟩ := a2_some e
    obtain ⟨b, e2, hs⟩ := rdB_ok e r
    rw [natsL_eq] at e2
    obtain ⟨b2, e3, hs2⟩ := rdB_ok e2 r
    rw [natsL_eq] at e3
    unfold one at e3
    split at e3
    · rename_i c hc
      match b2, hc with
      | [x], hc =>
        cases hc
        have e4 := (cntL_eq x b 0 _).symm.trans e3
        cases e4
        obtain ⟨ao, cap, q, _⟩ := id hs
        obtain ⟨ao2, cap2, q2, _⟩ := id hs2
        rw [q] at hs
        rw [q2] at hs2
        exact .flat r (by rw [List.map_cons, List.map_cons, List.map_nil, q, q2]; exact C b [x] _ _ _ _ _ _ _ hs hs2 ((cntB b x : Nat) : Int) (count1 b x)) rfl (fun u K' H' q => q)
    · cases e3)
noncomputable def idxL {β : Type} (c : Nat) (k0 : Option β) (k : Nat → Option β) (l : List Nat) : Nat → Option β := List.rec (fun _ => k0) (fun b _ ih i => Bool.rec (fN (Nat.succ i) fun i => ih i) (k i) (Nat.beq b c)) l
theorem idxL_eq {β : Type} (c : UInt8) {k0 : Option β} {k : Nat → Option β} {K : Int → Option β} (h0 : k0 = K (-1)) (h1 : ∀ n : Nat, k n = K (n : Int)) : ∀ (l : List UInt8) (i : Nat), idxL c.toNat k0 k (l.map UInt8.toNat) i = K (if Lib.indexByte l c = -1 then -1 else Lib.indexByte l c + (i : Int))
  | [], i => h0
  | b :: l, i => by
    show (Bool.rec (fN (Nat.succ i) fun i => idxL c.toNat k0 k (l.map UInt8.toNat) i) (k i) (Nat.beq b.toNat c.toNat) : Option β) = _
    rw [beq_u8, fN_eq]
    have hge := Lib.indexByte_ge l c
    cases hc : (b == c) with
    | true =>
      have : Lib.indexByte (b :: l) c = 0 := by unfold Lib.indexByte; rw [hc]; rfl
      rw [this, h1]; simp
    | false =>
      show idxL c.toNat k0 k (l.map UInt8.toNat) (i + 1) = _
      rw [idxL_eq c h0 h1 l (i + 1)]
      have : Lib.indexByte (b :: l) c = if Lib.indexByte l c == -1 then -1 else Lib.indexByte l c + 1 := by
        conv => lhs; unfold Lib.indexByte
        rw [hc, if_neg (by simp)]
      rw [this]
      congr 1
      by_cases hq : Lib.indexByte l c = -1
      · simp [hq]
      · have : (Lib.indexByte l c == -1) = false := by simpa using hq
        rw [if_neg hq, this]
        simp only [Bool.false_eq_true, if_false]
        rw [if_neg (by omega)]
        omega
def u8N {β : Type} (v : Value) (k : Nat → Option β) : Option β := match v with | .int .u8 (.ofNat n) => cond (Nat.blt n 256) (k n) none | _ => none
theorem u8N_some {β : Type} {v : Value} {k : Nat → Option β} {x : β} (e : u8N v k = some x) : ∃ c : UInt8, v = .int .u8 (c.toNat : Int) ∧ k c.toNat = some x := by
  unfold u8N at e; split at e
  · rename_i n
    cases hc : Nat.blt n 256 with
    | false => rw [hc] at e; cases e
    | true =>
      rw [hc] at e
      have : (UInt8.ofNat n).toNat = n := by simp; exact blt_lt hc
      exact ⟨UInt8.ofNat n, by rw [this]; rfl, by rw [this]; exact e⟩
  · cases e
noncomputable def nIdx : Phi := fun vs h => a2 vs fun v y => rdB h v fun n cs => natsL cs fun l => u8N y fun c => idxL c (some (.int .i64 (-1), h)) (fun n => some (.int .i64 (.ofNat n), h)) l 0
theorem nIdx_ok {f : FuncId} (hE : Enters P f) (C : ∀ (b : List UInt8) (x : UInt8) (H : Heaplet) (a : Option Addr) (n c : Nat), IsSlice H RU8 1 (.slice a n c) b → Does P f #[.slice a n c, .int .u8 (x.toNat : Int)] [] H (fun u _ _ => u = .int .i64 (Lib.indexByte b x))) : SFn P f nIdx :=
  .of hE (fun vs h v h' e m S w0 w r hb => by
    obtain ⟨a, y, rfl, e⟩ := a2_some e
    obtain ⟨b, e2, hs⟩ := rdB_ok e r
    rw [natsL_eq] at e2
    obtain ⟨x, rfl, e3⟩ := u8N_some e2
    have e3 := (idxL_eq x (k0 := some (Value.int .i64 (-1), h)) (k := fun n => some (Value.int .i64 (.ofNat n), h)) (K := fun i => some (Value.int .i64 i, h)) rfl (fun n => rfl) b 0).symm.trans e3
    have : (if Lib.indexByte b x = -1 then -1 else Lib.indexByte b x + ((0 : Nat) : Int)) = Lib.indexByte b x := by split <;> omega
    rw [this] at e3
    cases e3
    obtain ⟨ao, cap, q, _⟩ := id hs
    rw [q] at hs
    exact .flat r (by rw [List.map_cons, List.map_cons, List.map_nil, q, inst_int]; exact C b x _ _ _ _ hs) rfl (fun u K' H' q => q))
end Go.Ev
