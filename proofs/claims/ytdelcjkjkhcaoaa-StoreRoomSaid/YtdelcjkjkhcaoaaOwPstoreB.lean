/-
  What is proved here: what is written, what is seen, what a crash leaves: the disk in plain words.
-/
import Derived.Test.YtdelcjkjkhcaoaaOwPstoreA
namespace Go.Ow
set_option linter.unusedVariables false
set_option linter.unusedSimpArgs false

def noD : Disk := ⟨[], []⟩
theorem inI64_of {n : Int} (h : 0 ≤ n ∧ n < 256) : InI64 n := ⟨by omega, by omega⟩
theorem slices_Clip_Write_eq (l : List Write) : slices_Clip_Write l = some l := by
  unfold slices_Clip_Write
  rw [slc_eq (by omega) (by omega) (by omega)]
  simp [cut]
theorem guarded_eq {d : Disk} (h : Sized d) (is : Bool) (e : Disk) : dev_guarded d is e = some (if OKD d then (if is = true then (e, 0, e) else (noD, 2, e)) else (noD, 8, e)) := by
  unfold dev_guarded
  rw [dev_Check_eq h]
  simp only [Option.bind_some]
  by_cases c : OKD d
  · rw [if_pos c, if_pos c]
    cases is <;> rfl
  · rw [if_neg c, if_neg c]; rfl
def writeD (d : Disk) (at' : Int) (b : List UInt8) : Disk × Int :=
  if OKD d then (if 0 ≤ at' ∧ at' < 256 then (if b.length = 256 then (if d.Waits.length = 4096 then (noD, 9) else (⟨d.Blocks, d.Waits ++ [⟨at', b⟩]⟩, 0)) else (noD, 3)) else (noD, 2)) else (noD, 8)
theorem dev_Write_eq {d : Disk} (h : Sized d) {at' : Int} (ha : InI64 at') (b : List UInt8) : dev_Write d at' b = some (writeD d at' b) := by
  unfold dev_Write writeD
  rw [dev_place_eq ha]
  simp only [Option.bind_some]
  rw [guarded_eq h]
  simp only [Option.bind_some]
  by_cases c : OKD d
  · rw [if_pos c, if_pos c]
    by_cases c1 : 0 ≤ at' ∧ at' < 256
    · rw [decide_eq_true c1, if_pos rfl, if_pos c1]
      by_cases c2 : b.length = 256
      · rw [if_pos c2]
        dsimp only
        rw [show decide ((b.length : Int) = 256) = true from decide_eq_true (by omega)]
        by_cases c3 : d.Waits.length = 4096
        · rw [if_pos c3]
          rw [show decide ((d.Waits.length : Int) = 4096) = true from decide_eq_true (by omega)]
          rfl
        · rw [if_neg c3]
          rw [show decide ((d.Waits.length : Int) = 4096) = false from decide_eq_false (by omega), slices_Clip_Write_eq]
          have hm := c.mid
          have hw := c.2.1
          simp only [decide_true, Bool.not_true, cond_false, Option.bind_some]
          rw [app_eq (by simp only [List.length_cons, List.length_nil, LIM]; omega), dev_Twin_eq (d := Disk.mk d.Blocks (d.Waits ++ [Write.mk at' b])) ⟨hm.blocks, by simp only [List.length_append, List.length_cons, List.length_nil]; omega, hm.eb, fun w hw' => by
            rcases List.mem_append.1 hw' with h' | h'
            · exact hm.ew w h'
            · simp at h'; subst h'; simp only; omega⟩]
          rfl
      · rw [if_neg c2]
        dsimp only
        rw [show decide ((b.length : Int) = 256) = false from decide_eq_false (by omega)]
        rfl
    · rw [decide_eq_false c1, if_neg (by simp), if_neg c1]
      rfl
  · rw [if_neg c, if_neg c]; rfl
theorem OKD.write {d : Disk} (h : OKD d) {at' : Int} {b : List UInt8} (ha : 0 ≤ at' ∧ at' < 256) (hb : b.length = 256) (hw : d.Waits.length ≠ 4096) : OKD ⟨d.Blocks, d.Waits ++ [⟨at', b⟩]⟩ := by
  obtain ⟨h1, h2, h3, h4⟩ := h
  refine ⟨h1, by simp only [List.length_append, List.length_cons, List.length_nil]; omega, h3, fun w hw' => ?_⟩
  rcases List.mem_append.1 hw' with h' | h'
  · exact h4 w h'
  · simp at h'; subst h'; simp [okW, ha, hb]

/-! ### What is left of the writes -/
def layW (B : List (List UInt8)) (ws : List Write) : List (List UInt8) := ws.foldl (fun B w => B.set w.At.toNat w.Data) B
def KeysOk (M : List (Int × Write)) : Prop := (M.map (·.1)).Nodup ∧ ∀ p ∈ M, 0 ≤ p.1
theorem mem_putM {M : List (Int × Write)} {k : Int} {y : Write} {p : Int × Write} (h : p ∈ putM M k y) : p ∈ M ∨ p = (k, y) := by
  induction M with
  | nil => simp [putM] at h; exact .inr h
  | cons q r ih =>
    simp only [putM] at h
    split at h
    · rcases List.mem_cons.1 h with h' | h'
      · exact .inr h'
      · exact .inl (by simp [h'])
    · rcases List.mem_cons.1 h with h' | h'
      · exact .inl (by simp [h'])
      · exact (ih h').imp (fun z => by simp [z]) id
theorem keys_putM {M : List (Int × Write)} {k : Int} {y : Write} (h : (M.map (·.1)).Nodup) : ((putM M k y).map (·.1)).Nodup := by
  induction M with
  | nil => simp [putM]
  | cons q r ih =>
    simp only [List.map_cons, List.nodup_cons] at h
    simp only [putM]
    split
    · rename_i e
      simp only [List.map_cons, List.nodup_cons]; rw [← e]; exact h
    · rename_i e
      simp only [List.map_cons, List.nodup_cons]
      refine ⟨fun hm => ?_, ih h.2⟩
      obtain ⟨p, hp, hpe⟩ := List.mem_map.1 hm
      rcases mem_putM hp with h' | h'
      · exact h.1 (List.mem_map.2 ⟨p, h', hpe⟩)
      · subst h'; exact e hpe.symm
theorem KeysOk.put {M : List (Int × Write)} {k : Int} {y : Write} (h : KeysOk M) (hk : 0 ≤ k) : KeysOk (putM M k y) :=
  ⟨keys_putM h.1, fun p hp => (mem_putM hp).elim (h.2 p) (fun e => by subst e; exact hk)⟩
theorem layM_set {M : List (Int × Write)} {L : List (List UInt8)} {j : Nat} {v : List UInt8} (h : ∀ p ∈ M, p.1.toNat ≠ j) :
    layM (fun y : Write => y.Data) (L.set j v) M = (layM (fun y : Write => y.Data) L M).set j v := by
  unfold layM
  induction M generalizing L with
  | nil => rfl
  | cons p r ih =>
    simp only [List.foldl_cons]
    rw [List.set_comm _ _ (fun e => h p (by simp) e.symm), ih (fun q hq => h q (by simp [hq]))]
theorem layM_put {M : List (Int × Write)} {L : List (List UInt8)} {k : Int} {y : Write} (h : KeysOk M) (hk : 0 ≤ k) :
    layM (fun y : Write => y.Data) L (putM M k y) = (layM (fun y : Write => y.Data) L M).set k.toNat y.Data := by
  induction M generalizing L with
  | nil => rfl
  | cons p r ih =>
    obtain ⟨h1, h2⟩ := h
    simp only [List.map_cons, List.nodup_cons] at h1
    simp only [putM]
    split
    · rename_i e
      have hr : ∀ q ∈ r, q.1.toNat ≠ k.toNat := fun q hq e' => h1.1 (List.mem_map.2 ⟨q, hq, by have := h2 q (by simp [hq]); omega⟩)
      show layM _ (L.set k.toNat y.Data) r = (layM _ (L.set p.1.toNat p.2.Data) r).set k.toNat y.Data
      rw [← layM_set hr, e, List.set_set]
    · exact ih ⟨h1.2, fun q hq => h2 q (by simp [hq])⟩
def lastM (ws : List Write) : List (Int × Write) := ws.foldl (fun M w => putM M w.At w) []
theorem lastM_snoc (ws : List Write) (w : Write) : lastM (ws ++ [w]) = putM (lastM ws) w.At w := by simp [lastM]
theorem lastM_spec (ws : List Write) (L : List (List UInt8)) (h : ∀ w ∈ ws, 0 ≤ w.At) : KeysOk (lastM ws) ∧ layM (fun y : Write => y.Data) L (lastM ws) = layW L ws ∧ ∀ p ∈ lastM ws, ∃ w ∈ ws, p.1 = w.At := by
  suffices H : ∀ (n : Nat) (ws : List Write), ws.length = n → (∀ w ∈ ws, 0 ≤ w.At) → KeysOk (lastM ws) ∧ layM (fun y : Write => y.Data) L (lastM ws) = layW L ws ∧ ∀ p ∈ lastM ws, ∃ w ∈ ws, p.1 = w.At from H _ ws rfl h
  intro n
  induction n with
  | zero => intro ws hn _; obtain rfl := List.length_eq_zero_iff.1 hn; exact ⟨⟨by simp [lastM], by simp [lastM]⟩, rfl, by simp [lastM]⟩
  | succ n ih =>
    intro ws hn h
    obtain ⟨ws', w, rfl⟩ : ∃ a b, ws = a ++ [b] := ⟨ws.dropLast, ws.getLast (by intro e; subst e; simp at hn), (List.dropLast_concat_getLast _).symm⟩
    obtain ⟨h1, h2, h3⟩ := ih ws' (by simpa using hn) (fun w hw => h w (by simp [hw]))
    have hw := h w (by simp)
    rw [lastM_snoc]
    refine ⟨h1.put hw, ?_, fun p hp => ?_⟩
    · rw [layM_put h1 hw, h2]; simp [layW]
    · rcases mem_putM hp with h' | h'
      · obtain ⟨w', a, b⟩ := h3 p h'; exact ⟨w', by simp [a], b⟩
      · subst h'; exact ⟨w, by simp, rfl⟩
theorem layW_length (B : List (List UInt8)) (ws : List Write) : (layW B ws).length = B.length := by
  unfold layW
  induction ws generalizing B with
  | nil => rfl
  | cons w ws ih => simp only [List.foldl_cons, ih, List.length_set]
theorem layW_all {B : List (List UInt8)} {ws : List Write} (h : ∀ b ∈ B, b.length = 256) (hw : ∀ w ∈ ws, w.Data.length = 256) : ∀ b ∈ layW B ws, b.length = 256 := by
  unfold layW
  induction ws generalizing B with
  | nil => exact h
  | cons w ws ih =>
    simp only [List.foldl_cons]
    refine ih (fun b hb => ?_) (fun w' hw' => hw w' (by simp [hw']))
    rcases List.mem_or_eq_of_mem_set hb with h' | h'
    · exact h b h'
    · rw [h']; exact hw w (by simp)
theorem okW_at {w : Write} (h : okW w = true) : 0 ≤ w.At ∧ w.At < 256 := by
  simp only [okW, Bool.and_eq_true, decide_eq_true_eq] at h; exact h.1
theorem okW_data {w : Write} (h : okW w = true) : w.Data.length = 256 := by
  simp only [okW, Bool.and_eq_true, decide_eq_true_eq] at h; exact h.2
theorem clone45 {l : List (List UInt8)} (h : l.length ≤ 1000) : slices_Clone_byte_L l = some l := by
  unfold slices_Clone_byte_L; rw [app_eq (by simp only [List.length_nil, LIM]; omega)]; rfl
theorem lasts_loop (d : Disk) (h : d.Waits.length ≤ 5000) : dev_lasts d = some (lastM d.Waits) := by
  unfold dev_lasts
  rw [loop_each' d.Waits (fun i (r : List (Int × Write)) => (r, i)) (fun w r => some (.inl (putM r w.At w))) (fun r => r) (fun i hi r => ?_) (fun r => ?_) (small_lt (by omega)) [], forL_map]
  · rfl
  · unfold dev_lasts_l1
    rw [cI, if_pos hi, idx_nat _ hi]
    rfl
  · unfold dev_lasts_l1
    rw [cI, if_neg (by omega)]
/-- the blocks as the writes leave them -/
def seenB (d : Disk) : List (List UInt8) := layW d.Blocks d.Waits
theorem okd_lay {d : Disk} (h : OKD d) (ws : List Write) (hw : ∀ w ∈ ws, w ∈ d.Waits) : OKD ⟨layW d.Blocks ws, []⟩ :=
  ⟨by simp only [layW_length]; exact h.1, by simp, layW_all h.2.2.1 (fun w hw' => okW_data (h.2.2.2 w (hw w hw'))), by simp⟩
theorem lay_range {d : Disk} (h : OKD d) {ws : List Write} (hw : ∀ w ∈ ws, w ∈ d.Waits) : ∀ p ∈ lastM ws, 0 ≤ p.1 ∧ p.1.toNat < d.Blocks.length := fun p hp => by
  obtain ⟨w, h1, h2⟩ := (lastM_spec ws [] (fun w hw' => (okW_at (h.2.2.2 w (hw w hw'))).1)).2.2 p hp
  have := okW_at (h.2.2.2 w (hw w h1))
  rw [h2, h.1]; omega
theorem dev_left_eq {d : Disk} (h : OKD d) : dev_left d = some ⟨seenB d, []⟩ := by
  unfold dev_left
  rw [clone45 h.mid.blocks]
  simp only [Option.bind_some]
  rw [lasts_loop _ h.mid.waits]
  simp only [Option.bind_some]
  unfold layR
  rw [if_pos (lay_range h (fun w hw => hw)), (lastM_spec d.Waits d.Blocks (fun w hw => (okW_at (h.2.2.2 w hw)).1)).2.1]
  dsimp only
  rw [dev_Twin_eq (okd_lay h d.Waits (fun w hw => hw)).mid]
  rfl
theorem guarded2_eq {d : Disk} (h : Sized d) (is : Bool) : dev_guarded_v2 d is d = some (if OKD d then (if is = true then (⟨seenB d, []⟩, 0, d) else (noD, 2, d)) else (noD, 8, d)) := by
  unfold dev_guarded_v2
  rw [dev_Check_eq h]
  simp only [Option.bind_some]
  by_cases c : OKD d
  · rw [if_pos c, if_pos c]
    cases is
    · rfl
    · unfold dev_Read_1; rw [dev_left_eq c]; rfl
  · rw [if_neg c, if_neg c]; rfl
theorem seenB_length {d : Disk} (h : OKD d) : (seenB d).length = 256 := by unfold seenB; rw [layW_length]; exact h.1
theorem dev_Read_eq {d : Disk} (h : OKD d) {i : Nat} (hi : i < 256) : dev_Read d (i : Int) = some ((seenB d)[i]'(by rw [seenB_length h]; exact hi), 0) := by
  unfold dev_Read
  rw [dev_place_eq (inI64_of (by omega))]
  simp only [Option.bind_some]
  rw [guarded2_eq h.sized, if_pos h, decide_eq_true (show 0 ≤ (i : Int) ∧ (i : Int) < 256 by omega), if_pos rfl]
  simp only [Option.bind_some, decide_true, Bool.not_true, cond_false]
  rw [idx_nat _ (by rw [seenB_length h]; exact hi)]
end Go.Ow
