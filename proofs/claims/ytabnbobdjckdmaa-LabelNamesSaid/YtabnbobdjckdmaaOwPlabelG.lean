/-
  What is proved here: labels of two slots may be put in either order; what a crash leaves: the laws, in plain words.
-/
import Derived.Test.YtabnbobdjckdmaaOwPlabelF
namespace Go.Ow
set_option linter.unusedVariables false
set_option linter.unusedSimpArgs false

theorem set_twice {α : Type} (B : List α) (i : Nat) (v : α) : (B.set i v).set i v = B.set i v := List.set_set ..
theorem nz_dec {e : Int} (h : e ≠ 0) : (!decide (e = 0)) = true := by rw [decide_eq_false h]; rfl
theorem law_LabelApart (d : Disk) (l m : Label) (at' : Int) (b : List UInt8) (hd : Sized d) (ha : InI64 at') : law11_LabelApart d l m at' b = some true := by
  unfold law11_LabelApart
  obtain ⟨g, hg⟩ := great_tot hd
  rw [alive_eq, Option.bind_some, hg]
  simp only [Bool.not_true, cond_false]
  rw [Option.bind_some]
  cases g
  case true => rfl
  simp only [cond_false]
  by_cases hb : 10000 < (b.length : Int)
  · rw [decide_eq_true hb]; rfl
  rw [decide_eq_false hb]
  simp only [cond_false]
  rw [label_Put_eq hd, Option.bind_some, label_Put_eq (putD_sized l), Option.bind_some, label_Put_eq hd, Option.bind_some, label_Put_eq (putD_sized m), Option.bind_some]
  rcases putD_cases d l with ⟨h1, -⟩ | ⟨a1, a2, a3, a4, a5, a6⟩
  · rw [nz_dec h1]; rfl
  rcases putD_cases (putD d l).1 m with ⟨h1, -⟩ | ⟨b1, b2, b3, b4, b5, b6⟩
  · rw [nz_dec h1]; cases hx : (!decide ((putD d l).2 = 0)) <;> rfl
  rcases putD_cases d m with ⟨h1, -⟩ | ⟨c1, c2, c3, c4, c5, c6⟩
  · rw [nz_dec h1]; cases hx : (!decide ((putD d l).2 = 0)) <;> cases hy : (!decide ((putD (putD d l).1 m).2 = 0)) <;> rfl
  rcases putD_cases (putD d m).1 l with ⟨h1, -⟩ | ⟨d1, d2, d3, d4, d5, d6⟩
  · rw [nz_dec h1]; cases hx : (!decide ((putD d l).2 = 0)) <;> cases hy : (!decide ((putD (putD d l).1 m).2 = 0)) <;> cases hz : (!decide ((putD d m).2 = 0)) <;> rfl
  have z1 : (putD d l).2 = 0 := by rw [a5]
  have z2 : (putD (putD d l).1 m).2 = 0 := by rw [b5]
  have z3 : (putD d m).2 = 0 := by rw [c5]
  have z4 : (putD (putD d m).1 l).2 = 0 := by rw [d5]
  rw [z1, z2, z3, z4]
  simp only [decide_true, Bool.not_true, cond_false]
  rw [label_Find_eq b3.sized, Option.bind_some, label_Find_eq d3.sized, Option.bind_some]
  have f2 : (findD (putD (putD d l).1 m).1).2 = 0 := by rw [findD_ok b3]
  have g2 : (findD (putD (putD d m).1 l).1).2 = 0 := by rw [findD_ok d3]
  rw [f2, g2]
  simp only [decide_true, Bool.not_true, cond_false]
  rw [label_Slot_eq, Option.bind_some, label_Slot_eq, Option.bind_some]
  generalize hx2 : (putD (putD d l).1 m).1 = x2 at *
  generalize hy2 : (putD (putD d m).1 l).1 = y2 at *
  have hB : (seenB d).length = 256 := seenB_length a1
  have first : (bif !decide (((l.Gen.toNat % 4 : Nat) : Int) = ((m.Gen.toNat % 4 : Nat) : Int)) then (Option.bind (law11_same (findD x2).1 (findD y2).1) fun x_80 => bif !x_80 then (some (.inr ())) else (some (.inl ()))) else (some (.inl () : Unit ⊕ Unit))) = some (.inl ()) := by
    by_cases c : ((l.Gen.toNat % 4 : Nat) : Int) = ((m.Gen.toNat % 4 : Nat) : Int)
    · rw [decide_eq_true c]; rfl
    · rw [decide_eq_false c]
      have hne : slotN l ≠ slotN m := fun e => c (by unfold slotN at e; omega)
      have e : findD x2 = findD y2 := by
        rw [findD_ok b3, findD_ok d3, b6, d6, a6, c6, List.set_comm _ _ hne]
      rw [← e]
      simp only [Bool.not_false, cond_true]
      rw [find_same, Option.bind_some]; rfl
  rw [first, Option.bind_some]
  simp only [Sum.elim_inl]
  rw [label_Put_eq b3.sized, Option.bind_some, label_Find_eq (putD_sized m), Option.bind_some]
  have second : (bif decide ((putD x2 m).2 = 0) then (bif !decide ((findD (putD x2 m).1).2 = 0) then (some (.inr ())) else (Option.bind (law11_same (findD (putD x2 m).1).1 (findD x2).1) fun x_106 => bif !x_106 then (some (.inr ())) else (some (.inl ())))) else (some (.inl () : Unit ⊕ Unit))) = some (.inl ()) := by
    rcases putD_cases x2 m with ⟨h1, -⟩ | ⟨e1, e2, e3, e4, e5, e6⟩
    · rw [decide_eq_false h1]; rfl
    · have e : findD (putD x2 m).1 = findD x2 := by
        rw [findD_ok e3, findD_ok b3, e6, b6, set_twice]
      rw [e, f2, show (putD x2 m).2 = 0 by rw [e5]]
      simp only [decide_true, cond_true, Bool.not_true, cond_false]
      rw [find_same, Option.bind_some]; rfl
  rw [second, Option.bind_some]
  simp only [Sum.elim_inl]
  rw [dev_Write_eq b3.sized ha, Option.bind_some]
  rcases writeD_cases x2 at' b with ⟨h1, -⟩ | ⟨w1, w2, w3, w4, w5⟩
  · rw [nz_dec h1]; rfl
  have okw := b3.write w2 w3 w4
  rw [w5]
  simp only [decide_true, Bool.not_true, cond_false]
  by_cases c : at' < 4
  · rw [decide_eq_true c]; rfl
  rw [decide_eq_false c]
  simp only [cond_false]
  rw [label_Find_eq okw.sized, Option.bind_some]
  have e : findD (Disk.mk x2.Blocks (x2.Waits ++ [Write.mk at' b])) = findD x2 := by
    rw [findD_ok okw, findD_ok b3]
    rw [show seenB (Disk.mk x2.Blocks (x2.Waits ++ [Write.mk at' b])) = (seenB x2).set at'.toNat b from by simp only [seenB, layW, List.foldl_append, List.foldl_cons, List.foldl_nil]]
    rw [allB_high (by omega)]
  rw [e, f2]
  simp only [decide_true, cond_true]
  rw [find_same, Option.bind_some]
  rfl

/-! ### A crash with one write that waits -/
def keptW (k : Bool) (w : Write) : List Write := if k then [w] else []
theorem three_fuel' : 3 ≤ FUEL := by decide
theorem lasts2_one (B : List (List UInt8)) (w : Write) (k : Bool) : dev_lasts_v2 (Disk.mk B [w]) [k] = some (lastM (keptW k w), [k]) := by
  unfold dev_lasts_v2
  have h1 : dev_lasts_v2_l1 (Disk.mk B [w]) ([k], [], 0) = some (.inl ([k], lastM (keptW k w), 1)) := by
    unfold dev_lasts_v2_l1
    cases k <;> rfl
  have h2 : dev_lasts_v2_l1 (Disk.mk B [w]) ([k], lastM (keptW k w), 1) = some (.inr ([k], lastM (keptW k w))) := by
    unfold dev_lasts_v2_l1; rfl
  rw [loop_of three_fuel' (by rw [run_st h1, run_en h2])]
  rfl
theorem left2_one {d : Disk} (h : OKD d) {w : Write} (hw : d.Waits = [w]) (k : Bool) : dev_left_v2 d [k] = some (⟨layW d.Blocks (keptW k w), []⟩, [k]) := by
  have hm : ∀ w' ∈ keptW k w, w' ∈ d.Waits := fun w' hw' => by
    rw [hw]; unfold keptW at hw'; split at hw'
    · exact hw'
    · cases hw'
  unfold dev_left_v2
  rw [clone45 h.mid.blocks, Option.bind_some, Option.bind_some, hw, lasts2_one, Option.bind_some]
  unfold layR
  dsimp only
  rw [if_pos (lay_range h hm), (lastM_spec _ d.Blocks (fun w' hw' => (okW_at (h.2.2.2 w' (hm w' hw'))).1)).2.1]
  rw [dev_Twin_eq (okd_lay h _ hm).mid]
  rfl
theorem crash_one {d : Disk} (h : OKD d) {w : Write} (hw : d.Waits = [w]) (k : Bool) : dev_Crash d [k] = some (⟨layW d.Blocks (keptW k w), []⟩, 0) := by
  unfold dev_Crash dev_guarded_v3
  rw [dev_Check_eq h.sized, if_pos h, Option.bind_some]
  rw [decide_eq_true (show (([k] : List Bool).length : Int) = (d.Waits.length : Int) by rw [hw]; rfl)]
  simp only [decide_true, Bool.not_true, cond_false]
  unfold dev_Crash_1
  rw [left2_one h hw k]
  rfl
theorem law_LabelLost (d : Disk) (l : Label) (keep : Bool) (hd : Sized d) : law11_LabelLost d l keep = some true := by
  unfold law11_LabelLost
  obtain ⟨g, hg⟩ := great_tot hd
  rw [alive_eq, Option.bind_some, hg]
  simp only [Bool.not_true, cond_false]
  rw [Option.bind_some]
  cases g
  case true => rfl
  simp only [cond_false]
  by_cases hw : 0 < (d.Waits.length : Int)
  · rw [decide_eq_true hw]; rfl
  have hw0 : d.Waits = [] := List.length_eq_zero_iff.1 (by omega)
  rw [decide_eq_false hw]
  simp only [cond_false]
  rw [label_Put_eq hd, Option.bind_some]
  rcases putD_cases d l with ⟨h1, -⟩ | ⟨a1, a2, a3, a4, a5, a6⟩
  · rw [nz_dec h1]; rfl
  have z1 : (putD d l).2 = 0 := by rw [a5]
  rw [z1]
  simp only [decide_true, Bool.not_true, cond_false]
  have hx : (putD d l).1 = Disk.mk d.Blocks [Write.mk ((slotN l : Nat) : Int) (blockL l)] := by rw [a5, hw0]; rfl
  generalize (putD d l).1 = x at *
  have hxw : x.Waits = [Write.mk ((slotN l : Nat) : Int) (blockL l)] := by rw [hx]
  have hxb : x.Blocks = d.Blocks := by rw [hx]
  rw [crash_one a3 hxw keep, Option.bind_some]
  have okc : OKD ⟨layW x.Blocks (keptW keep (Write.mk ((slotN l : Nat) : Int) (blockL l))), []⟩ := okd_lay a3 _ (fun w' hw' => by
    rw [hxw]; unfold keptW at hw'; split at hw'
    · exact hw'
    · cases hw')
  rw [label_Find_eq hd, Option.bind_some, label_Find_eq a3.sized, Option.bind_some, label_Find_eq okc.sized, Option.bind_some]
  have s1 : (findD d).2 = 0 := by rw [findD_ok a1]
  have s2 : (findD x).2 = 0 := by rw [findD_ok a3]
  have s3 : (findD ⟨layW x.Blocks (keptW keep (Write.mk ((slotN l : Nat) : Int) (blockL l))), []⟩).2 = 0 := by rw [findD_ok okc]
  rw [s1, s2, s3]
  simp only [decide_true, Bool.not_true, cond_false, cond_true]
  cases keep
  · have e : findD ⟨layW x.Blocks (keptW false (Write.mk ((slotN l : Nat) : Int) (blockL l))), []⟩ = findD d := by
      rw [findD_ok okc, findD_ok a1]
      have : seenB ⟨layW x.Blocks (keptW false (Write.mk ((slotN l : Nat) : Int) (blockL l))), []⟩ = seenB d := by
        unfold seenB; rw [hw0, hxb]; rfl
      rw [this]
    rw [e]
    simp only [cond_false, Bool.not_false, cond_true]
    rw [find_same]; rfl
  · have e : findD ⟨layW x.Blocks (keptW true (Write.mk ((slotN l : Nat) : Int) (blockL l))), []⟩ = findD x := by
      rw [findD_ok okc, findD_ok a3]
      have : seenB ⟨layW x.Blocks (keptW true (Write.mk ((slotN l : Nat) : Int) (blockL l))), []⟩ = seenB x := by
        unfold seenB; rw [hxw]; rfl
      rw [this]
    rw [e]
    simp only [cond_true]
    rw [find_same]; rfl
end Go.Ow
