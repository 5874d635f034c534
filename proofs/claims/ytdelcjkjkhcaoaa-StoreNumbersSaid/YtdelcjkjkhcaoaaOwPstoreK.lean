/-
  What is proved here: no two blocks are sealed by one number; limits, errors, examples: the laws, in plain words.
-/
import Derived.Test.YtdelcjkjkhcaoaaOwPstoreJ
namespace Go.Ow
set_option linter.unusedVariables false
set_option linter.unusedSimpArgs false

theorem sh16 : (((16 : UInt64).toNat : Int)).toNat = 16 := rfl
theorem iv_nat {e c : UInt32} (he : e ≤ 65535) (hc : c ≤ 65535) : (sl32 e 16 ||| c).toNat = e.toNat * 65536 + c.toNat := by
  rw [UInt32.le_iff_toNat_le] at he hc
  have e1 : (65535 : UInt32).toNat = 65535 := rfl
  rw [e1] at he hc
  rw [UInt32.toNat_or]
  have h1 : (sl32 e 16).toNat = 2 ^ 16 * e.toNat := by
    unfold sl32
    rw [UInt32.toNat_ofNat']
    simp only [Nat.min_def]
    rw [if_pos (by omega)]
    omega
  rw [h1, ← Nat.two_pow_add_eq_or_of_lt (by omega)]
  omega
theorem iv_next {e c : UInt32} (he : e ≤ 65535) (hc : c ≤ 65535) (hne : c ≠ 65535) : c + 1 ≤ 65535 ∧ sl32 e 16 ||| (c + 1) = (sl32 e 16 ||| c) + 1 ∧ sr32 (sl32 e 16 ||| (c + 1)) 16 = e := by
  have he' := he
  have hc' := hc
  rw [UInt32.le_iff_toNat_le] at he' hc'
  have e1 : (65535 : UInt32).toNat = 65535 := rfl
  have e2 : (1 : UInt32).toNat = 1 := rfl
  rw [e1] at he' hc'
  have hn : c.toNat ≠ 65535 := fun h => hne (UInt32.toNat_inj.1 h)
  have hc1 : (c + 1).toNat = c.toNat + 1 := by rw [UInt32.toNat_add, e2]; omega
  have hle : c + 1 ≤ 65535 := by rw [UInt32.le_iff_toNat_le, hc1, e1]; omega
  have i1 := iv_nat he hle
  have i2 := iv_nat he hc
  refine ⟨hle, UInt32.toNat_inj.1 ?_, UInt32.toNat_inj.1 ?_⟩
  · rw [i1, hc1, UInt32.toNat_add, i2, e2]; omega
  · unfold sr32
    rw [i1, hc1, UInt32.toNat_ofNat']
    simp only [Nat.min_def]
    rw [if_pos (by omega)]
    have := Nat.add_mul_div_right (c.toNat + 1) e.toNat (show 0 < 65536 by omega)
    have h0 : (e.toNat * 65536 + (c.toNat + 1)) / 65536 = e.toNat := by omega
    rw [show (2 : Nat) ^ 16 = 65536 from rfl, h0]; omega
theorem noP_none : isNone noP := ⟨rfl, rfl, rfl, rfl, rfl⟩
theorem numbers_loop (key : List UInt8) (m : UInt8) : ∀ (k n i : Nat) (s : Store), i + k = m.toNat → k < n → Sized s.Disk →
    ∃ o, run (law13_StoreNumbers_l1 key m true) n (s.Disk.Blocks, s.Disk.Waits, s.Space, s.Epoch, s.Count, sl32 s.Epoch 16 ||| s.Count, (i : Int)) = some o ∧ (o = .inl () ∨ o = .inr true)
  | 0, n, i, s, hi, hn, hs => by
    obtain ⟨n, rfl⟩ : ∃ q, n = q + 1 := ⟨n - 1, by omega⟩
    refine ⟨.inl (), run_en ?_, .inl rfl⟩
    unfold law13_StoreNumbers_l1
    dsimp only
    rw [decide_eq_false (by omega)]; rfl
  | k + 1, n, i, s, hi, hn, hs => by
    obtain ⟨n, rfl⟩ : ∃ q, n = q + 1 := ⟨n - 1, by omega⟩
    have hm := m.toNat_lt
    rcases seal_cases hs 1 key zeroBl with ⟨e, h1, h2, -⟩ | ⟨t, q, j, h1, h2, h3, h4, h5, h6, h7⟩
    · refine ⟨.inr true, run_en ?_, .inr rfl⟩
      unfold law13_StoreNumbers_l1
      dsimp only
      rw [decide_eq_true (by omega), cond_true, mk256, h1, Option.bind_some, Option.bind_some, ndec h2, cond_true, cond_true]
      rw [none_dec' noP, decide_eq_true noP_none]; rfl
    · obtain ⟨g1, g2, g3⟩ := iv_next h2.2.2.2.1 h2.2.2.2.2 h3
      obtain ⟨o, ho, hc⟩ := numbers_loop key m k n (i + 1) t (by omega) (by omega) h7.okt.sized
      refine ⟨o, ?_, hc⟩
      have te : t.Epoch = s.Epoch := by rw [h7.out]; rfl
      have tc : t.Count = s.Count + 1 := by rw [h7.out]; rfl
      have qi : q.Iv = sl32 s.Epoch 16 ||| (s.Count + 1) := by rw [h7.ptr]; rfl
      rw [run_go (s' := (t.Disk.Blocks, t.Disk.Waits, t.Space, t.Epoch, t.Count, sl32 t.Epoch 16 ||| t.Count, ((i + 1 : Nat) : Int)))]
      · exact ho
      · unfold law13_StoreNumbers_l1
        dsimp only
        rw [decide_eq_true (by omega), cond_true, mk256, h1, Option.bind_some, Option.bind_some, zdec, cond_false, sh16]
        rw [qi, te, tc, decide_eq_true g2, decide_eq_true g3, decide_eq_true (show sl32 s.Epoch 16 ||| (s.Count + 1) = sl32 s.Epoch 16 ||| (s.Count + 1) from rfl), w64_of (by omega) (by omega)]
        rfl
theorem law_StoreNumbers (s : Store) (key : List UInt8) (m : UInt8) (hs : Sized s.Disk) : law13_StoreNumbers s key m = some true := by
  unfold law13_StoreNumbers
  obtain ⟨g, hg⟩ := great13_tot hs
  rw [alive13, Option.bind_some, hg]
  rw [show (!true) = false from rfl, cond_false, Option.bind_some]
  cases g
  case true => rfl
  rw [cond_false]
  by_cases c1 : 100 < (key.length : Int)
  · rw [decide_eq_true c1]; rfl
  rw [decide_eq_false c1, cond_false]
  by_cases c2 : (20 : UInt8) < m
  · rw [decide_eq_true c2]; rfl
  rw [decide_eq_false c2, cond_false, sh16]
  have hm := m.toNat_lt
  obtain ⟨o, ho, hc⟩ := numbers_loop key m m.toNat FUEL 0 s (by omega) (Nat.lt_of_lt_of_le hm (by decide)) hs
  rw [show loop (law13_StoreNumbers_l1 key m true) (s.Disk.Blocks, s.Disk.Waits, s.Space, s.Epoch, s.Count, sl32 s.Epoch 16 ||| s.Count, 0) = some o from ho, Option.bind_some]
  rcases hc with rfl | rfl <;> rfl

/-! ### Examples -/
theorem law_StoreNames : law13_StoreNames = some true := by
  unfold law13_StoreNames
  rw [alive13, Option.bind_some, show (!true) = false from rfl, cond_false, mk256, store_New_eq, Option.bind_some]
  have hs := newS_ok.sized
  rw [lay_raw]
  rcases raw_cases hs 1 0 0 zeroBl with ⟨e, -, -, h⟩ | ⟨t, q, j, h1, h2, h7⟩
  · exact absurd (h newS_ok (by decide) zero_length) newS_room
  have hj : j = 12 := by have := h7.free; rw [show newS.Space = newT from rfl, newT_free] at this; exact (Option.some.inj this).symm
  rw [h1, Option.bind_some]
  dsimp only
  rw [store_Look_eq h7.okt.sized, Option.bind_some, h7.look h2, Option.bind_some, lay_raw]
  have a1 : askErr newS 0 (zeroBl.length = 256) = 2 := by unfold askErr; rw [if_pos newS_ok, if_neg (by decide)]
  rw [raw_err hs 0 0 0 zeroBl (by rw [a1]; decide), a1, Option.bind_some, Option.bind_some, lay_raw]
  have a2 : askErr newS 1 (([1] : List UInt8).length = 256) = 3 := by unfold askErr; rw [if_pos newS_ok, if_pos (by decide), if_neg (by decide)]
  rw [raw_err hs 1 0 0 [1] (by rw [a2]; decide), a2, Option.bind_some, Option.bind_some]
  rw [store_Look_eq hs, Option.bind_some, Option.bind_some, mk16]
  have a3 : (lookS newS (Ptr.mk 0 0 0 0 0)).2 = 6 := by
    unfold lookS
    have hn : isNone (Ptr.mk 0 0 0 0 0) := ⟨rfl, rfl, rfl, rfl, rfl⟩
    rw [if_pos ⟨newS_ok, .inl hn⟩, if_pos hn]
  have hb : OKSt (Store.mk (Disk.mk newS.Disk.Blocks newS.Disk.Waits) newS.Space newS.Epoch (65535 : UInt32)) := ⟨newD_ok, newT_ok, by decide, by decide, by decide⟩
  rw [seal_full hb.sized 1 zeroK zeroBl hb (by decide) ⟨rfl, zero_length⟩ rfl, Option.bind_some, Option.bind_some]
  dsimp only
  rw [a3, show q.At = 12 by rw [h7.ptr, hj]; rfl, show q.Birth = 1 by rw [h7.ptr], show q.Iv = 0 by rw [h7.ptr], decide_eq_true (show zeroBl = zeroBl from rfl)]
  rfl
end Go.Ow
