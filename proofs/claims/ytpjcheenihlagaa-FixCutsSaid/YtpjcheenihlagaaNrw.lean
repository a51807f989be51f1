/- The float of a fixnum, and the fixnum of that. No conditions beyond those in each lemma. -/
import Derived.Test.YtpjcheenihlagaaRep
import Derived.Test.YtpjcheenihlagaaFlu
import Derived.Test.YtpjcheenihlagaaWhl
namespace Go.Proofs.Ytpjcheenihlagaa.Fl
open Go.RowKit Hf Ieee

set_option exponentiation.threshold 2000

theorem near_whole {w r : Nat} (hN : Near (w * 2 ^ 1074) 1 r) (hw : w ≤ 1152921504606846976) :
    ∃ m, V r = m * 2 ^ 1074 ∧ (w ≤ 9007199254740992 → m = w) ∧ m ≤ w + 64 ∧ w ≤ m + 64 := by
  have hI : INF = 9218868437227405312 := rfl
  have hP : 0 < 2 ^ 1074 := Nat.two_pow_pos 1074
  by_cases c : w ≤ 9007199254740992
  · obtain ⟨q, q1, q2⟩ := rung_int w c
    have e := Near.own hN q1 (Nat.le_of_lt q2)
    exact ⟨w, by rw [e, q1], fun _ => rfl, Nat.le_add_right _ _, Nat.le_add_right _ _⟩
  · obtain ⟨lo, l1, l2⟩ := rung_int128 (w / 128) (by clear hN hP; omega)
    by_cases c1 : w % 128 = 0
    · have e := Near.own hN (q := lo) (by rw [l1]; congr 1; clear hN hP l1; omega) (Nat.le_of_lt l2)
      refine ⟨w, ?_, fun _ => rfl, Nat.le_add_right _ _, Nat.le_add_right _ _⟩
      rw [e, l1]; congr 1; clear hN hP l1; omega
    · obtain ⟨hi, h1, h2⟩ := rung_int128 (w / 128 + 1) (by clear hN hP l1; omega)
      have g1 : V lo ≤ w * 2 ^ 1074 := by rw [l1]; exact Nat.mul_le_mul_right _ (by clear hN hP l1 h1; omega)
      have g2 : w * 2 ^ 1074 ≤ V hi := by rw [h1]; exact Nat.mul_le_mul_right _ (by clear hN hP l1 h1; omega)
      obtain ⟨n1, n2⟩ := near_half hN g1 g2 (Nat.le_of_lt l2) (Nat.le_of_lt h2)
      have hd : V hi - V lo = 128 * 2 ^ 1074 := by
        rw [h1, l1, ← Nat.sub_mul]; congr 1; clear hN hP l1 h1 g1 g2 n1 n2; omega
      rw [hd] at n1 n2
      have big : 4503599627370496 * 2 ^ 1074 ≤ V r := by
        have x1 : (4503599627370496 + 64) * 2 ^ 1074 ≤ w * 2 ^ 1074 := Nat.mul_le_mul_right _ (by clear hN hP l1 h1 g1 g2 n1 n2 hd; omega)
        rw [Nat.add_mul] at x1
        clear hN l1 h1 g1 g2 n1 hd
        generalize 2 ^ 1074 = P at *
        omega
      obtain ⟨m, hm⟩ := whole_of big
      refine ⟨m, hm, fun h => absurd h c, ?_, ?_⟩
      · apply Nat.le_of_mul_le_mul_right _ hP
        rw [← hm, Nat.add_mul]
        clear hN l1 h1 g1 g2 n2 hd big hm
        generalize 2 ^ 1074 = P at *
        omega
      · apply Nat.le_of_mul_le_mul_right _ hP
        rw [Nat.add_mul, ← hm]
        clear hN l1 h1 g1 g2 n1 hd big hm
        generalize 2 ^ 1074 = P at *
        omega

theorem near_max {w r : Nat} (hN : Near (w * 2 ^ 1074) 1 r) (hw : w ≤ 1152921504606846976) {m : Nat} (hm : V r = m * 2 ^ 1074) : m ≤ 1152921504606846976 := by
  obtain ⟨q, q1, q2⟩ := rung_int128 9007199254740992 (Nat.le_refl _)
  have e : (9007199254740992 * 128 : Nat) = 1152921504606846976 := by decide
  rw [e] at q1
  have hs := Near.self (r := q) 1 (by omega) (Nat.le_of_lt q2)
  have hle := V_mono (Near.mono (by omega) (by omega) hN hs (by rw [Nat.one_mul, q1, Nat.mul_one, Nat.mul_one]; exact Nat.mul_le_mul_right _ hw))
  rw [hm, q1] at hle
  exact Nat.le_of_mul_le_mul_right hle (Nat.two_pow_pos _)

/-- The float of a fixnum. -/
theorem floOf_spec {n : Int} (h : -1152921504606846976 ≤ n ∧ n ≤ 1152921504606846975) :
    ∃ r, floOf n = double.word (decide (n < 0)) r ∧ Near (n.natAbs * 2 ^ 1074) 1 r ∧ u (wrap64 (floOf n)) = double.word (decide (n < 0)) r ∧ r < 9223372036854775808 := by
  obtain ⟨r, h1, h2⟩ := near_int n
  have hr := near_lt h2
  have e : floOf n = double.word (decide (n < 0)) r := by unfold floOf; rw [wrap61_id h.1 h.2]; exact h1
  exact ⟨r, e, h2, by rw [e]; exact u_wrap (word_lt _ hr), hr⟩

theorem inside_whole {x m : Nat} (h : V (rung x) = m * 2 ^ 1074) (hm : m < 2305843009213693952) : inside x = true := by
  rw [inside_iff, ← V_lt_iff, h, V_61]
  have : m * 2 ^ 1074 < 2305843009213693952 * 2 ^ 1074 := Nat.mul_lt_mul_of_pos_right hm (Nat.two_pow_pos _)
  exact Nat.lt_of_lt_of_le this (by decide +kernel)

theorem trunc_whole {x m : Nat} (h : V (rung x) = m * 2 ^ 1074) : trunc x = if sgn x then -(m : Int) else (m : Int) := by
  unfold trunc
  rw [h, Nat.mul_div_cancel _ (Nat.two_pow_pos 1074)]

theorem res_int (n : Int) {r : Nat} (h : Near (n.natAbs * 2 ^ 1074) 1 r) : Res (n * ((2 ^ 1074 : Nat) : Int)) 1 (double.word (decide (n < 0)) r) := by
  have hP : 0 < 2 ^ 1074 := Nat.two_pow_pos 1074
  refine ⟨_, _, rfl, by rw [Int.natAbs_mul, Int.natAbs_natCast]; exact h, ?_, ?_⟩
  · clear h
    generalize 2 ^ 1074 = P at *
    intro h; rw [decide_eq_true_eq]
    apply Decidable.byContradiction; intro c
    have := Int.mul_nonneg (a := n) (b := P) (by omega) (by omega); omega
  · clear h
    generalize 2 ^ 1074 = P at *
    intro h; rw [decide_eq_false_iff_not]
    intro c
    have := Int.mul_nonneg (a := -n) (b := P) (by omega) (by omega)
    rw [Int.neg_mul] at this; omega

/-- Two whole numbers with the same float, or the less one's float is less. -/
theorem floOf_grows {n m : Int} (hn : -1152921504606846976 ≤ n ∧ n ≤ 1152921504606846975) (hm : -1152921504606846976 ≤ m ∧ m ≤ 1152921504606846975) (h : n < m) :
    (Hf.less (u (wrap64 (floOf n))) (u (wrap64 (floOf m))) == (wrap64 (floOf n) == wrap64 (floOf m))) = false := by
  obtain ⟨r, e1, n1, u1, b1⟩ := floOf_spec hn
  obtain ⟨q, e2, n2, u2, b2⟩ := floOf_spec hm
  have hle := Res.mono (by omega) (res_int n n1) (res_int m n2) (Int.mul_le_mul_of_nonneg_right (Int.le_of_lt h) (Int.natCast_nonneg _))
  by_cases c : wrap64 (floOf n) = wrap64 (floOf m)
  · rw [c, BEq.rfl]
    have : Hf.less (u (wrap64 (floOf m))) (u (wrap64 (floOf m))) = false := by
      unfold Hf.less; rw [decide_eq_false_iff_not]; exact fun h => Int.lt_irrefl _ h.2.2
    rw [this]; rfl
  · have hne : SV (u (wrap64 (floOf n))) ≠ SV (u (wrap64 (floOf m))) := by
      rw [Ne, SV_eq_iff, sr_eq_iff (fits_wrap _) (fits_wrap _)]
      intro hc
      rcases hc with hc | ⟨z1, z2⟩
      · exact c hc
      · rw [u1, rung_word _ _ b1] at z1
        rw [u2, rung_word _ _ b2] at z2
        obtain ⟨x, x1, x2, x3, x4⟩ := near_whole n1 (by clear n1 n2 hle; omega)
        obtain ⟨y, y1, y2, y3, y4⟩ := near_whole n2 (by clear n1 n2 hle x1; omega)
        have zero : ∀ z : Nat, V 0 = z * 2 ^ 1074 → z = 0 := fun z hz => by
          have h0 : z * 2 ^ 1074 = 0 := hz.symm
          rcases Nat.mul_eq_zero.1 h0 with h0 | h0
          · exact h0
          · exact absurd h0 (Nat.ne_of_gt (Nat.two_pow_pos 1074))
        rw [z1] at x1; rw [z2] at y1
        have xz := zero x x1
        have yz := zero y y1
        clear n1 n2 hle x1 y1 zero
        omega
    have lt : Hf.less (u (wrap64 (floOf n))) (u (wrap64 (floOf m))) = true := by
      unfold Hf.less; rw [decide_eq_true_eq]
      rw [u1, u2] at hne ⊢
      rw [rung_word _ _ b1, rung_word _ _ b2]
      exact ⟨n1.1, n2.1, Int.lt_iff_le_and_ne.2 ⟨hle, hne⟩⟩
    rw [lt, beq_eq_false_iff_ne.2 c]; rfl

end Go.Proofs.Ytpjcheenihlagaa.Fl
