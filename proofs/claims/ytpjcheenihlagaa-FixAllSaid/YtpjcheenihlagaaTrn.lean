/- What the reference's ToFlo and ToFix come to: the nearest word to a fixnum; the whole number of a word. No conditions beyond those in each lemma. -/
import Derived.Test.YtpjcheenihlagaaSum
import Derived.Test.YtpjcheenihlagaaRx10
namespace Go.Proofs.Ytpjcheenihlagaa.Fl
open Go.RowKit Hf Ieee
open Go.Proofs.Ytpjcheenihlagaa.PFixAll Go.Proofs.YtpjcheenihlagaaW.PrintWords Go.Proofs.YtpjcheenihlagaaW.PrintLast Go.Proofs.YtpjcheenihlagaaW.PrintMore

set_option exponentiation.threshold 2000

theorem reftoflo_f (k : Nat) (hk : 200000 ≤ k) {v : Int} (hv : Fits v) : hearthref1_ToFlo.f k v = some (wrap64 (floOf v)) := by
  have hb := wrap61_bd v
  unfold hearthref1_ToFlo.f
  rw [rWrap_f hv]; simp only [Option.bind_some]
  unfold floOf
  generalize wrap61 v = n at *
  have hs : hearthref1_size.f n = some ((n.natAbs : Nat) : Int) := by
    unfold hearthref1_size.f
    by_cases c : n < 0
    · rw [if_pos c, wrap_id (by unfold Fits; omega)]; congr 1; omega
    · rw [if_neg c]; congr 1; omega
  rw [hs]; simp only [Option.bind_some]
  obtain ⟨l, l1, l2, l3, l4⟩ := list_f k (by omega) n.natAbs (by omega) 0 (by omega)
  rw [show ((0 : Nat) : Int) = 0 from rfl] at l1
  rw [l1]; simp only [Option.bind_some]
  obtain ⟨r, r1, r2⟩ := rounded_at l2 (by clear l3; omega) (decide (n < 0)) 1074 0 (by omega) (by omega) k (by omega)
  obtain ⟨q, q1, q2⟩ := near_int n
  rw [l3, Nat.pow_zero, Nat.mul_one] at r2
  rw [r1, q1, Near.unique (by omega) (by omega) r2 q2 rfl]
  simp only [Option.bind_some]
  congr 1
  exact (pat_word (near_le q2)).symm

theorem parts_fin2 (s : Bool) {r : Nat} (h : r < INF) : ∃ m e : Nat, partsOf s r = (s, false, false, (m : Int), (e : Int) - 1074) ∧ m * 2 ^ e = V r ∧ m < 9007199254740992 ∧ e ≤ 2045 ∧ (0 < e → 4503599627370496 ≤ m) := by
  have hI : INF = 9218868437227405312 := rfl
  by_cases c : r < 4503599627370496
  · exact ⟨r, 0, by rw [parts_small c]; rfl, by rw [V_small c]; omega, by omega, by omega, by omega⟩
  · refine ⟨4503599627370496 + r % 4503599627370496, r / 4503599627370496 - 1, ?_, ?_, by omega, by omega, by omega⟩
    · rw [parts_big c h, Int.natCast_add]; rfl
    · unfold V; rw [if_neg c]

theorem twice_l (s b1 b2 : Bool) (w E : Int) (d : Nat) : ∀ (k n : Nat) (i : Int), d < k → i + d = E → 0 ≤ i → E ≤ 8 → n * 2 ^ d < 4611686018427387904 →
    ∃ k', k = k' + d + 1 ∧ hearthref1_ToFix.l0 k n i s b1 b2 w E = hearthref1_ToFix.l1 k' ((n * 2 ^ d : Nat) : Int) 0 s b1 b2 w E := by
  induction d with
  | zero =>
    intro k n i hk hi _ _ _
    obtain ⟨k, rfl⟩ : ∃ m, k = m + 1 := ⟨k - 1, by omega⟩
    refine ⟨k, rfl, ?_⟩
    simp only [hearthref1_ToFix.l0]
    rw [if_neg (by omega), Nat.pow_zero, Nat.mul_one]
  | succ d ih =>
    intro k n i hk hi h0 h8 hn
    obtain ⟨k, rfl⟩ : ∃ m, k = m + 1 := ⟨k - 1, by omega⟩
    have e1 : n * 2 ^ (d + 1) = 2 * n * 2 ^ d := by rw [Nat.pow_succ, Nat.mul_comm (2 ^ d) 2, ← Nat.mul_assoc, Nat.mul_comm n 2]
    rw [e1] at hn ⊢
    have hle : 2 * n ≤ 2 * n * 2 ^ d := Nat.le_mul_of_pos_right _ (Nat.two_pow_pos d)
    have hn2 : 2 * n < 4611686018427387904 := Nat.lt_of_le_of_lt hle hn
    clear e1 hle
    have w1 : wrap64 ((n : Int) + n) = ((2 * n : Nat) : Int) := by clear hn; rw [wrap_id (by unfold Fits; omega)]; omega
    have w2 : wrap64 (i + 1) = i + 1 := by clear hn; exact wrap_id (by unfold Fits; omega)
    obtain ⟨k', h1, h2⟩ := ih k (2 * n) (i + 1) (by clear hn; omega) (by clear hn; omega) (by clear hn; omega) h8 hn
    refine ⟨k', by clear hn; omega, ?_⟩
    simp only [hearthref1_ToFix.l0]
    rw [if_pos (by clear hn; omega), w1, w2]; exact h2

theorem half_l (s b1 b2 : Bool) (w E : Int) (d : Nat) : ∀ (k n : Nat) (i : Int), d < k → i - d = E → -2000 ≤ E → i ≤ 0 → n < 9223372036854775808 →
    ∃ k', k ≤ k' + d + 1 ∧ hearthref1_ToFix.l1 k n i s b1 b2 w E = hearthref1_ToFix.j3 k' ((n / 2 ^ d : Nat) : Int) s b1 b2 w E := by
  induction d with
  | zero =>
    intro k n i hk hi _ _ _
    obtain ⟨k, rfl⟩ : ∃ m, k = m + 1 := ⟨k - 1, by omega⟩
    refine ⟨k, Nat.le_refl _, ?_⟩
    simp only [hearthref1_ToFix.l1]
    rw [if_neg (by omega), Nat.pow_zero, Nat.div_one]
  | succ d ih =>
    intro k n i hk hi hE h0 hn
    obtain ⟨k, rfl⟩ : ∃ m, k = m + 1 := ⟨k - 1, by omega⟩
    have gt : i > E := by omega
    simp only [hearthref1_ToFix.l1]
    rw [if_pos gt]
    by_cases c : n = 0
    · subst c
      exact ⟨k, by omega, by rw [if_neg (by omega), Nat.zero_div]⟩
    · have w1 : wrap64 (Int.tdiv (n : Int) 2) = ((n / 2 : Nat) : Int) := by
        rw [Int.tdiv_eq_ediv_of_nonneg (by omega), wrap_id (by unfold Fits; omega)]; omega
      have w2 : wrap64 (i - 1) = i - 1 := wrap_id (by unfold Fits; omega)
      obtain ⟨k', h1, h2⟩ := ih k (n / 2) (i - 1) (by omega) (by omega) hE (by omega) (by omega)
      refine ⟨k', by omega, ?_⟩
      rw [if_pos (by omega), w1, w2, h2, Nat.div_div_eq_div_mul, Nat.pow_succ, Nat.mul_comm 2]

theorem third (k n : Nat) (s b1 b2 : Bool) (w E : Int) (hk : 0 < k) (hn : n < 4611686018427387904) {x : Nat} (hs : sgn x = s) (hV : V (rung x) / 2 ^ 1074 = n) (hi : inside x = true) :
    hearthref1_ToFix.j3 k (n : Int) s b1 b2 w E = some (toFix x) := by
  obtain ⟨k, rfl⟩ : ∃ m, k = m + 1 := ⟨k - 1, by omega⟩
  unfold toFix trunc
  rw [hs, hV]
  clear hV hs
  simp only [hearthref1_ToFix.j3]
  cases s with
  | true =>
    simp only [if_true]
    rw [wrap_id (by unfold Fits; omega), rFits_f]; simp only [Option.bind_some, decide_eq_true_eq]
    by_cases c : -1152921504606846976 ≤ -(n : Int) ∧ -(n : Int) ≤ 1152921504606846975
    · rw [if_pos c, if_pos ⟨hi, c⟩]
    · rw [if_neg c, if_neg (fun h => c h.2)]
  | false =>
    simp only [Bool.false_eq_true, if_false]
    rw [rFits_f]; simp only [Option.bind_some, decide_eq_true_eq]
    by_cases c : -1152921504606846976 ≤ (n : Int) ∧ (n : Int) ≤ 1152921504606846975
    · rw [if_pos c, if_pos ⟨hi, c⟩]
    · rw [if_neg c, if_neg (fun h => c h.2)]

theorem toFix_out {x : Nat} (h : ¬ rung x < 4881901996069617664) : toFix x = (0, false) := by
  unfold toFix
  rw [if_neg (fun c => h ((inside_iff x).1 c.1))]

theorem pow_big (a b : Nat) (h : a ≤ b) (m n : Nat) (hmn : m ≤ n) : m * 2 ^ a ≤ n * 2 ^ b := Nat.mul_le_mul hmn (Nat.pow_le_pow_right (by decide) h)

theorem reftofix_f (k : Nat) (hk : 200000 ≤ k) {b : Int} (hb : Fits b) : hearthref1_ToFix.f k b = some (toFix (u b)) := by
  have pb := parts_f k (by omega) hb
  have hI : INF = 9218868437227405312 := rfl
  obtain ⟨k, rfl⟩ : ∃ m, k = m + 1 := ⟨k - 1, by omega⟩
  unfold hearthref1_ToFix.f
  rw [pb]; simp only [Option.bind_some]
  by_cases nb : INF < rung (u b)
  · rw [parts_nan nb]
    simp only [if_true, hearthref1_ToFix.j0]
    rw [toFix_out (by omega)]
  by_cases ib : rung (u b) = INF
  · rw [parts_inf ib]
    simp only [if_true, Bool.false_eq_true, if_false, hearthref1_ToFix.j0]
    rw [toFix_out (by omega)]
  obtain ⟨m, e, hm, hV, hm53, he, hm52⟩ := parts_fin2 (sgn (u b)) (r := rung (u b)) (by omega)
  rw [hm]
  simp only [Bool.false_eq_true, if_false, hearthref1_ToFix.j0]
  by_cases c : (e : Int) - 1074 > 8
  · rw [if_pos (decide_eq_true c)]
    have h1 : 4503599627370496 * 2 ^ 1083 ≤ V (rung (u b)) := by rw [← hV]; exact pow_big _ _ (by clear hV; omega) _ _ (hm52 (by clear hV; omega))
    rw [toFix_out]
    intro hlt
    have h2 := V_lt hlt
    rw [V_61] at h2
    exact absurd (Nat.lt_of_le_of_lt h1 h2) (by decide +kernel)
  · rw [if_neg (by rw [decide_eq_true_eq]; exact c)]
    have h1 : V (rung (u b)) < 9007199254740992 * 2 ^ 1082 := by
      rw [← hV]
      exact Nat.lt_of_lt_of_le (Nat.mul_lt_mul_of_pos_right hm53 (Nat.two_pow_pos e)) (pow_big _ _ (by clear hV; omega) _ _ (Nat.le_refl _))
    have hlt : rung (u b) < 4881901996069617664 := by
      rw [← V_lt_iff, V_61]
      exact Nat.lt_of_lt_of_le h1 (by decide +kernel)
    have hi := (inside_iff (u b)).2 hlt
    clear h1 hlt
    by_cases c1 : 1074 ≤ e
    · obtain ⟨d, rfl⟩ : ∃ d, e = 1074 + d := ⟨e - 1074, by clear hV; omega⟩
      have hn : m * 2 ^ d < 4611686018427387904 := by
        have : m * 2 ^ d < 9007199254740992 * 2 ^ 8 := Nat.lt_of_lt_of_le (Nat.mul_lt_mul_of_pos_right hm53 (Nat.two_pow_pos d)) (pow_big _ _ (by clear hV; omega) _ _ (Nat.le_refl _))
        exact Nat.lt_trans this (by decide)
      have hd : ((1074 + d : Nat) : Int) - 1074 = (d : Int) := by clear hV hn; omega
      rw [hd]
      obtain ⟨k', g1, g2⟩ := twice_l (sgn (u b)) false false m (d : Int) d k m 0 (by clear hV hn; omega) (by omega) (by omega) (by clear hV hn; omega) hn
      rw [g2]
      obtain ⟨k'', rfl⟩ : ∃ z, k' = z + 1 := ⟨k' - 1, by clear hV hn; omega⟩
      simp only [hearthref1_ToFix.l1]
      rw [if_neg (by omega)]
      refine third k'' _ _ _ _ _ _ (by clear hV hn; omega) hn rfl ?_ hi
      rw [← hV, Nat.pow_add, Nat.mul_left_comm, Nat.mul_div_cancel_left _ (Nat.two_pow_pos 1074)]
    · obtain ⟨d, hd⟩ : ∃ d, 1074 = e + d := ⟨1074 - e, by clear hV; omega⟩
      obtain ⟨k, rfl⟩ : ∃ z, k = z + 1 := ⟨k - 1, by clear hV; omega⟩
      simp only [hearthref1_ToFix.l0]
      rw [if_neg (by clear hV; omega)]
      obtain ⟨k', g1, g2⟩ := half_l (sgn (u b)) false false m ((e : Int) - 1074) d k m 0 (by clear hV; omega) (by clear hV; omega) (by clear hV; omega) (by omega) (by clear hV; omega)
      rw [g2]
      have hn : m / 2 ^ d < 4611686018427387904 := Nat.lt_of_le_of_lt (Nat.div_le_self _ _) (by clear hV; omega)
      refine third k' _ _ _ _ _ _ (by clear hV hn; omega) hn rfl ?_ hi
      have hp : (2 : Nat) ^ 1074 = 2 ^ d * 2 ^ e := by rw [← Nat.pow_add, hd, Nat.add_comm]
      rw [← hV, hp, Nat.mul_div_mul_right _ _ (Nat.two_pow_pos e)]

end Go.Proofs.Ytpjcheenihlagaa.Fl
