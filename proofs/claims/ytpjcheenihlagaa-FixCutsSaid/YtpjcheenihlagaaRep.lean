/- Which numbers are words' own; whole numbers' words and back (plain arithmetic). No conditions beyond those in each lemma. -/
import Derived.Test.YtpjcheenihlagaaAlu
namespace Hf
open Ieee Go.Proofs.Ytpjcheenihlagaa

set_option exponentiation.threshold 2000

/-- A number of up to 53 bits times a power of 2 is some rung's. -/
theorem rep (k j : Nat) (hk : k ≤ 9007199254740992) : ∃ r, V r = k * 2 ^ j ∧ r ≤ (j + 1) * 4503599627370496 + 4503599627370496 := by
  by_cases h0 : k < 4503599627370496
  · -- double it until it is long enough, or the exponent is used up
    induction j generalizing k with
    | zero => exact ⟨k, by rw [V_small h0, Nat.pow_zero, Nat.mul_one], by omega⟩
    | succ j ih =>
      have e : k * 2 ^ (j + 1) = 2 * k * 2 ^ j := by rw [Nat.pow_succ, Nat.mul_comm (2 ^ j) 2, Nat.mul_comm 2 k, Nat.mul_assoc]
      rw [e]
      by_cases h1 : 2 * k < 4503599627370496
      · have g0 : 2 * k ≤ 9007199254740992 := by clear e ih; omega
        obtain ⟨r, h2, h3⟩ := ih (2 * k) g0 h1
        have g3 := Nat.le_trans h3 (Nat.add_le_add_right (Nat.mul_le_mul_right 4503599627370496 (Nat.le_succ (j + 1))) 4503599627370496)
        exact ⟨r, h2, g3⟩
      · have g1 : 0 < j → 4503599627370496 ≤ 2 * k := fun _ => Nat.not_lt.1 h1
        have g2 : 2 * k ≤ 9007199254740992 := by clear e ih; omega
        exact ⟨j * 4503599627370496 + 2 * k, V_of g1 g2, by clear e ih; omega⟩
  · exact ⟨j * 4503599627370496 + k, V_of (by omega) hk, by omega⟩

/-- A rung is of up to 53 bits times a power of 2. -/
theorem parts_of (r : Nat) : ∃ k j, V r = k * 2 ^ j ∧ k < 9007199254740992 ∧ (0 < j → 4503599627370496 ≤ k) := by
  by_cases c : r < 4503599627370496
  · exact ⟨r, 0, by rw [V_small c]; omega, by omega, by omega⟩
  · exact ⟨4503599627370496 + r % 4503599627370496, r / 4503599627370496 - 1, by unfold V; rw [if_neg c], by omega, by omega⟩

/-- The rung nearest to a number that is a rung's own. -/
theorem Near.own {N r q : Nat} (h : Near N 1 r) (hq : V q = N) (hi : q ≤ INF) : r = q := by
  have h2 := Near.self (r := q) 1 (by omega) hi
  rw [Nat.one_mul, hq] at h2
  exact Near.unique (by omega) (by omega) h h2 rfl

/-- A great number is a whole one. -/
theorem whole_of {r : Nat} (h : 4503599627370496 * 2 ^ 1074 ≤ V r) : ∃ n, V r = n * 2 ^ 1074 := by
  obtain ⟨k, j, h1, h2, h3⟩ := parts_of r
  by_cases c : 1074 ≤ j
  · obtain ⟨d, rfl⟩ : ∃ d, j = d + 1074 := ⟨j - 1074, by clear h1 h; omega⟩
    exact ⟨k * 2 ^ d, by rw [h1, Nat.pow_add, Nat.mul_assoc]⟩
  · obtain ⟨d, hd⟩ : ∃ d, 1074 = j + d + 1 := ⟨1073 - j, by clear h1 h; omega⟩
    rw [h1] at h
    have e : (2 : Nat) ^ 1074 = 2 ^ d * 2 * 2 ^ j := by rw [← Nat.pow_succ, ← Nat.pow_add]; congr 1; clear h1 h; omega
    rw [e, ← Nat.mul_assoc, ← Nat.mul_assoc] at h
    have h4 := Nat.le_of_mul_le_mul_right h (Nat.two_pow_pos j)
    have h5 := Nat.two_pow_pos d
    exfalso
    generalize 2 ^ d = z at *
    clear h h1 e
    omega

/-- What is left of a rung's number beyond its whole part is a rung's number too. -/
theorem rest_rep (r : Nat) : ∃ q, V q = V r % 2 ^ 1074 ∧ q < 4607182418800017408 := by
  have hlt : V r % 2 ^ 1074 < 2 ^ 1074 := Nat.mod_lt _ (Nat.two_pow_pos _)
  have fin : ∀ q, V q = V r % 2 ^ 1074 → q < 4607182418800017408 := by
    intro q hq
    rw [← V_lt_iff, hq]
    exact Nat.lt_of_lt_of_le hlt (Nat.le_of_eq V_one.symm)
  obtain ⟨k, j, h1, h2, _⟩ := parts_of r
  by_cases c : 1074 ≤ j
  · obtain ⟨d, rfl⟩ : ∃ d, j = d + 1074 := ⟨j - 1074, by clear h1 hlt; omega⟩
    have : V r % 2 ^ 1074 = 0 := by rw [h1, Nat.pow_add, ← Nat.mul_assoc]; exact Nat.mul_mod_left _ _
    exact ⟨0, by rw [this]; rfl, fin 0 (by rw [this]; rfl)⟩
  · obtain ⟨d, hd⟩ : ∃ d, 1074 = d + j := ⟨1074 - j, by clear h1 hlt; omega⟩
    have e : V r % 2 ^ 1074 = k % 2 ^ d * 2 ^ j := by rw [h1, hd, Nat.pow_add, Nat.mul_mod_mul_right]
    obtain ⟨q, q1, _⟩ := rep (k % 2 ^ d) j (Nat.le_trans (Nat.mod_le _ _) (Nat.le_of_lt h2))
    exact ⟨q, by rw [e, q1], fin q (by rw [e, q1])⟩

/-- A number between two rungs' own that lie close: the nearest is no further than half of what lies between them. -/
theorem near_half {N lo hi r : Nat} (hN : Near N 1 r) (h1 : V lo ≤ N) (h2 : N ≤ V hi) (hlo : lo ≤ INF) (hhi : hi ≤ INF) :
    2 * V r ≤ 2 * N + (V hi - V lo) ∧ 2 * N ≤ 2 * V r + (V hi - V lo) := by
  have nlo := Near.self (r := lo) 1 (by omega) hlo
  have nhi := Near.self (r := hi) 1 (by omega) hhi
  have a1 : lo ≤ r := Near.mono (by omega) (by omega) nlo hN (by omega)
  have a2 : r ≤ hi := Near.mono (by omega) (by omega) hN nhi (by omega)
  have b1 := V_mono a1
  have b2 := V_mono a2
  obtain ⟨_, c1, c2⟩ := hN
  constructor
  · by_cases c : lo = r
    · subst c; omega
    · obtain ⟨q, hq⟩ : ∃ q, r = q + 1 := ⟨r - 1, by omega⟩
      obtain ⟨d1, _⟩ := c2 q hq
      have b3 : V lo ≤ V q := V_mono (by omega)
      omega
  · by_cases c : r = hi
    · subst c; omega
    · have hr : r < INF := by omega
      obtain ⟨d1, _⟩ := c1 hr
      have b3 : V (r + 1) ≤ V hi := V_mono (by omega)
      omega

/-! ### Whole numbers' words -/
theorem rung_int (n : Nat) (h : n ≤ 9007199254740992) : ∃ r, V r = n * 2 ^ 1074 ∧ r < INF := by
  have hI : INF = 9218868437227405312 := rfl
  obtain ⟨r, h1, h2⟩ := rep n 1074 h
  exact ⟨r, h1, by omega⟩
theorem rung_int128 (n : Nat) (h : n ≤ 9007199254740992) : ∃ r, V r = n * 128 * 2 ^ 1074 ∧ r < INF := by
  have hI : INF = 9218868437227405312 := rfl
  obtain ⟨r, h1, h2⟩ := rep n 1081 h
  exact ⟨r, by rw [h1, Nat.mul_assoc, show (128 : Nat) = 2 ^ 7 by decide, ← Nat.pow_add], by omega⟩

end Hf
