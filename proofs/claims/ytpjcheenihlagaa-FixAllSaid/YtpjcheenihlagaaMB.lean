/- The word nearest to a number, by the model's own rounding; what words stand for. No conditions beyond those in each lemma. -/
import Derived.Test.YtpjcheenihlagaaMA
namespace Hf
open Ieee

theorem rhe_nearest (M g : Nat) (hg : 0 < g) :
    Rhe M g (M / g + (decide (g < 2 * (M % g)) || (g == 2 * (M % g) && M / g % 2 == 1)).toNat) := by
  have h1 := Nat.div_add_mod M g
  have h2 := Nat.mod_lt M hg
  generalize M / g = q at *
  generalize M % g = r at *
  unfold Rhe
  by_cases c1 : g < 2 * r
  · simp only [c1, decide_true, Bool.true_or, Bool.toNat_true]
    simp only [Nat.mul_add, Nat.mul_left_comm g 2]
    generalize g * q = z at *
    refine ⟨by omega, by omega, by omega, by omega⟩
  · by_cases c2 : g = 2 * r
    · by_cases c3 : q % 2 = 1
      · have : (decide (g < 2 * r) || (g == 2 * r && q % 2 == 1)) = true := by simp [c3, c2]
        rw [this, Bool.toNat_true]
        simp only [Nat.mul_add, Nat.mul_left_comm g 2]
        generalize g * q = z at *
        refine ⟨by omega, by omega, by omega, by omega⟩
      · have : (decide (g < 2 * r) || (g == 2 * r && q % 2 == 1)) = false := by simp [c3, c2]
        rw [this, Bool.toNat_false]
        simp only [Nat.mul_add, Nat.mul_left_comm g 2]
        generalize g * q = z at *
        refine ⟨by omega, by omega, by omega, by omega⟩
    · have : (decide (g < 2 * r) || (g == 2 * r && q % 2 == 1)) = false := by simp [c1, c2]
      rw [this, Bool.toNat_false]
      simp only [Nat.mul_add, Nat.mul_left_comm g 2]
      generalize g * q = z at *
      refine ⟨by omega, by omega, by omega, by omega⟩

theorem cut_rhe (neg : Bool) (n drop : Nat) : Rhe n (2 ^ drop) (Toward.even.cut neg n drop) := by
  have hlog : n < 2 ^ (n.log2 + 1) := Nat.lt_log2_self
  unfold Toward.cut
  simp only [Nat.shiftLeft_eq, Nat.one_mul]
  by_cases h : drop ≤ n.log2 + 2
  · rw [Nat.min_eq_left h]
    exact rhe_nearest n _ (Nat.two_pow_pos _)
  · rw [Nat.min_eq_right (by omega)]
    have e : 2 ^ (n.log2 + 2) = 2 * 2 ^ (n.log2 + 1) := by rw [Nat.pow_succ 2 (n.log2 + 1), Nat.mul_comm]
    have e1 : n < 2 ^ (n.log2 + 2) := by omega
    rw [Nat.div_eq_of_lt e1, Nat.mod_eq_of_lt e1]
    have e3 : (decide (2 ^ (n.log2 + 2) < 2 * n) || (2 ^ (n.log2 + 2) == 2 * n && 0 % 2 == 1)) = false := by
      simp; omega
    rw [e3, Bool.toNat_false]
    have e4 : 2 ^ (n.log2 + 2) ≤ 2 ^ drop := Nat.pow_le_pow_right (by omega) (by omega)
    unfold Rhe
    refine ⟨by omega, by omega, by omega, by omega⟩

theorem double_least : double.leastPlace = -1074 := by decide
theorem double_binade : double.binade = 4503599627370496 := by decide
theorem double_inf : double.infRung = INF := by decide
theorem double_sign : double.signWeight = 9223372036854775808 := by decide

/-- The place of the last digit that is kept, above the least. -/
theorem nearest_near (neg : Bool) (mag : Nat) (place : Int) (hm : 0 < mag) {N D : Nat} (hD : 0 < D)
    (hval : ∀ u d : Nat, (u : Int) - d = place + 1074 → N * 2 ^ d = mag * 2 ^ u * D) :
    ∃ r, double.nearest neg mag place = double.word neg r ∧ Near N D r := by
  have hlo : 2 ^ mag.log2 ≤ mag := Nat.log2_self_le (by omega)
  have hhi : mag < 2 ^ (mag.log2 + 1) := Nat.lt_log2_self
  unfold Format.nearest
  rw [if_neg (by omega)]
  simp only [double_least, double_inf, double_binade]
  generalize hg : mag.log2 = g at *
  have hfb : ((double.fractionBits : Nat) : Int) = 52 := rfl
  rw [hfb]
  generalize hl : max (place + (g : Int) - 52) (-1074) = last
  refine ⟨_, rfl, ?_⟩
  have hrhe := cut_rhe neg (mag <<< (place - last).toNat) (last - place).toNat
  generalize Toward.even.cut neg (mag <<< (place - last).toNat) (last - place).toNat = k at hrhe
  rw [Nat.shiftLeft_eq] at hrhe
  obtain ⟨L, hL⟩ : ∃ L : Nat, (L : Int) = last - -1074 := ⟨(last - -1074).toNat, by omega⟩
  rw [show (last - -1074).toNat = L by omega]
  generalize hu : (place - last).toNat = u at *
  generalize hd : (last - place).toNat = d at *
  refine near_of_rhe (B := 2 ^ d) (Nat.two_pow_pos _) hD ?_ hrhe ?_ ?_
  · -- N * 2^d = mag * 2^u * D * 2^L
    by_cases h : place + 1074 ≥ 0
    · -- then choose u' = place+1074
      have hv := hval (u + L) d (by omega)
      rw [hv, Nat.pow_add]
      simp only [Nat.mul_comm, Nat.mul_left_comm]
    · have hv := hval (u + L) d (by omega)
      rw [hv, Nat.pow_add]
      simp only [Nat.mul_comm, Nat.mul_left_comm]
  · intro hL0
    -- last = place + g - 52
    have e : (g : Int) + u = 52 + d := by omega
    have : 4503599627370496 * 2 ^ d = 2 ^ (g + u) := by
      rw [show g + u = 52 + d by omega, Nat.pow_add]
    rw [this, Nat.pow_add]
    exact Nat.mul_le_mul_right _ hlo
  · have h1 : mag * 2 ^ u < 2 ^ (g + 1) * 2 ^ u := Nat.mul_lt_mul_of_pos_right hhi (Nat.two_pow_pos _)
    have h2 : 2 ^ (g + 1) * 2 ^ u ≤ 2 ^ (d + 53) := by
      rw [← Nat.pow_add]; exact Nat.pow_le_pow_right (by omega) (by omega)
    have h3 : 2 ^ (d + 53) = 2 ^ d * 9007199254740992 := by rw [Nat.pow_add]
    omega

/-! ### Words and rungs -/
/-- The sign and the rung of a word. -/
def sgn (b : Nat) : Bool := b / 9223372036854775808 % 2 == 1
def rung (b : Nat) : Nat := b % 9223372036854775808

theorem rung_lt (b : Nat) : rung b < 9223372036854775808 := Nat.mod_lt _ (by omega)

theorem word_def (s : Bool) (r : Nat) : double.word s r = if s then 9223372036854775808 + r else r := by
  unfold Format.word; rw [double_sign]

theorem sgn_word (s : Bool) (r : Nat) (h : r < 9223372036854775808) : sgn (double.word s r) = s := by
  rw [word_def]; unfold sgn
  cases s
  · simp; omega
  · simp; omega

theorem rung_word (s : Bool) (r : Nat) (h : r < 9223372036854775808) : rung (double.word s r) = r := by
  rw [word_def]; unfold rung
  cases s
  · simp; omega
  · simp; omega

theorem word_eta (b : Nat) (h : b < 18446744073709551616) : double.word (sgn b) (rung b) = b := by
  rw [word_def]; unfold sgn rung
  by_cases c : b / 9223372036854775808 % 2 = 1
  · rw [if_pos (by simpa using c)]; omega
  · rw [if_neg (by simpa using c)]; omega

/-- What a word stands for, by its rung. -/
theorem read_finite (b : Nat) (h : rung b < INF) : ∃ (m : Nat) (e : Nat), double.read b = .number (sgn b) m ((e : Int) - 1074) ∧ m * 2 ^ e = V (rung b) ∧ (m = 0 ↔ rung b = 0) := by
  have hs : (b / double.signWeight % 2 == 1) = sgn b := by rw [double_sign]; rfl
  have hr : b % double.signWeight = rung b := by rw [double_sign]; rfl
  unfold Format.read
  rw [hs, hr]
  simp only [double_binade, double_inf, double_least]
  by_cases c : rung b < 4503599627370496
  · rw [if_pos c]
    exact ⟨rung b, 0, rfl, by rw [V_small c]; omega, Iff.rfl⟩
  · rw [if_neg c, if_pos h]
    obtain ⟨e, f, hf, he⟩ := split_rung _ c
    refine ⟨4503599627370496 + f, e, ?_, (V_big hf he).symm, by omega⟩
    rw [show rung b % 4503599627370496 = f by omega, show rung b / 4503599627370496 - 1 = e by omega]
    rw [show (-1074 : Int) + ((e : Nat) : Int) = (e : Int) - 1074 by omega]

theorem read_inf (b : Nat) (h : rung b = INF) : double.read b = .infinity (sgn b) := by
  have hs : (b / double.signWeight % 2 == 1) = sgn b := by rw [double_sign]; rfl
  have hr : b % double.signWeight = rung b := by rw [double_sign]; rfl
  unfold Format.read
  rw [hs, hr]
  simp only [double_binade, double_inf]
  rw [if_neg (by rw [h]; decide), if_neg (by omega)]
  rw [if_pos h]

theorem read_nan (b : Nat) (h : INF < rung b) : double.read b = .nan (sgn b) (rung b - INF) := by
  have hs : (b / double.signWeight % 2 == 1) = sgn b := by rw [double_sign]; rfl
  have hr : b % double.signWeight = rung b := by rw [double_sign]; rfl
  have hI : INF = 9218868437227405312 := rfl
  unfold Format.read
  rw [hs, hr]
  simp only [double_binade, double_inf]
  rw [if_neg (by omega), if_neg (by omega), if_neg (by omega)]

end Hf
