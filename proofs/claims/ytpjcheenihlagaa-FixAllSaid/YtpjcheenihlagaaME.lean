/- The quotient of two words: what the model's own division answers (plain arithmetic). No conditions beyond those in each lemma. -/
import Derived.Test.YtpjcheenihlagaaMC
namespace Hf
open Ieee

set_option exponentiation.threshold 2000

theorem div_spec (x y : Nat) (hx : rung x < INF) (hy : rung y < INF) (hz : rung y ≠ 0) :
    ∃ r, double.div x y = some (double.word (sgn x ^^ sgn y) r) ∧ Near (V (rung x) * 2 ^ 1074) (V (rung y)) r := by
  obtain ⟨m, e, hx1, hx2, hx3⟩ := read_finite x hx
  obtain ⟨n, f, hy1, hy2, hy3⟩ := read_finite y hy
  have hn : 0 < n := by have := fun h => hz (hy3.1 h); omega
  have hD : 0 < V (rung y) := by rw [← hy2]; exact Nat.mul_pos hn (Nat.two_pow_pos _)
  unfold Format.div
  rw [hx1, hy1]
  simp only [Datum.quotient]
  rw [if_neg (by omega)]
  simp only [Option.map_some, Format.write]
  have hfb : double.fractionBits + 2 = 54 := rfl
  rw [hfb]
  generalize hmore : 54 + n.log2 - m.log2 = more
  by_cases h0 : m = 0
  · subst h0
    rw [Nat.zero_shiftLeft, Nat.zero_div, Nat.zero_mod]
    rw [show 2 * 0 + ((0 : Nat) != 0).toNat = 0 from rfl, nearest_zero]
    refine ⟨0, rfl, ?_⟩
    rw [← hx2, Nat.zero_mul, Nat.zero_mul]; exact near_zero _ hD
  · rw [Nat.shiftLeft_eq]
    have hml : 2 ^ m.log2 ≤ m := Nat.log2_self_le h0
    have hnl : n < 2 ^ (n.log2 + 1) := Nat.lt_log2_self
    have hq : 9007199254740992 ≤ m * 2 ^ more / n := by
      rw [Nat.le_div_iff_mul_le hn]
      have h1 : 2 ^ m.log2 * 2 ^ more ≤ m * 2 ^ more := Nat.mul_le_mul_right _ hml
      have h2 : 2 ^ (54 + n.log2) ≤ 2 ^ m.log2 * 2 ^ more := by rw [← Nat.pow_add]; exact Nat.pow_le_pow_right (by omega) (by omega)
      have h3 : 2 ^ (54 + n.log2) = 9007199254740992 * 2 ^ (n.log2 + 1) := by
        rw [show (9007199254740992 : Nat) = 2 ^ 53 by decide, ← Nat.pow_add]; congr 1; omega
      omega
    have hmod := Nat.mod_lt (m * 2 ^ more) hn
    have hdm := Nat.div_add_mod (m * 2 ^ more) n
    have stick := @rhe_sticky (m * 2 ^ more) n
    generalize ha : m * 2 ^ more = a at *
    have hs : (a % n != 0).toNat ≤ 1 := by cases (a % n != 0) <;> decide
    generalize hm2 : 2 * (a / n) + (a % n != 0).toNat = mag at *
    have hmag : 0 < mag := by omega
    have hlo : 2 ^ mag.log2 ≤ mag := Nat.log2_self_le (by omega)
    have hhi : mag < 2 ^ (mag.log2 + 1) := Nat.lt_log2_self
    have hg54 : 54 ≤ mag.log2 := by
      apply Decidable.byContradiction; intro hc
      have : 2 ^ (mag.log2 + 1) ≤ 2 ^ 54 := Nat.pow_le_pow_right (by omega) (by omega)
      omega
    unfold Format.nearest
    rw [if_neg (by omega)]
    simp only [double_least, double_inf, double_binade]
    generalize hg : mag.log2 = g at *
    have hfb : ((double.fractionBits : Nat) : Int) = 52 := rfl
    rw [hfb]
    generalize hpl : (e : Int) - 1074 - ((f : Int) - 1074) - (more : Int) - 1 = place
    generalize hl : max (place + (g : Int) - 52) (-1074) = last
    refine ⟨_, rfl, ?_⟩
    have hrhe := cut_rhe (sgn x ^^ sgn y) (mag <<< (place - last).toNat) (last - place).toNat
    generalize Toward.even.cut (sgn x ^^ sgn y) (mag <<< (place - last).toNat) (last - place).toNat = k at hrhe ⊢
    rw [show (place - last).toNat = 0 by omega, Nat.shiftLeft_zero] at hrhe
    obtain ⟨L, hL⟩ : ∃ L : Nat, (L : Int) = last - -1074 := ⟨(last - -1074).toNat, by omega⟩
    rw [show (last - -1074).toNat = L by omega]
    obtain ⟨d, hd⟩ : ∃ d : Nat, (d : Int) = last - place := ⟨(last - place).toNat, by omega⟩
    rw [show (last - place).toNat = d by omega] at hrhe
    have hrhe2 := stick (k := k) (d := d) hn (by omega) hrhe
    have hpe : ∃ h, 2 ^ g = 2 * h := ⟨2 ^ (g - 1), by rw [Nat.mul_comm, ← Nat.pow_succ]; congr 1; omega⟩
    obtain ⟨h, hh⟩ := hpe
    refine near_of_rhe (B := n * 2 ^ d) (Nat.mul_pos hn (Nat.two_pow_pos _)) hD ?_ hrhe2 ?_ ?_
    · rw [← hx2, ← hy2, ← ha]
      have hexp : e + 1074 + d = 1 + more + f + L := by omega
      have h2 : 2 ^ e * 2 ^ 1074 * 2 ^ d = 2 * 2 ^ more * 2 ^ f * 2 ^ L := by
        have : (2 : Nat) = 2 ^ 1 := rfl
        conv => rhs; rw [this]
        simp only [← Nat.pow_add, hexp]
      calc m * 2 ^ e * 2 ^ 1074 * (n * 2 ^ d) = m * n * (2 ^ e * 2 ^ 1074 * 2 ^ d) := by simp only [Nat.mul_comm, Nat.mul_left_comm, Nat.mul_assoc]
        _ = m * n * (2 * 2 ^ more * 2 ^ f * 2 ^ L) := by rw [h2]
        _ = 2 * (m * 2 ^ more) * (n * 2 ^ f) * 2 ^ L := by simp only [Nat.mul_comm, Nat.mul_left_comm, Nat.mul_assoc]
    · intro hL0
      have e1 : 4503599627370496 * (n * 2 ^ d) = n * 2 ^ g := by
        rw [show (4503599627370496 : Nat) = 2 ^ 52 by decide, Nat.mul_left_comm, ← Nat.pow_add]; congr 2; omega
      have e2 : 2 ^ g ≤ 2 * (a / n) := by omega
      have e3 : n * 2 ^ g ≤ n * (2 * (a / n)) := Nat.mul_le_mul_left _ e2
      rw [Nat.mul_left_comm] at e3
      rw [e1]; omega
    · have e1 : 2 ^ (g + 1) ≤ 2 ^ (d + 53) := Nat.pow_le_pow_right (by omega) (by omega)
      have e2 : 2 ^ (g + 1) = 2 * 2 ^ g := by rw [Nat.pow_succ, Nat.mul_comm]
      have e3 : 2 * (a / n) + 2 ≤ 2 ^ (d + 53) := by omega
      have e4 : n * (2 * (a / n) + 2) ≤ n * 2 ^ (d + 53) := Nat.mul_le_mul_left _ e3
      have e5 : n * 2 ^ d * 9007199254740992 = n * 2 ^ (d + 53) := by
        rw [show (9007199254740992 : Nat) = 2 ^ 53 by decide, Nat.mul_assoc, ← Nat.pow_add]
      rw [e5]
      rw [Nat.mul_add, Nat.mul_left_comm] at e4
      omega

theorem div_nan (x y : Nat) (h : INF < rung x ∨ INF < rung y) : double.div x y = none := by
  unfold Format.div
  rcases h with h | h
  · rw [read_nan _ h]; rfl
  · rw [read_nan y h]
    cases double.read x <;> rfl

theorem div_inf_inf (x y : Nat) (hx : rung x = INF) (hy : rung y = INF) : double.div x y = none := by
  unfold Format.div
  rw [read_inf _ hx, read_inf _ hy]; rfl

theorem div_inf_fin (x y : Nat) (hx : rung x = INF) (hy : rung y < INF) : double.div x y = some (double.word (sgn x ^^ sgn y) INF) := by
  unfold Format.div
  obtain ⟨n, f, hy1, _, hy3⟩ := read_finite y hy
  rw [read_inf _ hx, hy1]
  simp only [Datum.quotient, Option.map_some, Format.write, double_inf]

theorem div_fin_inf (x y : Nat) (hx : rung x < INF) (hy : rung y = INF) : double.div x y = some (double.word (sgn x ^^ sgn y) 0) := by
  unfold Format.div
  obtain ⟨n, f, hx1, _, hx3⟩ := read_finite x hx
  rw [read_inf _ hy, hx1]
  simp only [Datum.quotient, Option.map_some, Format.write, nearest_zero]

theorem div_fin_zero (x y : Nat) (hx : rung x < INF) (hy : rung y = 0) : double.div x y = if rung x = 0 then none else some (double.word (sgn x ^^ sgn y) INF) := by
  have hI : INF = 9218868437227405312 := rfl
  unfold Format.div
  obtain ⟨m, e, hx1, _, hx3⟩ := read_finite x hx
  obtain ⟨n, f, hy1, _, hy3⟩ := read_finite y (by omega)
  rw [hy1, hx1]
  simp only [Datum.quotient]
  rw [if_pos (hy3.2 hy)]
  by_cases h : m = 0
  · rw [if_pos h, if_pos (hx3.1 h)]; rfl
  · rw [if_neg h, if_neg (fun q => h (hx3.2 q))]
    simp only [Option.map_some, Format.write, double_inf]

end Hf
