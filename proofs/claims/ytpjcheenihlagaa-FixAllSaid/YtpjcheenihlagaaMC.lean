/- Sums, products and quotients of words, by their numbers. No conditions beyond those in each lemma. -/
import Derived.Test.YtpjcheenihlagaaMB
namespace Hf
open Ieee

/-- A finite word's number, times 2^1074. -/
def SV (b : Nat) : Int := if sgn b then -(V (rung b) : Int) else (V (rung b) : Int)

theorem signed_eq (s : Bool) (m k : Nat) : signed s m k = if s then -((m * 2 ^ k : Nat) : Int) else ((m * 2 ^ k : Nat) : Int) := by
  unfold signed; rw [Nat.shiftLeft_eq]

theorem signed_mul (s : Bool) (m k c : Nat) : signed s m k * ((2 ^ c : Nat) : Int) = signed s m (k + c) := by
  rw [signed_eq, signed_eq, Nat.pow_add]
  cases s
  · simp only [Bool.false_eq_true, if_false]
    rw [← Int.natCast_mul, Nat.mul_assoc]
  · simp only [if_true]
    rw [Int.neg_mul, ← Int.natCast_mul, Nat.mul_assoc]

theorem SV_read {b m e : Nat} (h : m * 2 ^ e = V (rung b)) : signed (sgn b) m e = SV b := by
  rw [signed_eq, h]; rfl

theorem SV_natAbs (b : Nat) : (SV b).natAbs = V (rung b) := by
  unfold SV; split <;> simp

theorem near_zero (D : Nat) (hD : 0 < D) : Near 0 D 0 := by
  have := Near.self (r := 0) D hD (by decide)
  rwa [V_zero, Nat.mul_zero] at this

theorem nearest_zero (s : Bool) (p : Int) : double.nearest s 0 p = double.word s 0 := by
  unfold Format.nearest; rw [if_pos rfl]

/-- The sum of two finite words. -/
theorem sum_spec (x y : Nat) (hx : rung x < INF) (hy : rung y < INF) :
    ∃ r, ((double.read x).sum (double.read y)).map double.write = some (double.word (if SV x + SV y = 0 then sgn x && sgn y else decide (SV x + SV y < 0)) r)
      ∧ Near (SV x + SV y).natAbs 1 r := by
  obtain ⟨m, e, hx1, hx2, _⟩ := read_finite x hx
  obtain ⟨n, f, hy1, hy2, _⟩ := read_finite y hy
  rw [hx1, hy1]
  simp only [Datum.sum, Option.map_some, Format.write]
  obtain ⟨c, hc⟩ : ∃ c : Nat, min ((e : Int) - 1074) ((f : Int) - 1074) = (c : Int) - 1074 := ⟨min e f, by omega⟩
  rw [hc]
  have hec : c ≤ e := by omega
  have hfc : c ≤ f := by omega
  rw [show ((e : Int) - 1074 - ((c : Int) - 1074)).toNat = e - c by omega, show ((f : Int) - 1074 - ((c : Int) - 1074)).toNat = f - c by omega]
  generalize ht : signed (sgn x) m (e - c) + signed (sgn y) n (f - c) = t
  have hP := Nat.two_pow_pos c
  have key : t * ((2 ^ c : Nat) : Int) = SV x + SV y := by
    rw [← ht, Int.add_mul, signed_mul, signed_mul, show e - c + c = e by omega, show f - c + c = f by omega, SV_read hx2, SV_read hy2]
  have hz : (SV x + SV y = 0) ↔ (t = 0) := by
    rw [← key, Int.mul_eq_zero]; omega
  have hl : (SV x + SV y < 0) ↔ (t < 0) := by
    rw [← key]
    constructor
    · intro h; apply Decidable.byContradiction; intro h2
      have := Int.mul_nonneg (a := t) (b := ((2 ^ c : Nat) : Int)) (by omega) (by omega); omega
    · intro h; exact Int.mul_neg_of_neg_of_pos h (by omega)
  have ha : (SV x + SV y).natAbs = t.natAbs * 2 ^ c := by
    rw [← key, Int.natAbs_mul, Int.natAbs_natCast]
  rw [ha]
  by_cases t0 : t = 0
  · rw [if_pos t0, if_pos (hz.2 t0), t0, Int.natAbs_zero, nearest_zero, Nat.zero_mul]
    exact ⟨0, rfl, near_zero 1 (by omega)⟩
  · rw [if_neg t0, if_neg (fun h => t0 (hz.1 h))]
    obtain ⟨r, hr1, hr2⟩ := nearest_near (decide (t < 0)) t.natAbs ((c : Int) - 1074) (by omega) (N := t.natAbs * 2 ^ c) (D := 1) (by omega) (by
      intro u d hud
      rw [show u = c + d by omega, Nat.pow_add]; simp only [Nat.mul_one, Nat.mul_assoc])
    refine ⟨r, ?_, hr2⟩
    rw [hr1]
    have : decide (t < 0) = decide (SV x + SV y < 0) := by simp only [hl]
    rw [this]

theorem add_spec (x y : Nat) (hx : rung x < INF) (hy : rung y < INF) :
    ∃ r, double.add x y = some (double.word (if SV x + SV y = 0 then sgn x && sgn y else decide (SV x + SV y < 0)) r) ∧ Near (SV x + SV y).natAbs 1 r :=
  sum_spec x y hx hy

/-- The word with the other sign. -/
def flip (b : Nat) : Nat := double.word (!(sgn b)) (rung b)

theorem sgn_flip (b : Nat) : sgn (flip b) = !(sgn b) := sgn_word _ _ (rung_lt b)
theorem rung_flip (b : Nat) : rung (flip b) = rung b := rung_word _ _ (rung_lt b)

theorem read_flip (b : Nat) : double.read (flip b) = (double.read b).opposite := by
  by_cases h : rung b < INF
  · -- the same numbers
    have hs : ∀ b, (b / double.signWeight % 2 == 1) = sgn b := fun b => by rw [double_sign]; rfl
    have hr : ∀ b, b % double.signWeight = rung b := fun b => by rw [double_sign]; rfl
    unfold Format.read
    rw [hs, hr, hs, hr, sgn_flip, rung_flip]
    simp only [double_binade, double_inf]
    by_cases c : rung b < 4503599627370496
    · simp only [if_pos c]; rfl
    · simp only [if_neg c, if_pos h]; rfl
  · by_cases h2 : rung b = INF
    · rw [read_inf _ (by rw [rung_flip]; exact h2), read_inf _ h2, sgn_flip]; rfl
    · rw [read_nan _ (by rw [rung_flip]; omega), read_nan _ (by omega), sgn_flip, rung_flip]; rfl

theorem sub_flip (x y : Nat) : double.sub x y = double.add x (flip y) := by
  unfold Format.sub Format.add; rw [read_flip]

theorem add_nan (x y : Nat) (h : INF < rung x ∨ INF < rung y) : double.add x y = none := by
  unfold Format.add
  rcases h with h | h
  · rw [read_nan _ h]; rfl
  · rw [read_nan y h]
    cases double.read x <;> rfl

theorem add_inf_inf (x y : Nat) (hx : rung x = INF) (hy : rung y = INF) :
    double.add x y = if sgn x = sgn y then some (double.word (sgn x) INF) else none := by
  unfold Format.add
  rw [read_inf _ hx, read_inf _ hy]
  simp only [Datum.sum]
  split
  · simp only [Option.map_some, Format.write, double_inf]
  · rfl

theorem add_inf_fin (x y : Nat) (hx : rung x = INF) (hy : rung y < INF) : double.add x y = some (double.word (sgn x) INF) := by
  unfold Format.add
  obtain ⟨n, f, hy1, _, _⟩ := read_finite y hy
  rw [read_inf _ hx, hy1]
  simp only [Datum.sum, Option.map_some, Format.write, double_inf]

theorem add_fin_inf (x y : Nat) (hx : rung x < INF) (hy : rung y = INF) : double.add x y = some (double.word (sgn y) INF) := by
  unfold Format.add
  obtain ⟨n, f, hx1, _, _⟩ := read_finite x hx
  rw [read_inf _ hy, hx1]
  simp only [Datum.sum, Option.map_some, Format.write, double_inf]

/-! ### Products -/
set_option exponentiation.threshold 2000
theorem mul_spec (x y : Nat) (hx : rung x < INF) (hy : rung y < INF) :
    ∃ r, double.mul x y = some (double.word (sgn x ^^ sgn y) r) ∧ Near (V (rung x) * V (rung y)) (2 ^ 1074) r := by
  obtain ⟨m, e, hx1, hx2, hx3⟩ := read_finite x hx
  obtain ⟨n, f, hy1, hy2, hy3⟩ := read_finite y hy
  unfold Format.mul
  rw [hx1, hy1]
  simp only [Datum.product, Option.map_some, Format.write]
  rw [← hx2, ← hy2]
  by_cases h0 : m * n = 0
  · rw [h0, nearest_zero]
    refine ⟨0, rfl, ?_⟩
    have : m * 2 ^ e * (n * 2 ^ f) = 0 := by
      rw [show m * 2 ^ e * (n * 2 ^ f) = m * n * (2 ^ e * 2 ^ f) by simp only [Nat.mul_left_comm, Nat.mul_assoc], h0, Nat.zero_mul]
    rw [this]; exact near_zero _ (Nat.two_pow_pos _)
  · obtain ⟨r, hr1, hr2⟩ := nearest_near (sgn x ^^ sgn y) (m * n) ((e : Int) - 1074 + ((f : Int) - 1074)) (by omega) (N := m * 2 ^ e * (n * 2 ^ f)) (D := 2 ^ 1074) (Nat.two_pow_pos _) (by
      intro u d hud
      have h1 : e + f + d = u + 1074 := by omega
      have h2 : 2 ^ e * 2 ^ f * 2 ^ d = 2 ^ u * 2 ^ 1074 := by rw [← Nat.pow_add, ← Nat.pow_add, ← Nat.pow_add, h1]
      have h3 : m * 2 ^ e * (n * 2 ^ f) * 2 ^ d = m * n * (2 ^ e * 2 ^ f * 2 ^ d) := by
        simp only [Nat.mul_left_comm, Nat.mul_assoc]
      rw [h3, h2]; simp only [Nat.mul_assoc])
    exact ⟨r, by rw [hr1], hr2⟩

theorem mul_nan (x y : Nat) (h : INF < rung x ∨ INF < rung y) : double.mul x y = none := by
  unfold Format.mul
  rcases h with h | h
  · rw [read_nan _ h]; rfl
  · rw [read_nan y h]
    cases double.read x <;> rfl

theorem mul_inf_inf (x y : Nat) (hx : rung x = INF) (hy : rung y = INF) : double.mul x y = some (double.word (sgn x ^^ sgn y) INF) := by
  unfold Format.mul
  rw [read_inf _ hx, read_inf _ hy]
  simp only [Datum.product, Option.map_some, Format.write, double_inf]

theorem mul_inf_fin (x y : Nat) (hx : rung x = INF) (hy : rung y < INF) :
    double.mul x y = if rung y = 0 then none else some (double.word (sgn x ^^ sgn y) INF) := by
  unfold Format.mul
  obtain ⟨n, f, hy1, _, hy3⟩ := read_finite y hy
  rw [read_inf _ hx, hy1]
  simp only [Datum.product]
  by_cases h : n = 0
  · rw [if_pos h, if_pos (hy3.1 h)]; rfl
  · rw [if_neg h, if_neg (fun q => h (hy3.2 q))]
    simp only [Option.map_some, Format.write, double_inf]

theorem mul_fin_inf (x y : Nat) (hx : rung x < INF) (hy : rung y = INF) :
    double.mul x y = if rung x = 0 then none else some (double.word (sgn x ^^ sgn y) INF) := by
  unfold Format.mul
  obtain ⟨n, f, hx1, _, hx3⟩ := read_finite x hx
  rw [read_inf _ hy, hx1]
  simp only [Datum.product]
  by_cases h : n = 0
  · rw [if_pos h, if_pos (hx3.1 h)]; rfl
  · rw [if_neg h, if_neg (fun q => h (hx3.2 q))]
    simp only [Option.map_some, Format.write, double_inf, Bool.xor_comm]

/-! ### Quotients -/
/-- The sticky quotient is cut as the true one is. -/
theorem rhe_sticky {a n k d : Nat} (hn : 0 < n) (hd : 2 ≤ d)
    (h : Rhe (2 * (a / n) + (a % n != 0).toNat) (2 ^ d) k) : Rhe (2 * a) (n * 2 ^ d) k := by
  obtain ⟨j, rfl⟩ : ∃ j, d = j + 2 := ⟨d - 2, by omega⟩
  have e1 := Nat.div_add_mod a n
  have e2 := Nat.mod_lt a hn
  have ep : 2 ^ (j + 2) = 4 * 2 ^ j := by rw [Nat.pow_add]; omega
  rw [ep] at h ⊢
  generalize hq : a / n = q at *
  generalize hr : a % n = r at *
  generalize hg : 2 ^ j = g at *
  have hs : ((r != 0).toNat = 0 ∧ r = 0) ∨ ((r != 0).toNat = 1 ∧ 0 < r) := by
    by_cases c : r = 0
    · left; simp [c]
    · right; simp [c]; omega
  obtain ⟨h1, h2, h3, h4⟩ := h
  subst e1
  have four : ∀ z, 4 * g * z = 2 * (2 * g * z) := fun z => by rw [← Nat.mul_assoc, ← Nat.mul_assoc]
  have eA : n * (4 * g) * (2 * k + 1) = n * (2 * (2 * g * (2 * k + 1))) := by rw [Nat.mul_assoc, four]
  have eB : n * (4 * g) * (2 * k) = n * (2 * (2 * g * (2 * k))) := by rw [Nat.mul_assoc, four]
  have eH : 4 * g * (2 * k + 1) = 2 * (2 * g * (2 * k + 1)) := four _
  have eT : 4 * g * (2 * k) = 2 * (2 * g * (2 * k)) := four _
  have eG : n * (4 * g) = n * (2 * (2 * g)) := by rw [show 4 * g = 2 * (2 * g) by omega]
  rw [eH] at h1 h2
  rw [eT] at h3 h4
  generalize hH : 2 * g * (2 * k + 1) = H at *
  generalize hT : 2 * g * (2 * k) = T at *
  have hHe : H = 2 * (g * (2 * k + 1)) := by rw [← hH, Nat.mul_assoc]
  have hTe : T = 2 * (g * (2 * k)) := by rw [← hT, Nat.mul_assoc]
  generalize g * (2 * k + 1) = H2 at *
  generalize g * (2 * k) = T2 at *
  -- n*q + r vs n*H2..
  unfold Rhe
  rw [eA, eB, eG]
  rcases hs with ⟨s0, r0⟩ | ⟨s1, r1⟩
  · subst r0
    rw [s0] at h1 h2 h3 h4
    have up : n * q ≤ n * H2 := Nat.mul_le_mul_left _ (by omega)
    have dn : n * T2 ≤ n * (q + g) := Nat.mul_le_mul_left _ (by omega)
    rw [Nat.mul_add] at dn
    have x1 : n * (2 * H) = 4 * (n * H2) := by rw [hHe]; simp only [Nat.mul_left_comm n]; omega
    have x2 : n * (2 * T) = 4 * (n * T2) := by rw [hTe]; simp only [Nat.mul_left_comm n]; omega
    have x3 : n * (2 * (2 * g)) = 4 * (n * g) := by simp only [Nat.mul_left_comm n]; omega
    rw [x1, x2, x3]
    refine ⟨by omega, fun he => h2 ?_, by omega, fun he => h4 ?_⟩
    · have : n * q = n * H2 := by omega
      have := Nat.eq_of_mul_eq_mul_left hn this
      omega
    · have : n * T2 = n * (q + g) := by rw [Nat.mul_add]; omega
      have := Nat.eq_of_mul_eq_mul_left hn this
      omega
  · rw [s1] at h1 h2 h3 h4
    have up : n * (q + 1) ≤ n * H2 := Nat.mul_le_mul_left _ (by omega)
    have dn : n * T2 ≤ n * (q + g) := Nat.mul_le_mul_left _ (by omega)
    rw [Nat.mul_add] at dn
    rw [Nat.mul_add] at up
    have x1 : n * (2 * H) = 4 * (n * H2) := by rw [hHe]; simp only [Nat.mul_left_comm n]; omega
    have x2 : n * (2 * T) = 4 * (n * T2) := by rw [hTe]; simp only [Nat.mul_left_comm n]; omega
    have x3 : n * (2 * (2 * g)) = 4 * (n * g) := by simp only [Nat.mul_left_comm n]; omega
    rw [x1, x2, x3]
    refine ⟨by omega, by omega, by omega, by omega⟩

end Hf
