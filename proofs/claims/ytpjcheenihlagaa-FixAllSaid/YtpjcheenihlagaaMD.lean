/- The order of words and their whole numbers. No conditions beyond those in each lemma. -/
import Derived.Test.YtpjcheenihlagaaMC
import Derived.RowKit
namespace Hf
open Ieee
set_option exponentiation.threshold 2000

/-! ### The order -/
theorem cmp_scale (a b : Int) (c : Nat) : compare (a * ((2 ^ c : Nat) : Int)) (b * ((2 ^ c : Nat) : Int)) = compare a b := by
  have hp : (0 : Int) < ((2 ^ c : Nat) : Int) := by have := Nat.two_pow_pos c; omega
  rcases Int.lt_trichotomy a b with h | h | h
  · rw [Int.compare_eq_lt.2 h, Int.compare_eq_lt.2 (Int.mul_lt_mul_of_pos_right h hp)]
  · subst h; rw [Int.compare_eq_eq.2 rfl, Int.compare_eq_eq.2 rfl]
  · rw [Int.compare_eq_gt.2 h, Int.compare_eq_gt.2 (Int.mul_lt_mul_of_pos_right h hp)]

theorem SV_bound {b : Nat} (h : rung b < INF) : -(V INF : Int) < SV b ∧ SV b < (V INF : Int) := by
  have := V_lt h
  unfold SV; split <;> omega

theorem SV_inf {b : Nat} (h : rung b = INF) : SV b = if sgn b then -(V INF : Int) else (V INF : Int) := by
  unfold SV; rw [h]

theorem V_INF_pos : 0 < V INF := by
  have := V_lt (a := 0) (b := INF) (by decide); rw [V_zero] at this; exact this

theorem order_spec (x y : Nat) (hx : rung x ≤ INF) (hy : rung y ≤ INF) : double.order x y = some (compare (SV x) (SV y)) := by
  unfold Format.order
  have hI := V_INF_pos
  by_cases cx : rung x < INF
  · obtain ⟨m, e, hx1, hx2, _⟩ := read_finite x cx
    have bx := SV_bound cx
    by_cases cy : rung y < INF
    · obtain ⟨n, f, hy1, hy2, _⟩ := read_finite y cy
      rw [hx1, hy1]
      simp only [Datum.order]
      obtain ⟨c, hc⟩ : ∃ c : Nat, min ((e : Int) - 1074) ((f : Int) - 1074) = (c : Int) - 1074 := ⟨min e f, by omega⟩
      rw [hc, show ((e : Int) - 1074 - ((c : Int) - 1074)).toNat = e - c by omega, show ((f : Int) - 1074 - ((c : Int) - 1074)).toNat = f - c by omega]
      rw [← cmp_scale _ _ c, signed_mul, signed_mul, show e - c + c = e by omega, show f - c + c = f by omega, SV_read hx2, SV_read hy2]
    · have ey : rung y = INF := by omega
      rw [hx1, read_inf y ey, SV_inf ey]
      simp only [Datum.order]
      split
      · rw [Int.compare_eq_gt.2 (by omega)]
      · rw [Int.compare_eq_lt.2 (by omega)]
  · have ex : rung x = INF := by omega
    by_cases cy : rung y < INF
    · obtain ⟨n, f, hy1, hy2, _⟩ := read_finite y cy
      have byb := SV_bound cy
      rw [hy1, read_inf x ex, SV_inf ex]
      simp only [Datum.order]
      split
      · rw [Int.compare_eq_lt.2 (by omega)]
      · rw [Int.compare_eq_gt.2 (by omega)]
    · have ey : rung y = INF := by omega
      rw [read_inf x ex, read_inf y ey, SV_inf ex, SV_inf ey]
      simp only [Datum.order]
      cases sgn x <;> cases sgn y <;> simp only [Bool.toNat_true, Bool.toNat_false, Bool.false_eq_true, if_false, if_true]
      · rw [Int.compare_eq_eq.2 rfl]; rfl
      · rw [Int.compare_eq_gt.2 (by omega)]; rfl
      · rw [Int.compare_eq_lt.2 (by omega)]; rfl
      · rw [Int.compare_eq_eq.2 rfl]; rfl

theorem order_nan (x y : Nat) (h : INF < rung x ∨ INF < rung y) : double.order x y = none := by
  unfold Format.order
  rcases h with h | h
  · rw [read_nan _ h]; rfl
  · rw [read_nan y h]
    cases double.read x <;> rfl

/-- Is the one less than the other? -/
def less (x y : Nat) : Bool := decide (rung x ≤ INF ∧ rung y ≤ INF ∧ SV x < SV y)

theorem less_spec (x y : Nat) : (double.order x y == some .lt) = less x y := by
  unfold less
  by_cases h : rung x ≤ INF ∧ rung y ≤ INF
  · rw [order_spec x y h.1 h.2]
    rw [Bool.eq_iff_iff]
    simp only [beq_iff_eq, Option.some.injEq, Int.compare_eq_lt, decide_eq_true_eq, h.1, h.2, true_and]
  · rw [order_nan x y (by omega)]
    symm
    have : ¬ (rung x ≤ INF ∧ rung y ≤ INF ∧ SV x < SV y) := fun q => h ⟨q.1, q.2.1⟩
    simp only [this, decide_false]; rfl

theorem gt_spec (x y : Nat) : (double.order x y == some .gt) = less y x := by
  unfold less
  by_cases h : rung x ≤ INF ∧ rung y ≤ INF
  · rw [order_spec x y h.1 h.2]
    rw [Bool.eq_iff_iff]
    simp only [beq_iff_eq, Option.some.injEq, Int.compare_eq_gt, decide_eq_true_eq, h.1, h.2, true_and]
  · rw [order_nan x y (by omega)]
    symm
    have : ¬ (rung y ≤ INF ∧ rung x ≤ INF ∧ SV y < SV x) := fun q => h ⟨q.2.1, q.1⟩
    simp only [this, decide_false]; rfl

theorem eq_spec (x : Nat) : (double.order x x == some .eq) = decide (rung x ≤ INF) := by
  by_cases h : rung x ≤ INF
  · rw [order_spec x x h h, Int.compare_eq_eq.2 rfl]; simp [h]
  · rw [order_nan x x (by omega)]; simp [h]

/-! ### Whole numbers -/
/-- The number cut toward 0. -/
def trunc (b : Nat) : Int := if sgn b then -((V (rung b) / 2 ^ 1074 : Nat) : Int) else ((V (rung b) / 2 ^ 1074 : Nat) : Int)

theorem cut_zero (s : Bool) (n d : Nat) : Toward.zero.cut s n d = n / 2 ^ d := by
  have hlog : n < 2 ^ (n.log2 + 1) := Nat.lt_log2_self
  unfold Toward.cut
  simp only [Nat.shiftLeft_eq, Nat.one_mul, Bool.toNat_false, Nat.add_zero]
  by_cases h : d ≤ n.log2 + 2
  · rw [Nat.min_eq_left h]
  · rw [Nat.min_eq_right (by omega)]
    have e1 : n < 2 ^ (n.log2 + 2) := Nat.lt_of_lt_of_le hlog (Nat.pow_le_pow_right (by omega) (by omega))
    have e2 : n < 2 ^ d := Nat.lt_of_lt_of_le hlog (Nat.pow_le_pow_right (by omega) (by omega))
    rw [Nat.div_eq_of_lt e1, Nat.div_eq_of_lt e2]

theorem toInt_spec (b : Nat) (h : rung b < INF) : (double.read b).toInt .zero = some (trunc b) := by
  obtain ⟨m, e, h1, h2, _⟩ := read_finite b h
  rw [h1]
  simp only [Datum.toInt, Datum.integral, cut_zero, Nat.shiftLeft_eq]
  congr 1
  unfold trunc signed
  rw [Nat.shiftLeft_eq, Nat.pow_zero, Nat.mul_one, ← h2]
  have key : m * 2 ^ ((e : Int) - 1074).toNat / 2 ^ (-((e : Int) - 1074)).toNat = m * 2 ^ e / 2 ^ 1074 := by
    by_cases c : 1074 ≤ e
    · rw [show (-((e : Int) - 1074)).toNat = 0 by omega, Nat.pow_zero, Nat.div_one, show ((e : Int) - 1074).toNat = e - 1074 by omega]
      have : 2 ^ e = 2 ^ (e - 1074) * 2 ^ 1074 := by rw [← Nat.pow_add]; congr 1; omega
      rw [this, ← Nat.mul_assoc, Nat.mul_div_cancel _ (Nat.two_pow_pos _)]
    · rw [show ((e : Int) - 1074).toNat = 0 by omega, Nat.pow_zero, Nat.mul_one, show (-((e : Int) - 1074)).toNat = 1074 - e by omega]
      have : 2 ^ 1074 = 2 ^ (1074 - e) * 2 ^ e := by rw [← Nat.pow_add]; congr 1; omega
      rw [this, Nat.mul_div_mul_right _ _ (Nat.two_pow_pos _)]
  rw [key]

/-- The float of a whole number. -/
theorem near_int (n : Int) : ∃ r, Go.FloatKind.f64.nearest n = double.word (decide (n < 0)) r ∧ Near (n.natAbs * 2 ^ 1074) 1 r := by
  show ∃ r, double.write (.number (n < 0) n.natAbs 0) = _ ∧ _
  simp only [Format.write]
  by_cases h : n = 0
  · subst h
    refine ⟨0, nearest_zero _ _, ?_⟩
    rw [Int.natAbs_zero, Nat.zero_mul]; exact near_zero 1 (by omega)
  · obtain ⟨r, h1, h2⟩ := nearest_near (decide (n < 0)) n.natAbs 0 (by omega) (N := n.natAbs * 2 ^ 1074) (D := 1) (by omega) (by
      intro u d hud
      rw [Nat.mul_one, Nat.mul_assoc, ← Nat.pow_add, show 1074 + d = u by omega])
    exact ⟨r, h1, h2⟩

end Hf
