/- The algebra of the words' sums, products and quotients (plain arithmetic): turned round, with the other sign, with one, two and nought; how they grow. No conditions beyond those in each lemma. -/
import Derived.Test.YtpjcheenihlagaaMD
import Derived.Test.YtpjcheenihlagaaME
namespace Hf
open Ieee

set_option exponentiation.threshold 2000

def ONE : Nat := 4607182418800017408
def TWO : Nat := 4611686018427387904
theorem rung_one : rung ONE = ONE := by decide
theorem rung_two : rung TWO = TWO := by decide
theorem sgn_one : sgn ONE = false := by decide
theorem sgn_two : sgn TWO = false := by decide
theorem V_one : V ONE = 2 ^ 1074 := by decide +kernel
theorem V_two : V TWO = 2 ^ 1075 := by decide +kernel
theorem one_lt : ONE < INF := by decide
theorem two_lt : TWO < INF := by decide

theorem tri (x : Nat) : INF < rung x ∨ rung x = INF ∨ rung x < INF := by omega

theorem add_comm (x y : Nat) : double.add x y = double.add y x := by
  rcases tri x with hx | hx | hx
  · rw [add_nan _ _ (.inl hx), add_nan _ _ (.inr hx)]
  · rcases tri y with hy | hy | hy
    · rw [add_nan _ _ (.inr hy), add_nan _ _ (.inl hy)]
    · rw [add_inf_inf _ _ hx hy, add_inf_inf _ _ hy hx]
      by_cases c : sgn x = sgn y
      · rw [if_pos c, if_pos c.symm, c]
      · rw [if_neg c, if_neg (fun h => c h.symm)]
    · rw [add_inf_fin _ _ hx hy, add_fin_inf _ _ hy hx]
  · rcases tri y with hy | hy | hy
    · rw [add_nan _ _ (.inr hy), add_nan _ _ (.inl hy)]
    · rw [add_fin_inf _ _ hx hy, add_inf_fin _ _ hy hx]
    · obtain ⟨r, h1, h2⟩ := add_spec x y hx hy
      obtain ⟨q, g1, g2⟩ := add_spec y x hy hx
      rw [Int.add_comm, Bool.and_comm] at g1
      rw [Int.add_comm] at g2
      rw [h1, g1, Near.unique (by omega) (by omega) h2 g2 rfl]

theorem mul_comm (x y : Nat) : double.mul x y = double.mul y x := by
  rcases tri x with hx | hx | hx
  · rw [mul_nan _ _ (.inl hx), mul_nan _ _ (.inr hx)]
  · rcases tri y with hy | hy | hy
    · rw [mul_nan _ _ (.inr hy), mul_nan _ _ (.inl hy)]
    · rw [mul_inf_inf _ _ hx hy, mul_inf_inf _ _ hy hx, Bool.xor_comm]
    · rw [mul_inf_fin _ _ hx hy, mul_fin_inf _ _ hy hx, Bool.xor_comm]
  · rcases tri y with hy | hy | hy
    · rw [mul_nan _ _ (.inr hy), mul_nan _ _ (.inl hy)]
    · rw [mul_fin_inf _ _ hx hy, mul_inf_fin _ _ hy hx, Bool.xor_comm]
    · obtain ⟨r, h1, h2⟩ := mul_spec x y hx hy
      obtain ⟨q, g1, g2⟩ := mul_spec y x hy hx
      rw [Bool.xor_comm] at g1
      rw [Nat.mul_comm] at g2
      rw [h1, g1, Near.unique (Nat.two_pow_pos _) (Nat.two_pow_pos _) h2 g2 rfl]

/-- What is told of a word: itself, if it is one of a number. -/
def tell (x : Nat) : Option Nat := if rung x ≤ INF then some (double.word (sgn x) (rung x)) else none

theorem tell_nan {x : Nat} (h : INF < rung x) : tell x = none := by unfold tell; rw [if_neg (by omega)]
theorem tell_num {x : Nat} (h : rung x ≤ INF) : tell x = some (double.word (sgn x) (rung x)) := by unfold tell; rw [if_pos h]

theorem near_self1 {x : Nat} (h : rung x < INF) : Near (V (rung x)) 1 (rung x) := by
  have := Near.self (r := rung x) 1 (by omega) (by omega)
  rwa [Nat.one_mul] at this

theorem mul_one' (x : Nat) : double.mul x ONE = tell x := by
  have h1 := one_lt
  rcases tri x with hx | hx | hx
  · rw [mul_nan _ _ (.inl hx), tell_nan hx]
  · rw [mul_inf_fin _ _ hx (by rw [rung_one]; exact h1), rung_one, if_neg (by decide), tell_num (by omega), sgn_one, Bool.xor_false, hx]
  · obtain ⟨r, g1, g2⟩ := mul_spec x ONE hx (by rw [rung_one]; exact h1)
    rw [rung_one, V_one, Nat.mul_comm] at g2
    rw [g1, tell_num (by omega), sgn_one, Bool.xor_false, Near.unique (Nat.two_pow_pos _) (Nat.two_pow_pos _) g2 (Near.self _ (Nat.two_pow_pos _) (Nat.le_of_lt hx)) rfl]

theorem div_one' (x : Nat) : double.div x ONE = tell x := by
  have h1 := one_lt
  rcases tri x with hx | hx | hx
  · rw [div_nan _ _ (.inl hx), tell_nan hx]
  · rw [div_inf_fin _ _ hx (by rw [rung_one]; exact h1), tell_num (by omega), sgn_one, Bool.xor_false, hx]
  · obtain ⟨r, g1, g2⟩ := div_spec x ONE hx (by rw [rung_one]; exact h1) (by rw [rung_one]; decide)
    rw [rung_one, V_one, Nat.mul_comm] at g2
    rw [g1, tell_num (by omega), sgn_one, Bool.xor_false, Near.unique (Nat.two_pow_pos _) (Nat.two_pow_pos _) g2 (Near.self _ (Nat.two_pow_pos _) (Nat.le_of_lt hx)) rfl]

theorem SV_zero_iff (x : Nat) : SV x = 0 ↔ V (rung x) = 0 := by unfold SV; split <;> omega

theorem sgn_lt {x : Nat} (h : SV x ≠ 0) : decide (SV x < 0) = sgn x := by
  unfold SV at *
  cases hs : sgn x with
  | true => rw [hs] at h; simp only [if_true] at *; rw [decide_eq_true_eq]; omega
  | false => rw [hs] at h; simp only [Bool.false_eq_true, if_false] at *; rw [decide_eq_false_iff_not]; omega

theorem mul_two (x : Nat) : double.mul x TWO = double.add x x := by
  have h1 := two_lt
  rcases tri x with hx | hx | hx
  · rw [mul_nan _ _ (.inl hx), add_nan _ _ (.inl hx)]
  · rw [mul_inf_fin _ _ hx (by rw [rung_two]; exact h1), rung_two, if_neg (by decide), add_inf_inf _ _ hx hx, if_pos rfl, sgn_two, Bool.xor_false]
  · obtain ⟨r, g1, g2⟩ := mul_spec x TWO hx (by rw [rung_two]; exact h1)
    obtain ⟨q, f1, f2⟩ := add_spec x x hx hx
    rw [rung_two, V_two] at g2
    have hs : (if SV x + SV x = 0 then sgn x && sgn x else decide (SV x + SV x < 0)) = sgn x := by
      by_cases c : SV x = 0
      · rw [if_pos (by omega), Bool.and_self]
      · rw [if_neg (by omega), ← sgn_lt c]; congr 1; rw [eq_iff_iff]; omega
    have hn := SV_natAbs x
    have hN : (SV x + SV x).natAbs = 2 * V (rung x) := by omega
    rw [hN] at f2
    rw [hs] at f1
    have hp : (2 : Nat) ^ 1075 = 2 * 2 ^ 1074 := by rw [show 1075 = 1074 + 1 from rfl, Nat.pow_succ, Nat.mul_comm]
    rw [g1, f1, sgn_two, Bool.xor_false, Near.unique (Nat.two_pow_pos _) (by omega) g2 f2 (by rw [hp, Nat.mul_one, Nat.mul_left_comm, Nat.mul_assoc])]

/-- A nought with the sign added leaves a number. -/
theorem add_nought (x : Nat) : double.add x 9223372036854775808 = tell x := by
  have e1 : rung 9223372036854775808 = 0 := by decide
  have e2 : sgn 9223372036854775808 = true := by decide
  have e3 : SV 9223372036854775808 = 0 := by rw [SV_zero_iff, e1]; rfl
  have h0 : rung 9223372036854775808 < INF := by rw [e1]; decide
  rcases tri x with hx | hx | hx
  · rw [add_nan _ _ (.inl hx), tell_nan hx]
  · rw [add_inf_fin _ _ hx h0, tell_num (by omega), hx]
  · obtain ⟨r, g1, g2⟩ := add_spec x _ hx h0
    rw [e3, e2, Int.add_zero, Bool.and_true] at g1
    rw [e3, Int.add_zero, SV_natAbs] at g2
    have hs : (if SV x = 0 then sgn x else decide (SV x < 0)) = sgn x := by
      by_cases c : SV x = 0
      · rw [if_pos c]
      · rw [if_neg c, sgn_lt c]
    rw [g1, tell_num (by omega), hs, Near.unique (by omega) (by omega) g2 (near_self1 hx) rfl]

theorem flip_zero : flip 0 = 9223372036854775808 := by decide

theorem sub_zero (x : Nat) : double.sub x 0 = tell x := by rw [sub_flip, flip_zero, add_nought]

theorem SV_flip (x : Nat) : SV (flip x) = -SV x := by
  unfold SV; rw [sgn_flip, rung_flip]
  cases sgn x <;> simp

theorem sub_self (x : Nat) (h : rung x < INF) : double.sub x x = some (double.word false 0) := by
  rw [sub_flip]
  obtain ⟨r, g1, g2⟩ := add_spec x (flip x) h (by rw [rung_flip]; exact h)
  rw [SV_flip, show SV x + -SV x = 0 by omega, if_pos rfl, sgn_flip] at g1
  rw [SV_flip, show SV x + -SV x = 0 by omega] at g2
  rw [g1, ← Near.unique (by omega) (by omega) (near_zero 1 (by omega)) g2 rfl]
  cases sgn x <;> rfl

theorem V_pos {r : Nat} (h : r ≠ 0) : 0 < V r := by have := V_lt (a := 0) (b := r) (by omega); omega

theorem div_self (x : Nat) (h : rung x < INF) (h0 : rung x ≠ 0) : double.div x x = some ONE := by
  obtain ⟨r, g1, g2⟩ := div_spec x x h h h0
  have h2 : Near (V (rung x) * V ONE) (V (rung x)) ONE := Near.self _ (V_pos h0) (Nat.le_of_lt one_lt)
  rw [V_one] at h2
  rw [g1, Near.unique (V_pos h0) (V_pos h0) g2 h2 rfl, Bool.xor_self]
  rfl

theorem flip_word (s : Bool) {r : Nat} (h : r < 9223372036854775808) : flip (double.word s r) = double.word (!s) r := by
  unfold flip; rw [sgn_word _ _ h, rung_word _ _ h]

theorem near_lt {N D r : Nat} (h : Near N D r) : r < 9223372036854775808 := by
  have hI : INF = 9218868437227405312 := rfl
  have := h.1; omega

theorem not_xor (s t : Bool) : ((!s) ^^ t) = !(s ^^ t) := by cases s <;> cases t <;> rfl
theorem xor_not (s t : Bool) : (s ^^ (!t)) = !(s ^^ t) := by cases s <;> cases t <;> rfl
theorem inf_lt : INF < 9223372036854775808 := by decide

theorem mul_flip (x y : Nat) : double.mul (flip x) y = (double.mul x y).map flip := by
  rcases tri x with hx | hx | hx
  · rw [mul_nan _ _ (.inl (by rw [rung_flip]; exact hx)), mul_nan _ _ (.inl hx)]; rfl
  · rcases tri y with hy | hy | hy
    · rw [mul_nan _ _ (.inr hy), mul_nan _ _ (.inr hy)]; rfl
    · rw [mul_inf_inf _ _ (by rw [rung_flip]; exact hx) hy, mul_inf_inf _ _ hx hy, Option.map_some, flip_word _ inf_lt, sgn_flip, not_xor]
    · rw [mul_inf_fin _ _ (by rw [rung_flip]; exact hx) hy, mul_inf_fin _ _ hx hy]
      by_cases c : rung y = 0
      · rw [if_pos c, if_pos c]; rfl
      · rw [if_neg c, if_neg c, Option.map_some, flip_word _ inf_lt, sgn_flip, not_xor]
  · rcases tri y with hy | hy | hy
    · rw [mul_nan _ _ (.inr hy), mul_nan _ _ (.inr hy)]; rfl
    · rw [mul_fin_inf _ _ (by rw [rung_flip]; exact hx) hy, mul_fin_inf _ _ hx hy, rung_flip]
      by_cases c : rung x = 0
      · rw [if_pos c, if_pos c]; rfl
      · rw [if_neg c, if_neg c, Option.map_some, flip_word _ inf_lt, sgn_flip, not_xor]
    · obtain ⟨r, h1, h2⟩ := mul_spec x y hx hy
      obtain ⟨q, g1, g2⟩ := mul_spec (flip x) y (by rw [rung_flip]; exact hx) hy
      rw [rung_flip] at g2
      rw [h1, g1, Option.map_some, flip_word _ (near_lt h2), sgn_flip, not_xor, Near.unique (Nat.two_pow_pos _) (Nat.two_pow_pos _) g2 h2 rfl]

theorem div_flip (x y : Nat) : double.div x (flip y) = (double.div x y).map flip := by
  rcases tri x with hx | hx | hx
  · rw [div_nan _ _ (.inl hx), div_nan _ _ (.inl hx)]; rfl
  · rcases tri y with hy | hy | hy
    · rw [div_nan _ _ (.inr (by rw [rung_flip]; exact hy)), div_nan _ _ (.inr hy)]; rfl
    · rw [div_inf_inf _ _ hx (by rw [rung_flip]; exact hy), div_inf_inf _ _ hx hy]; rfl
    · rw [div_inf_fin _ _ hx (by rw [rung_flip]; exact hy), div_inf_fin _ _ hx hy, Option.map_some, flip_word _ inf_lt, sgn_flip, xor_not]
  · rcases tri y with hy | hy | hy
    · rw [div_nan _ _ (.inr (by rw [rung_flip]; exact hy)), div_nan _ _ (.inr hy)]; rfl
    · rw [div_fin_inf _ _ hx (by rw [rung_flip]; exact hy), div_fin_inf _ _ hx hy, Option.map_some, flip_word _ (by omega), sgn_flip, xor_not]
    · by_cases c : rung y = 0
      · rw [div_fin_zero _ _ hx (by rw [rung_flip]; exact c), div_fin_zero _ _ hx c]
        by_cases c2 : rung x = 0
        · rw [if_pos c2, if_pos c2]; rfl
        · rw [if_neg c2, if_neg c2, Option.map_some, flip_word _ inf_lt, sgn_flip, xor_not]
      · have hD := V_pos c
        obtain ⟨r, h1, h2⟩ := div_spec x y hx hy c
        obtain ⟨q, g1, g2⟩ := div_spec x (flip y) hx (by rw [rung_flip]; exact hy) (by rw [rung_flip]; exact c)
        rw [rung_flip] at g2
        rw [h1, g1, Option.map_some, flip_word _ (near_lt h2), sgn_flip, xor_not, Near.unique hD hD g2 h2 rfl]

/-! ### Growing -/
/-- A word nearest to S / D. -/
def Res (S : Int) (D w : Nat) : Prop := ∃ s r, w = double.word s r ∧ Near S.natAbs D r ∧ (S < 0 → s = true) ∧ (0 < S → s = false)

theorem Res.mono {S T : Int} {D x y : Nat} (hD : 0 < D) (hx : Res S D x) (hy : Res T D y) (h : S ≤ T) : SV x ≤ SV y := by
  obtain ⟨s, r, rfl, n1, p1, q1⟩ := hx
  obtain ⟨t, q, rfl, n2, p2, q2⟩ := hy
  unfold SV
  rw [sgn_word _ _ (near_lt n1), rung_word _ _ (near_lt n1), sgn_word _ _ (near_lt n2), rung_word _ _ (near_lt n2)]
  have z1 : S = 0 → r = 0 := fun h => by subst h; exact Near.unique hD hD n1 (near_zero D hD) rfl
  have z2 : T = 0 → q = 0 := fun h => by subst h; exact Near.unique hD hD n2 (near_zero D hD) rfl
  have v0 : V 0 = 0 := rfl
  have m1 : S.natAbs ≤ T.natAbs → V r ≤ V q := fun h => V_mono (Near.mono hD hD n1 n2 (Nat.mul_le_mul_right _ h))
  have m2 : T.natAbs ≤ S.natAbs → V q ≤ V r := fun h => V_mono (Near.mono hD hD n2 n1 (Nat.mul_le_mul_right _ h))
  rcases Int.lt_trichotomy S 0 with a | a | a
  · rw [p1 a, if_pos rfl]
    rcases Int.lt_trichotomy T 0 with b | b | b
    · rw [p2 b, if_pos rfl]; have := m2 (by omega); omega
    · rw [z2 b, v0]; split <;> omega
    · rw [q2 b]; simp only [Bool.false_eq_true, if_false]; omega
  · rw [z1 a, v0]
    rcases Int.lt_trichotomy T 0 with b | b | b
    · omega
    · rw [z2 b, v0]; split <;> split <;> omega
    · rw [q2 b]; simp only [Bool.false_eq_true, if_false]; split <;> omega
  · rw [q1 a]
    rw [q2 (by omega)]; simp only [Bool.false_eq_true, if_false]
    have := m1 (by omega); omega

theorem add_res (x y : Nat) (hx : rung x < INF) (hy : rung y < INF) : ∃ w, double.add x y = some w ∧ Res (SV x + SV y) 1 w := by
  obtain ⟨r, h1, h2⟩ := add_spec x y hx hy
  refine ⟨_, h1, _, _, rfl, h2, ?_, ?_⟩
  · intro h; rw [if_neg (by omega), decide_eq_true_eq]; exact h
  · intro h; rw [if_neg (by omega), decide_eq_false_iff_not]; omega

theorem mul_res (x y : Nat) (hx : rung x < INF) (hy : rung y < INF) (hs : sgn y = false) : ∃ w, double.mul x y = some w ∧ Res (SV x * V (rung y)) (2 ^ 1074) w := by
  obtain ⟨r, h1, h2⟩ := mul_spec x y hx hy
  refine ⟨_, h1, _, _, rfl, by rw [Int.natAbs_mul, SV_natAbs, Int.natAbs_natCast]; exact h2, ?_, ?_⟩
  · intro h; rw [hs, Bool.xor_false, ← sgn_lt (fun c => by rw [c, Int.zero_mul] at h; omega), decide_eq_true_eq]
    apply Decidable.byContradiction; intro c
    have := Int.mul_nonneg (a := SV x) (b := V (rung y)) (by omega) (by omega); omega
  · intro h; rw [hs, Bool.xor_false, ← sgn_lt (fun c => by rw [c, Int.zero_mul] at h; omega), decide_eq_false_iff_not]
    intro c
    have := Int.mul_nonneg (a := -SV x) (b := V (rung y)) (by omega) (by omega)
    rw [Int.neg_mul] at this; omega

theorem div_res (x y : Nat) (hx : rung x < INF) (hy : rung y < INF) (h0 : rung y ≠ 0) (hs : sgn y = false) : ∃ w, double.div x y = some w ∧ Res (SV x * (2 ^ 1074 : Nat)) (V (rung y)) w := by
  obtain ⟨r, h1, h2⟩ := div_spec x y hx hy h0
  have hp : 0 < 2 ^ 1074 := Nat.two_pow_pos 1074
  refine ⟨_, h1, _, _, rfl, by rw [Int.natAbs_mul, SV_natAbs, Int.natAbs_natCast]; exact h2, ?_, ?_⟩
  · generalize 2 ^ 1074 = P at *
    intro h; rw [hs, Bool.xor_false, ← sgn_lt (fun c => by rw [c, Int.zero_mul] at h; omega), decide_eq_true_eq]
    apply Decidable.byContradiction; intro c
    have := Int.mul_nonneg (a := SV x) (b := P) (by omega) (by omega); omega
  · generalize 2 ^ 1074 = P at *
    intro h; rw [hs, Bool.xor_false, ← sgn_lt (fun c => by rw [c, Int.zero_mul] at h; omega), decide_eq_false_iff_not]
    intro c
    have := Int.mul_nonneg (a := -SV x) (b := P) (by omega) (by omega)
    rw [Int.neg_mul] at this; omega

end Hf
