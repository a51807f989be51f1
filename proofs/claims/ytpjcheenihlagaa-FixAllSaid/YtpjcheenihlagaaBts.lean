/- Patterns, their signs and rungs by bits; the order of words by rungs (plain arithmetic). No conditions beyond those in each lemma. -/
import Derived.Test.YtpjcheenihlagaaConA
import Derived.Test.YtpjcheenihlagaaRfa
import Derived.Laws.BitsAllLaws
import Derived.Laws.Bits64
import Derived.Laws.BitsLemmas
namespace Go.Proofs.Ytpjcheenihlagaa.Fl
open Go.RowKit
open Go.Proofs.Ytpjcheenihlagaa.PFixAll Go.Proofs.YtpjcheenihlagaaW.PrintWords Go.Proofs.YtpjcheenihlagaaW.PrintLast Go.Proofs.YtpjcheenihlagaaW.PrintMore

theorem parts_sgn (s : Bool) (r : Nat) : (partsOf s r).1 = s := by
  unfold partsOf; repeat' split
  all_goals rfl

theorem ofInt_u (x : Int) : (BitVec.ofInt 64 x).toNat = u x := by
  rw [BitVec.toNat_ofInt]
  have := u_eq x
  show (x % 18446744073709551616).toNat = u x
  omega

theorem and_low (b : Int) : Go.bits .and .i64 b 9223372036854775807 = (Hf.rung (u b) : Int) := by
  simp only [Go.bits, BitVec.toNat_and]
  show IntKind.i64.wrap (((BitVec.ofInt 64 b).toNat &&& (BitVec.ofInt 64 9223372036854775807).toNat : Nat) : Int) = _
  rw [ofInt_u, ofInt_u]
  have e : u 9223372036854775807 = 2 ^ 63 - 1 := by decide
  rw [e, Nat.and_two_pow_sub_one_eq_mod, IntKind.wrap_i64]
  have h : u b % 2 ^ 63 = Hf.rung (u b) := rfl
  have := Hf.rung_lt (u b)
  rw [h]; omega

theorem or_nat (a b : Int) : Go.bits .or .i64 a b = IntKind.i64.wrap ((u a ||| u b : Nat) : Int) := by
  simp only [Go.bits, BitVec.toNat_or]
  show IntKind.i64.wrap (((BitVec.ofInt 64 a).toNat ||| (BitVec.ofInt 64 b).toNat : Nat) : Int) = _
  rw [ofInt_u, ofInt_u]

theorem or_zero_iff (x y : Nat) : (x ||| y = 0) ↔ x = 0 ∧ y = 0 := by
  constructor
  · intro h
    have h1 := Nat.left_le_or (n := x) (m := y)
    have h2 := Nat.right_le_or (n := x) (m := y)
    omega
  · rintro ⟨rfl, rfl⟩; rfl

theorem both_zero (a b : Int) : (Go.bits .and .i64 (Go.bits .or .i64 a b) 9223372036854775807 == 0) = decide (Hf.rung (u a) = 0 ∧ Hf.rung (u b) = 0) := by
  rw [and_low, or_nat]
  have ha := u_lt a
  have hb := u_lt b
  have hlt : u a ||| u b < 2 ^ 64 := Nat.or_lt_two_pow ha hb
  have e : u (IntKind.i64.wrap ((u a ||| u b : Nat) : Int)) = u a ||| u b := by
    have := u_eq (IntKind.i64.wrap ((u a ||| u b : Nat) : Int))
    rw [IntKind.wrap_i64] at *
    omega
  rw [e]
  have hr : Hf.rung (u a ||| u b) = Hf.rung (u a) ||| Hf.rung (u b) := by
    show (u a ||| u b) % 2 ^ 63 = (u a % 2 ^ 63) ||| (u b % 2 ^ 63)
    exact Nat.or_mod_two_pow
  rw [hr, Bool.eq_iff_iff, beq_iff_eq, decide_eq_true_eq, ← or_zero_iff]
  omega

theorem xor_sign {b : Int} (hb : Fits b) : Go.bits .xor .i64 b (-9223372036854775808) = pat (!(Hf.sgn (u b))) (Hf.rung (u b)) := by
  have h1 := rung_u hb
  have h2 := Hf.rung_lt (u b)
  simp only [Go.bits, BitVec.toNat_xor]
  show IntKind.i64.wrap (((BitVec.ofInt 64 b).toNat ^^^ (BitVec.ofInt 64 (-9223372036854775808)).toNat : Nat) : Int) = _
  rw [ofInt_u, ofInt_u, show u (-9223372036854775808) = 2 ^ 63 by decide, sgn_u hb]
  have key : ∀ r : Nat, r < 2 ^ 63 → r ^^^ 2 ^ 63 = 2 ^ 63 + r := by
    intro r hr
    have h3 : 2 ^ 63 * 1 ||| r = 2 ^ 63 * 1 ^^^ r := by
      apply Nat.eq_of_testBit_eq
      intro i
      rw [Nat.testBit_or, Nat.testBit_xor, Nat.mul_one, Nat.testBit_two_pow]
      by_cases c : 63 = i
      · subst c
        rw [Nat.testBit_lt_two_pow hr]; rfl
      · simp [c]
    have h4 := Nat.two_pow_add_eq_or_of_lt (i := 63) (b := r) hr 1
    rw [Nat.mul_one] at h3 h4
    rw [Nat.xor_comm, ← h3, ← h4]
  have hu := u_eq b
  unfold Fits at hb
  by_cases c : b < 0
  · rw [if_pos c] at h1
    have e1 : u b = 2 ^ 63 + Hf.rung (u b) := by omega
    have e2 : u b ^^^ 2 ^ 63 = Hf.rung (u b) := by
      have e3 : u b = Hf.rung (u b) ^^^ 2 ^ 63 := by rw [key _ h2]; exact e1
      have e4 : u b ^^^ 2 ^ 63 = (Hf.rung (u b) ^^^ 2 ^ 63) ^^^ 2 ^ 63 := by rw [← e3]
      rw [e4, Nat.xor_assoc, Nat.xor_self, Nat.xor_zero]
    rw [e2, decide_eq_true c, IntKind.wrap_i64]
    unfold pat; simp only [Bool.not_true, Bool.false_eq_true, if_false]; omega
  · rw [if_neg c] at h1
    have e1 : u b = Hf.rung (u b) := by omega
    have e2 : u b ^^^ 2 ^ 63 = 2 ^ 63 + Hf.rung (u b) := by
      have := key (Hf.rung (u b)) h2
      rw [← e1] at this; rw [this, ← e1]
    rw [e2, decide_eq_false c, IntKind.wrap_i64]
    unfold pat; simp only [Bool.not_false, if_true]; omega

/-- A word's rung, with its sign. -/
def sr (x : Nat) : Int := if Hf.sgn x then -(Hf.rung x : Int) else (Hf.rung x : Int)

theorem SV_lt_iff (x y : Nat) : Hf.SV x < Hf.SV y ↔ sr x < sr y := by
  have h1 := Hf.V_lt_iff (a := Hf.rung x) (b := Hf.rung y)
  have h2 := Hf.V_lt_iff (a := Hf.rung y) (b := Hf.rung x)
  have h3 := Hf.V_lt_iff (a := 0) (b := Hf.rung x)
  have h4 := Hf.V_lt_iff (a := 0) (b := Hf.rung y)
  rw [Hf.V_zero] at h3 h4
  unfold Hf.SV sr
  cases Hf.sgn x <;> cases Hf.sgn y <;> simp only [Bool.false_eq_true, if_false, if_true] <;> omega
theorem SV_eq_iff (x y : Nat) : Hf.SV x = Hf.SV y ↔ sr x = sr y := by
  have h1 := SV_lt_iff x y
  have h2 := SV_lt_iff y x
  omega
theorem less_sr (x y : Nat) : Hf.less x y = decide (Hf.rung x ≤ Hf.INF ∧ Hf.rung y ≤ Hf.INF ∧ sr x < sr y) := by
  unfold Hf.less
  have := SV_lt_iff x y
  rw [Bool.eq_iff_iff, decide_eq_true_eq, decide_eq_true_eq]; omega
/-- Equal patterns have equal signs and rungs, and the other way round. -/
theorem pat_eq_iff {a b : Int} (ha : Fits a) (hb : Fits b) : a = b ↔ Hf.sgn (u a) = Hf.sgn (u b) ∧ Hf.rung (u a) = Hf.rung (u b) := by
  constructor
  · rintro rfl; exact ⟨rfl, rfl⟩
  · rintro ⟨h1, h2⟩; rw [← pat_self ha, ← pat_self hb, h1, h2]
theorem sr_eq_iff {a b : Int} (ha : Fits a) (hb : Fits b) : sr (u a) = sr (u b) ↔ a = b ∨ (Hf.rung (u a) = 0 ∧ Hf.rung (u b) = 0) := by
  rw [pat_eq_iff ha hb]
  unfold sr
  cases Hf.sgn (u a) <;> cases Hf.sgn (u b) <;> simp <;> omega
theorem sr_u {b : Int} (hb : Fits b) : sr (u b) = if b < 0 then -(b + 9223372036854775808) else b := by
  have := rung_u hb
  unfold sr
  rw [sgn_u hb]
  by_cases c : b < 0
  · rw [if_pos c] at this; rw [decide_eq_true c, if_pos rfl, if_pos c, this]
  · rw [if_neg c] at this; rw [decide_eq_false c, if_neg (by decide), if_neg c, this]

end Go.Proofs.Ytpjcheenihlagaa.Fl
