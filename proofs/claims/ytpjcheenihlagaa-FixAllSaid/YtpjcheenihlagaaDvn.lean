/- The reference's Quot and Rem: bit by bit they come to the quotient and the rest (plain arithmetic). No conditions beyond those in each lemma. -/
import Derived.Test.YtpjcheenihlagaaWhl
import Derived.Test.YtpjcheenihlagaaRfa
namespace Go.Proofs.Ytpjcheenihlagaa.Fl
open Go.RowKit
open Go.Proofs.Ytpjcheenihlagaa.PFixAll Go.Proofs.YtpjcheenihlagaaW.PrintWords Go.Proofs.YtpjcheenihlagaaW.PrintLast Go.Proofs.YtpjcheenihlagaaW.PrintMore

/-- Rounds that are enough for i bits. -/
def fuelD : Nat → Nat
  | 0 => 1
  | i + 1 => fuelD i + 1 + i + 1

theorem two_le {c : Nat} (h : c ≤ 59) : 2 ^ c ≤ 576460752303423488 := by
  rw [show (576460752303423488 : Nat) = 2 ^ 59 by decide]; exact Nat.pow_le_pow_right (by decide) h

theorem l1_run (i : Nat) (hi : i ≤ 60) (k : Nat) (x0 x1 x6 x7 : Int) : ∀ n c : Nat, c + n = i →
    hearthref1_divided.l1 (k + 1 + n) x0 x1 x6 x7 (i : Int) ((2 ^ c : Nat) : Int) (c : Int) = hearthref1_divided.l1 (k + 1) x0 x1 x6 x7 (i : Int) ((2 ^ i : Nat) : Int) (i : Int)
  | 0, c, h => by
    obtain rfl : c = i := by omega
    rfl
  | n + 1, c, h => by
    have hP := two_le (c := c) (by omega)
    have ih := l1_run i hi k x0 x1 x6 x7 n (c + 1) (by omega)
    rw [show k + 1 + (n + 1) = (k + 1 + n) + 1 by omega, hearthref1_divided.l1.eq_2, if_pos (by omega)]
    have e1 : wrap64 (((2 ^ c : Nat) : Int) + ((2 ^ c : Nat) : Int)) = ((2 ^ (c + 1) : Nat) : Int) := by
      rw [Nat.pow_succ]
      generalize 2 ^ c = P at *
      clear ih
      rw [wrap_id (by unfold Fits; omega)]; omega
    have e2 : wrap64 ((c : Int) + 1) = ((c + 1 : Nat) : Int) := by
      clear ih hP e1
      rw [wrap_id (by unfold Fits; omega)]; omega
    rw [e1, e2]; exact ih

theorem half_step (N b : Nat) (hb : 0 < b) :
    (b ≤ 2 * (N / 2 % b) + N % 2 → N / b = 2 * (N / 2 / b) + 1 ∧ N % b = 2 * (N / 2 % b) + N % 2 - b) ∧
    (2 * (N / 2 % b) + N % 2 < b → N / b = 2 * (N / 2 / b) ∧ N % b = 2 * (N / 2 % b) + N % 2) := by
  have h1 : N / 2 % b < b := Nat.mod_lt _ hb
  have h2 := Nat.div_add_mod (N / 2) b
  have h3 : 2 * (N / 2) + N % 2 = N := Nat.div_add_mod N 2
  have h4 : N % 2 < 2 := Nat.mod_lt _ (by decide)
  generalize N / 2 / b = q at *
  generalize N / 2 % b = r at *
  generalize N / 2 = M at *
  generalize N % 2 = t at *
  constructor
  · intro h
    refine (Nat.div_mod_unique hb).2 ⟨?_, by omega⟩
    rw [Nat.mul_add, Nat.mul_left_comm]; omega
  · intro h
    refine (Nat.div_mod_unique hb).2 ⟨?_, h⟩
    rw [Nat.mul_left_comm]; omega

theorem l0_run (a b : Nat) (ha : a ≤ 1152921504606846976) (hb : 0 < b) (hb2 : b ≤ 1152921504606846976) : ∀ i : Nat, i ≤ 61 →
    hearthref1_divided.l0 (fuelD i) (a : Int) (b : Int) ((a / 2 ^ i / b : Nat) : Int) ((a / 2 ^ i % b : Nat) : Int) ((i : Int) - 1) = some (((a / b : Nat) : Int), ((a % b : Nat) : Int))
  | 0, _ => by
    show hearthref1_divided.l0 (0 + 1) _ _ _ _ _ = _
    rw [hearthref1_divided.l0.eq_2, if_neg (by omega), Nat.pow_zero, Nat.div_one]
  | i + 1, hi => by
    have ih := l0_run a b ha hb hb2 i (by omega)
    have hN : a / 2 ^ (i + 1) = a / 2 ^ i / 2 := by rw [Nat.pow_succ, Nat.div_div_eq_div_mul]
    have hNa : a / 2 ^ i ≤ a := Nat.div_le_self _ _
    have hP : 0 < 2 ^ i := Nat.two_pow_pos i
    have hl1 := l1_run i (by omega) (fuelD i) (a : Int) (b : Int) ((a / 2 ^ (i + 1) / b : Nat) : Int) ((a / 2 ^ (i + 1) % b : Nat) : Int) i 0 (by omega)
    rw [Nat.pow_zero] at hl1
    show hearthref1_divided.l0 (fuelD i + 1 + i + 1) _ _ _ _ _ = _
    rw [show (((i + 1 : Nat) : Int)) - 1 = (i : Int) by omega, hearthref1_divided.l0.eq_2, if_pos (by omega)]
    refine hl1.trans ?_
    rw [hearthref1_divided.l1.eq_2, if_neg (by omega), if_neg (by clear ih hl1 hN; generalize 2 ^ i = P at *; omega)]
    have e1 : wrap64 (Int.tdiv (a : Int) ((2 ^ i : Nat) : Int)) = ((a / 2 ^ i : Nat) : Int) := by
      rw [← Int.ofNat_tdiv, wrap_id]; unfold Fits; clear ih hl1 hN; generalize a / 2 ^ i = N at *; omega
    rw [e1, hN]
    obtain ⟨s1, s2⟩ := half_step (a / 2 ^ i) b hb
    have hr : a / 2 ^ i / 2 % b < b := Nat.mod_lt _ hb
    have hq : a / 2 ^ i / 2 / b ≤ a / 2 ^ i / 2 := Nat.div_le_self _ _
    have e2 : Int.tmod ((a / 2 ^ i : Nat) : Int) 2 = ((a / 2 ^ i % 2 : Nat) : Int) := Int.ofNat_tmod _ 2
    rw [e2]
    clear hl1 hN hP e1 e2
    generalize a / 2 ^ i / b = q' at *
    generalize a / 2 ^ i % b = r' at *
    generalize a / 2 ^ i = N at *
    have h4 : N % 2 < 2 := Nat.mod_lt _ (by decide)
    have hq2 : N / 2 / b ≤ 576460752303423488 := by omega
    generalize N / 2 / b = q at *
    generalize N / 2 % b = r at *
    generalize N % 2 = t at *
    have e3 : wrap64 (wrap64 ((r : Int) + (r : Int)) + (t : Int)) = ((2 * r + t : Nat) : Int) := by
      clear ih s1 s2
      rw [wrap_id (a := (r : Int) + r) (by unfold Fits; omega), wrap_id (by unfold Fits; omega)]; omega
    have e4 : wrap64 ((q : Int) + (q : Int)) = ((2 * q : Nat) : Int) := by
      clear ih s1 s2 e3
      rw [wrap_id (by unfold Fits; omega)]; omega
    have e5 : wrap64 ((i : Int) - 1) = (i : Int) - 1 := by
      clear ih s1 s2 e3 e4
      rw [wrap_id (by unfold Fits; omega)]
    rw [e3, e4, e5]
    by_cases c : b ≤ 2 * r + t
    · obtain ⟨t1, t2⟩ := s1 c
      have e6 : wrap64 (((2 * q : Nat) : Int) + 1) = (q' : Int) := by
        clear ih s1 s2 e3 e4 e5
        rw [wrap_id (by unfold Fits; omega)]; omega
      have e7 : wrap64 (((2 * r + t : Nat) : Int) - (b : Int)) = (r' : Int) := by
        clear ih s1 s2 e3 e4 e5 e6
        rw [wrap_id (by unfold Fits; omega)]; omega
      rw [if_pos (by omega), e6, e7]; exact ih
    · obtain ⟨t1, t2⟩ := s2 (by omega)
      rw [if_neg (by omega), ← t1, ← t2]; exact ih

theorem divided_f {a b : Nat} (ha : a ≤ 1152921504606846976) (hb : 0 < b) (hb2 : b ≤ 1152921504606846976) :
    hearthref1_divided.f (fuelD 61) (a : Int) (b : Int) = some (((a / b : Nat) : Int), ((a % b : Nat) : Int)) := by
  have h := l0_run a b ha hb hb2 61 (Nat.le_refl _)
  have hz : a / 2 ^ 61 = 0 := Nat.div_eq_of_lt (by rw [show (2 : Nat) ^ 61 = 2305843009213693952 by decide]; omega)
  rw [hz, Nat.zero_div, Nat.zero_mod] at h
  exact h

theorem rsize_f {c : Int} (h1 : -1152921504606846976 ≤ c) (_h2 : c ≤ 1152921504606846975) : hearthref1_size.f c = some (c.natAbs : Int) := by
  unfold hearthref1_size.f
  by_cases h : c < 0
  · rw [if_pos h, wrap_id (by unfold Fits; omega)]; congr 1; omega
  · rw [if_neg h]; congr 1; omega

theorem tdiv_abs (c d : Int) : Int.tdiv c d = if (decide (c < 0) != decide (d < 0)) = true then -((c.natAbs / d.natAbs : Nat) : Int) else ((c.natAbs / d.natAbs : Nat) : Int) := by
  rw [Int.ofNat_tdiv]
  by_cases hc : c < 0 <;> by_cases hd : d < 0
  · rw [decide_eq_true hc, decide_eq_true hd, if_neg (by decide)]
    rw [show ((c.natAbs : Nat) : Int) = -c by omega, show ((d.natAbs : Nat) : Int) = -d by omega, Int.neg_tdiv, Int.tdiv_neg, Int.neg_neg]
  · rw [decide_eq_true hc, decide_eq_false hd, if_pos (by decide)]
    rw [show ((c.natAbs : Nat) : Int) = -c by omega, show ((d.natAbs : Nat) : Int) = d by omega, Int.neg_tdiv, Int.neg_neg]
  · rw [decide_eq_false hc, decide_eq_true hd, if_pos (by decide)]
    rw [show ((c.natAbs : Nat) : Int) = c by omega, show ((d.natAbs : Nat) : Int) = -d by omega, Int.tdiv_neg, Int.neg_neg]
  · rw [decide_eq_false hc, decide_eq_false hd, if_neg (by decide)]
    rw [show ((c.natAbs : Nat) : Int) = c by omega, show ((d.natAbs : Nat) : Int) = d by omega]

theorem tmod_abs (c d : Int) : Int.tmod c d = if c < 0 then -((c.natAbs % d.natAbs : Nat) : Int) else ((c.natAbs % d.natAbs : Nat) : Int) := by
  rw [Int.ofNat_tmod]
  by_cases hc : c < 0 <;> by_cases hd : d < 0
  · rw [if_pos hc, show ((c.natAbs : Nat) : Int) = -c by omega, show ((d.natAbs : Nat) : Int) = -d by omega, Int.neg_tmod, Int.tmod_neg, Int.neg_neg]
  · rw [if_pos hc, show ((c.natAbs : Nat) : Int) = -c by omega, show ((d.natAbs : Nat) : Int) = d by omega, Int.neg_tmod, Int.neg_neg]
  · rw [if_neg hc, show ((c.natAbs : Nat) : Int) = c by omega, show ((d.natAbs : Nat) : Int) = -d by omega, Int.tmod_neg]
  · rw [if_neg hc, show ((c.natAbs : Nat) : Int) = c by omega, show ((d.natAbs : Nat) : Int) = d by omega]

/-- The reference's quotient. -/
theorem rQuot_f {a b : Int} (ha : Fits a) (hb : Fits b) : hearthref1_Quot.f (fuelD 61) a b = some (if wrap61 b = 0 then 0 else wrap61 (Int.tdiv (wrap61 a) (wrap61 b))) := by
  unfold hearthref1_Quot.f
  rw [rWrap_f ha, Option.bind_some, rWrap_f hb, Option.bind_some]
  have ba := wrap61_bd a
  have bb := wrap61_bd b
  generalize wrap61 a = c at *
  generalize wrap61 b = d at *
  by_cases hd : d = 0
  · rw [if_pos hd, if_pos hd]
  · rw [if_neg hd, if_neg hd, rsize_f ba.1 ba.2, Option.bind_some, rsize_f bb.1 bb.2, Option.bind_some]
    rw [divided_f (by omega) (by omega) (by omega), Option.bind_some, tdiv_abs c d]
    have hq : c.natAbs / d.natAbs ≤ c.natAbs := Nat.div_le_self _ _
    generalize c.natAbs / d.natAbs = q at *
    have hw : wrap64 (-(q : Int)) = -(q : Int) := wrap_id (by unfold Fits; omega)
    by_cases hs : (decide (c < 0) != decide (d < 0)) = true
    · rw [if_pos hs, if_pos hs]
      show (hearthref1_Wrap.f (wrap64 (-(q : Int)))).bind _ = _
      rw [hw, rWrap_f (by unfold Fits; omega), Option.bind_some]
    · rw [if_neg hs, if_neg hs]
      show (hearthref1_Wrap.f (q : Int)).bind _ = _
      rw [rWrap_f (by unfold Fits; omega), Option.bind_some]

/-- The reference's rest. -/
theorem rRem_f {a b : Int} (ha : Fits a) (hb : Fits b) : hearthref1_Rem.f (fuelD 61) a b = some (if wrap61 b = 0 then 0 else Int.tmod (wrap61 a) (wrap61 b)) := by
  unfold hearthref1_Rem.f
  rw [rWrap_f ha, Option.bind_some, rWrap_f hb, Option.bind_some]
  have ba := wrap61_bd a
  have bb := wrap61_bd b
  generalize wrap61 a = c at *
  generalize wrap61 b = d at *
  by_cases hd : d = 0
  · rw [if_pos hd, if_pos hd]
  · rw [if_neg hd, if_neg hd, rsize_f ba.1 ba.2, Option.bind_some, rsize_f bb.1 bb.2, Option.bind_some]
    rw [divided_f (by omega) (by omega) (by omega), Option.bind_some, tmod_abs c d]
    have hq : c.natAbs % d.natAbs < d.natAbs := Nat.mod_lt _ (by omega)
    generalize c.natAbs % d.natAbs = q at *
    by_cases hs : c < 0
    · rw [if_pos hs, if_pos hs]
      show some (wrap64 (-(q : Int))) = _
      rw [wrap_id (by unfold Fits; omega)]
    · rw [if_neg hs, if_neg hs]

theorem refquot_calls {a b : Int} (ha : Fits a) (hb : Fits b) (w : World) :
    Calls Try.prog 65 #[.int .i64 a, .int .i64 b] w fun e w' => e = .returned (.int .i64 (if wrap61 b = 0 then 0 else wrap61 (Int.tdiv (wrap61 a) (wrap61 b)))) ∧ Drawn0 w w' :=
  hearthref1_Quot.calls (fuelD 61) a b _ w (rQuot_f ha hb)
theorem refrem_calls {a b : Int} (ha : Fits a) (hb : Fits b) (w : World) :
    Calls Try.prog 66 #[.int .i64 a, .int .i64 b] w fun e w' => e = .returned (.int .i64 (if wrap61 b = 0 then 0 else Int.tmod (wrap61 a) (wrap61 b))) ∧ Drawn0 w w' :=
  hearthref1_Rem.calls (fuelD 61) a b _ w (rRem_f ha hb)

end Go.Proofs.Ytpjcheenihlagaa.Fl
