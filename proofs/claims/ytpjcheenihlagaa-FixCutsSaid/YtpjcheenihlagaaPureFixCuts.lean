/- Proves: the plain law of FixCuts: for every input, what ToFix cuts is no further from 0 than the float and less than 1 away from it, and a float that has no fixnum is none or beyond all of them. No condition beyond the statement's own. -/
import Derived.Test.YtpjcheenihlagaaQ8x1
import Derived.Test.YtpjcheenihlagaaNrw
namespace Go.Proofs.Ytpjcheenihlagaa.Pure
open Go.RowKit Ieee Go.Proofs.Ytpjcheenihlagaa Go.Proofs.Ytpjcheenihlagaa.PFixAll Go.Proofs.Ytpjcheenihlagaa.Q8 Go.Proofs.YtpjcheenihlagaaW.PrintWords Go.Proofs.YtpjcheenihlagaaW.PrintLast Go.Proofs.YtpjcheenihlagaaW.PrintMore

set_option exponentiation.threshold 2000

theorem number8_f (b : Int) : hearthlaw1_number.f b = some (decide (Hf.rung (Fl.u b) ≤ Hf.INF)) := by
  have hI : Hf.INF = 9218868437227405312 := rfl
  unfold hearthlaw1_number.f
  rw [Fl.and_low]
  exact congrArg some (by rw [Bool.eq_iff_iff, decide_eq_true_eq, decide_eq_true_eq, hI]; exact Int.ofNat_le (m := Hf.rung (Fl.u b)) (n := 9218868437227405312))

theorem SV_rung (x : Nat) : Hf.SV (Hf.rung x) = (Hf.V (Hf.rung x) : Int) := by
  unfold Hf.SV; rw [Fl.sgn_rung, Fl.rung_rung]; rfl

theorem between {M Q W Z : Nat} {S : Int} (l1 : M ≤ Z) (l2 : Q ≤ Z) (g1 : S < (M : Int)) (g2 : -(Q : Int) < S) (hS : S.natAbs = W) : W < Z := by omega

/-- A float that has no fixnum does not lie between the floats of the greatest and of the least. -/
theorem beyond {x : Nat} (h : ¬ (Fl.inside x = true ∧ -1152921504606846976 ≤ Hf.trunc x ∧ Hf.trunc x ≤ 1152921504606846975))
    (h1 : Hf.less x (Fl.u (wrap64 (Fl.floOf 1152921504606846975))) = true) (h2 : Hf.less (Fl.u (wrap64 (Fl.floOf (-1152921504606846976)))) x = true) : False := by
  have hP : 0 < 2 ^ 1074 := Nat.two_pow_pos 1074
  obtain ⟨r, _, n1, u1, b1⟩ := Fl.floOf_spec (n := 1152921504606846975) (by omega)
  obtain ⟨q, _, n2, u2, b2⟩ := Fl.floOf_spec (n := -1152921504606846976) (by omega)
  rw [u1] at h1
  rw [u2] at h2
  obtain ⟨m, m1, _⟩ := Fl.near_whole n1 (by decide)
  have m2 := Fl.near_max n1 (by decide) m1
  obtain ⟨p, p1, _⟩ := Fl.near_whole n2 (by decide)
  have p2 := Fl.near_max n2 (by decide) p1
  unfold Hf.less at h1 h2
  rw [decide_eq_true_eq] at h1 h2
  have e1 : Hf.SV (double.word (decide ((1152921504606846975 : Int) < 0)) r) = ((m * 2 ^ 1074 : Nat) : Int) := by
    unfold Hf.SV; rw [Hf.sgn_word _ _ b1, Hf.rung_word _ _ b1, m1, if_neg (by decide)]
  have e2 : Hf.SV (double.word (decide ((-1152921504606846976 : Int) < 0)) q) = -((p * 2 ^ 1074 : Nat) : Int) := by
    unfold Hf.SV; rw [Hf.sgn_word _ _ b2, Hf.rung_word _ _ b2, p1, if_pos (by decide)]
  have g1 := h1.2.2
  have g2 := h2.2.2
  rw [e1] at g1
  rw [e2] at g2
  clear h1 h2 e1 e2 n1 n2 u1 u2 b1 b2 m1 p1
  have l1 : m * 2 ^ 1074 ≤ 1152921504606846976 * 2 ^ 1074 := Nat.mul_le_mul_right _ m2
  have l2 : p * 2 ^ 1074 ≤ 1152921504606846976 * 2 ^ 1074 := Nat.mul_le_mul_right _ p2
  have hV : Hf.V (Hf.rung x) < 1152921504606846976 * 2 ^ 1074 := between l1 l2 g1 g2 (Hf.SV_natAbs x)
  apply h
  have hd : Hf.V (Hf.rung x) / 2 ^ 1074 < 1152921504606846976 := Nat.div_lt_of_lt_mul (by rw [Nat.mul_comm]; exact hV)
  refine ⟨?_, ?_⟩
  · rw [Fl.inside_iff, ← Hf.V_lt_iff, Fl.V_61]
    exact Nat.lt_of_lt_of_le hV (by decide +kernel)
  · unfold Hf.trunc
    generalize Hf.V (Hf.rung x) / 2 ^ 1074 = d at *
    clear h g1 g2 l1 l2 hV hP
    split <;> omega

/-- A float of 53 bits before the point is that of its whole part. -/
theorem long_own {b : Int} (hb : Fl.Fits b) (hn : -1152921504606846976 ≤ Hf.trunc (Fl.u b) ∧ Hf.trunc (Fl.u b) ≤ 1152921504606846975) (hi : Hf.rung (Fl.u b) ≤ Hf.INF)
    (h : Hf.trunc (Fl.u b) ≤ -4503599627370496 ∨ 4503599627370496 ≤ Hf.trunc (Fl.u b)) : wrap64 (Fl.floOf (Hf.trunc (Fl.u b))) = b := by
  have hP : 0 < 2 ^ 1074 := Nat.two_pow_pos 1074
  have big : 4503599627370496 * 2 ^ 1074 ≤ Hf.V (Hf.rung (Fl.u b)) := by
    rw [← Nat.le_div_iff_mul_le hP]
    unfold Hf.trunc at h
    clear hn hi
    generalize Hf.V (Hf.rung (Fl.u b)) / 2 ^ 1074 = d at *
    clear hP
    split at h <;> omega
  obtain ⟨m, hm⟩ := Hf.whole_of big
  have ht := Fl.trunc_whole hm
  obtain ⟨r, e, n1, _, b1⟩ := Fl.floOf_spec hn
  rw [e]
  have hm0 : 4503599627370496 ≤ m := Nat.le_of_mul_le_mul_right (by rw [← hm]; exact big) hP
  have habs : (Hf.trunc (Fl.u b)).natAbs = m := by
    rw [ht]; clear ht e n1 hm big hP hn hi h; split <;> omega
  rw [habs] at n1
  have hr := Hf.Near.own n1 hm hi
  have hs : decide (Hf.trunc (Fl.u b) < 0) = Hf.sgn (Fl.u b) := by
    rw [ht]
    clear ht e n1 hm big hP hn hi h habs
    cases Hf.sgn (Fl.u b) with
    | true => simp only [if_true]; rw [decide_eq_true_eq]; omega
    | false => simp only [Bool.false_eq_true, if_false]; rw [decide_eq_false_iff_not]; omega
  rw [hs, hr, Fl.pat_word (Hf.rung_lt _), Fl.pat_self hb]

/-- What is left beyond the whole part of a float of less than 53 bits before the point. -/
theorem short_rest {b : Int} (hin : Hf.rung (Fl.u b) < Hf.INF) (h : -4503599627370496 < Hf.trunc (Fl.u b) ∧ Hf.trunc (Fl.u b) < 4503599627370496) :
    Hf.less (Fl.u (Go.bits .and .i64 (Fl.out (double.sub (Fl.u b) (Fl.u (wrap64 (Fl.floOf (Hf.trunc (Fl.u b))))))) 9223372036854775807)) (Fl.u 4607182418800017408) = true ∧
    Hf.less (Fl.u (Go.bits .and .i64 b 9223372036854775807)) (Fl.u (Go.bits .and .i64 (wrap64 (Fl.floOf (Hf.trunc (Fl.u b)))) 9223372036854775807)) = false := by
  have hP : 0 < 2 ^ 1074 := Nat.two_pow_pos 1074
  have uone : Fl.u 4607182418800017408 = Hf.ONE := by decide
  generalize hx : Fl.u b = x at *
  obtain ⟨r, e, n1, u1, b1⟩ := Fl.floOf_spec (n := Hf.trunc x) (by clear hx uone hP hin; omega)
  have habs : (Hf.trunc x).natAbs = Hf.V (Hf.rung x) / 2 ^ 1074 := by
    unfold Hf.trunc; generalize Hf.V (Hf.rung x) / 2 ^ 1074 = d; split <;> omega
  have hsmall : Hf.V (Hf.rung x) / 2 ^ 1074 ≤ 9007199254740992 := by
    rw [← habs]; clear n1 u1 e hP hin habs hx uone; omega
  rw [habs] at n1
  obtain ⟨q, q1, q2⟩ := Hf.rung_int _ hsmall
  have hr := Hf.Near.own n1 q1 (Nat.le_of_lt q2)
  rw [← hr] at q1 q2
  have hle : Hf.V r ≤ Hf.V (Hf.rung x) := by rw [q1]; exact Nat.div_mul_le_self _ _
  have hmod : Hf.V (Hf.rung x) % 2 ^ 1074 = Hf.V (Hf.rung x) - Hf.V r := by
    rw [q1]
    have := Nat.div_add_mod (Hf.V (Hf.rung x)) (2 ^ 1074)
    rw [Nat.mul_comm] at this
    generalize Hf.V (Hf.rung x) / 2 ^ 1074 * 2 ^ 1074 = A at *
    generalize Hf.V (Hf.rung x) % 2 ^ 1074 = B at *
    clear n1 u1 e q1 hle
    omega
  constructor
  · rw [Fl.u_low, u1, Hf.sub_flip]
    have rf : Hf.rung (Hf.flip (double.word (decide (Hf.trunc x < 0)) r)) < Hf.INF := by rw [Hf.rung_flip, Hf.rung_word _ _ b1]; exact q2
    obtain ⟨z, z1, z2⟩ := Hf.add_spec x (Hf.flip (double.word (decide (Hf.trunc x < 0)) r)) hin rf
    have hN : (Hf.SV x + Hf.SV (Hf.flip (double.word (decide (Hf.trunc x < 0)) r))).natAbs = Hf.V (Hf.rung x) % 2 ^ 1074 := by
      rw [hmod, Hf.SV_flip]
      unfold Hf.SV
      rw [Hf.sgn_word _ _ b1, Hf.rung_word _ _ b1]
      by_cases c : Hf.V (Hf.rung x) / 2 ^ 1074 = 0
      · have hr0 : Hf.V r = 0 := by rw [q1, c, Nat.zero_mul]
        rw [hr0]
        generalize Hf.V (Hf.rung x) = W
        clear z1 z2 n1 u1 e q1 hle hmod
        cases Hf.sgn x <;> cases decide (Hf.trunc x < 0) <;> simp
      · have hs : decide (Hf.trunc x < 0) = Hf.sgn x := by
          unfold Hf.trunc
          generalize Hf.V (Hf.rung x) / 2 ^ 1074 = d at *
          clear z1 z2 n1 u1 e q1 hle hmod habs hsmall
          cases Hf.sgn x with
          | true => simp only [if_true]; rw [decide_eq_true_eq]; omega
          | false => simp only [Bool.false_eq_true, if_false]; rw [decide_eq_false_iff_not]; omega
        rw [hs]
        generalize Hf.V (Hf.rung x) = W at *
        generalize Hf.V r = R at *
        clear z1 z2 n1 u1 e q1 hmod habs hsmall c hs
        cases Hf.sgn x with
        | true => simp only [if_true]; omega
        | false => simp only [Bool.false_eq_true, if_false]; omega
    rw [hN] at z2
    obtain ⟨p, p1, p2⟩ := Hf.rest_rep (Hf.rung x)
    have hone : (4607182418800017408 : Nat) < Hf.INF := Hf.one_lt
    have hz := Hf.Near.own z2 p1 (Nat.le_of_lt (Nat.lt_trans p2 hone))
    have hzl := Hf.near_lt z2
    have hu : Hf.rung (Fl.u (Fl.out (double.add x (Hf.flip (double.word (decide (Hf.trunc x < 0)) r))))) = z := by
      rw [Fl.u_out_some (Fl.good_add _ _) z1, Hf.rung_word _ _ hzl]
    have key : Hf.SV (Hf.rung (Fl.u (Fl.out (double.add x (Hf.flip (double.word (decide (Hf.trunc x < 0)) r)))))) < Hf.SV Hf.ONE := by
      rw [SV_rung, hu]
      unfold Hf.SV; rw [Hf.sgn_one, Hf.rung_one]
      exact Int.ofNat_lt.2 (Hf.V_lt (by rw [hz]; exact p2))
    rw [uone]
    unfold Hf.less
    rw [decide_eq_true_eq]
    refine ⟨?_, ?_, key⟩
    · rw [Fl.rung_rung, hu]; exact z2.1
    · rw [Hf.rung_one]; exact Nat.le_of_lt Hf.one_lt
  · rw [Fl.u_low, Fl.u_low, hx, u1]
    unfold Hf.less
    rw [decide_eq_false_iff_not]
    intro hc
    have := hc.2.2
    rw [SV_rung, SV_rung, Hf.rung_word _ _ b1] at this
    exact absurd (Int.ofNat_lt.1 this) (Nat.not_lt.2 hle)

theorem FixCuts : hearthlaw1_FixCuts.Pure := by
  intro b h0
  have hb := Fl.fits_of_wf h0
  refine ⟨2, ?_⟩
  have hnum := number8_f b
  unfold hearthlaw1_FixCuts.f fix_ToFix.f
  rw [Option.bind_some, show hearthlaw1_alive.f = some true from rfl, Option.bind_some, if_pos rfl]
  by_cases c : Fl.inside (Fl.u b) = true ∧ -1152921504606846976 ≤ Hf.trunc (Fl.u b) ∧ Hf.trunc (Fl.u b) ≤ 1152921504606846975
  · have ht : Fl.toFix (Fl.u b) = (Hf.trunc (Fl.u b), true) := by unfold Fl.toFix; rw [if_pos c]
    have hlt := (Fl.inside_iff (Fl.u b)).1 c.1
    have hin : Hf.rung (Fl.u b) < Hf.INF := Nat.lt_trans hlt (by decide)
    have own := long_own hb c.2 (Nat.le_of_lt hin)
    have rest := short_rest (b := b) hin
    have cc := c.2
    rw [ht]
    clear hlt ht c
    rw [hnum, decide_eq_true (Nat.le_of_lt hin)]
    generalize Hf.trunc (Fl.u b) = n at *
    simp only [if_true]
    rw [if_neg (by clear own rest; omega), if_neg (by clear own rest; omega), Option.bind_some, Bool.not_true]
    simp only [hearthlaw1_FixCuts.j0, Bool.false_eq_true, if_false, fix_ToFlo.f]
    rw [Option.bind_some, Option.bind_some]
    by_cases c1 : wrap64 (Fl.floOf n) = b
    · rw [if_pos c1]
      simp only [hearthlaw1_FixCuts.j1, Bool.false_eq_true, if_false]
      rw [if_pos c1]
    · rw [if_neg c1]
      have hs : -4503599627370496 < n ∧ n < 4503599627370496 := by
        apply Decidable.byContradiction; intro hc
        exact c1 (own (by clear own rest; omega))
      rw [if_pos hs.1, decide_eq_true hs.2]
      obtain ⟨r1, r2⟩ := rest hs
      simp only [hearthlaw1_FixCuts.j1, if_true, fix_FloSub.f, fix_FloLess.f]
      rw [Option.bind_some, Option.bind_some, r1, if_pos rfl]
      by_cases c2 : n = 0
      · rw [if_pos c2]
      · rw [if_neg c2, Option.bind_some, r2]; rfl
  · have ht : Fl.toFix (Fl.u b) = (0, false) := by unfold Fl.toFix; rw [if_neg c]
    rw [ht, hnum]
    have bey := beyond c
    clear c ht
    generalize decide (Hf.rung (Fl.u b) ≤ Hf.INF) = A
    simp only [Bool.false_eq_true, if_false, if_true, fix_ToFlo.f, fix_FloLess.f]
    rw [Option.bind_some]
    cases A with
    | false => rw [if_neg (by decide)]
    | true =>
      rw [if_pos rfl, Option.bind_some, Option.bind_some, Option.bind_some, Option.bind_some]
      generalize Hf.less (Fl.u b) (Fl.u (wrap64 (Fl.floOf 1152921504606846975))) = P at *
      generalize Hf.less (Fl.u (wrap64 (Fl.floOf (-1152921504606846976)))) (Fl.u b) = Q at *
      cases P with
      | false => rw [if_neg (by decide)]
      | true =>
        cases Q with
        | false => rfl
        | true => exact absurd (bey rfl rfl) id

end Go.Proofs.Ytpjcheenihlagaa.Pure
