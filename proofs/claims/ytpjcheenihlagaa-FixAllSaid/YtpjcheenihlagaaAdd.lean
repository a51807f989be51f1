/- What the reference's FloAdd and FloSub come to: the sum, the difference of the two words. No conditions beyond those in each lemma. -/
import Derived.Test.YtpjcheenihlagaaSum
namespace Go.Proofs.Ytpjcheenihlagaa.Fl
open Go.RowKit Hf Ieee
open Go.Proofs.Ytpjcheenihlagaa.PFixAll Go.Proofs.YtpjcheenihlagaaW.PrintWords Go.Proofs.YtpjcheenihlagaaW.PrintLast Go.Proofs.YtpjcheenihlagaaW.PrintMore

theorem mn_int (a b : Int) : mn a b = min a b := by unfold mn; split <;> omega

theorem SV_pos {b : Nat} (h : sgn b = false) : SV b = (V (rung b) : Int) := by unfold SV; rw [h]; rfl
theorem SV_neg {b : Nat} (h : sgn b = true) : SV b = -(V (rung b) : Int) := by unfold SV; rw [h]; rfl

theorem refadd_f (k : Nat) (hk : 200000 ≤ k) {a b : Int} (ha : Fits a) (hb : Fits b) :
    hearthref1_FloAdd.f k a b = some (out (double.add (u a) (u b))) := by
  have pa := parts_f k (by omega) ha
  have pb := parts_f k (by omega) hb
  have ea : pat (sgn (u a)) (rung (u a)) = a := pat_self ha
  have eb : pat (sgn (u b)) (rung (u b)) = b := pat_self hb
  obtain ⟨k, rfl⟩ : ∃ m, k = m + 1 := ⟨k - 1, by omega⟩
  unfold hearthref1_FloAdd.f
  rw [pa, pb]; simp only [Option.bind_some]
  by_cases na : INF < rung (u a)
  · rw [parts_nan na]
    simp only [if_true, hearthref1_FloAdd.j0]
    rw [add_nan _ _ (.inl na)]; rfl
  by_cases nb : INF < rung (u b)
  · rw [parts_none, parts_nan nb, decide_eq_false na]
    simp only [if_true, Bool.false_eq_true, if_false, hearthref1_FloAdd.j0]
    rw [add_nan _ _ (.inr nb)]; rfl
  by_cases ia : rung (u a) = INF
  · rw [parts_inf ia]
    simp only [if_true, Bool.false_eq_true, if_false, hearthref1_FloAdd.j0]
    by_cases ib : rung (u b) = INF
    · rw [parts_inf ib, add_inf_inf _ _ ia ib]
      simp only [if_true, Bool.false_eq_true, if_false]
      by_cases c : sgn (u a) = sgn (u b)
      · rw [c, bne_self_eq_false, if_pos rfl, ← c, out_word (by rw [← ia]; exact rung_lt _), ← ia, ea]
        rfl
      · rw [if_neg c, if_pos (by simpa using c)]; rfl
    · obtain ⟨n, f, hn, _⟩ := parts_fin (sgn (u b)) (r := rung (u b)) (by omega)
      rw [hn, add_inf_fin _ _ ia (by omega)]
      simp only [Bool.false_eq_true, if_false]
      rw [out_word (by rw [← ia]; exact rung_lt _), ← ia, ea]
  obtain ⟨m, e, hm, hV, hm53, he, hm0⟩ := parts_fin (sgn (u a)) (r := rung (u a)) (by omega)
  rw [hm]; simp only [Bool.false_eq_true, if_false]
  by_cases ib : rung (u b) = INF
  · rw [parts_inf ib, add_fin_inf _ _ (by omega) ib]
    simp only [hearthref1_FloAdd.j0, if_true, Bool.false_eq_true, if_false]
    rw [out_word (by rw [← ib]; exact rung_lt _), ← ib, eb]
  obtain ⟨n, f, hn, hW, hn53, hf, hn0⟩ := parts_fin (sgn (u b)) (r := rung (u b)) (by omega)
  rw [hn]; simp only [Bool.false_eq_true, if_false, hearthref1_FloAdd.j0]
  obtain ⟨E, hE⟩ : ∃ E : Nat, E = min e f := ⟨_, rfl⟩
  have hmn : mn ((e : Int) - 1074) ((f : Int) - 1074) = (E : Int) - 1074 := by rw [mn_int]; omega
  have w1 : wrap64 ((e : Int) - 1074 - ((E : Int) - 1074)) = ((e - E : Nat) : Int) := by rw [wrap_id (by unfold Fits; omega)]; omega
  have w2 : wrap64 ((f : Int) - 1074 - ((E : Int) - 1074)) = ((f - E : Nat) : Int) := by rw [wrap_id (by unfold Fits; omega)]; omega
  rw [hmn, w1, w2]
  obtain ⟨p, p1, p2, p3, p4⟩ := list_f k (by omega) m (by omega) (e - E) (by omega)
  obtain ⟨q, q1, q2, q3, q4⟩ := list_f k (by omega) n (by omega) (f - E) (by omega)
  rw [p1, q1]; simp only [Option.bind_some]
  have hp : val p * 2 ^ E = V (rung (u a)) := by rw [p3, Nat.mul_assoc, ← Nat.pow_add, ← hV]; congr 2; omega
  have hq : val q * 2 ^ E = V (rung (u b)) := by rw [q3, Nat.mul_assoc, ← Nat.pow_add, ← hW]; congr 2; omega
  obtain ⟨r, hr, hN⟩ := add_spec (u a) (u b) (by omega) (by omega)
  have hlt := near_le hN
  rw [hr, out_word hlt]
  clear hr hmn w1 w2 hm hn hm0 hn0 pa pb hV hW
  -- the words alike in sign
  by_cases c : sgn (u a) = sgn (u b)
  · rw [← c, beq_self_eq_true, if_pos rfl]
    obtain ⟨l, l1, l2, l3, l4⟩ := summed_f p2 q2 false (by omega) (by omega) (fun h => by cases h) k (by omega)
    obtain ⟨r', r1, r2⟩ := rounded_at l2 (by omega) (sgn (u a)) E ((E : Int) - 1074) rfl (by omega) k (by omega)
    rw [l1]; simp only [Option.bind_some]; rw [r1]; simp only [Option.bind_some]
    have hval : val l * 2 ^ E = V (rung (u a)) + V (rung (u b)) := by
      rw [← hp, ← hq, ← Nat.add_mul]; congr 1
      unfold sg at l4; simp only [Bool.false_eq_true, if_false] at l4; omega
    rw [hval] at r2
    have key : (SV (u a) + SV (u b)).natAbs = V (rung (u a)) + V (rung (u b)) ∧ (if SV (u a) + SV (u b) = 0 then (sgn (u a) && sgn (u a)) else decide (SV (u a) + SV (u b) < 0)) = sgn (u a) := by
      cases hs : sgn (u a) with
      | true =>
        rw [SV_neg hs, SV_neg (by rw [← c]; exact hs)]
        refine ⟨by omega, ?_⟩
        split
        · rfl
        · rw [decide_eq_true_eq]; omega
      | false =>
        rw [SV_pos hs, SV_pos (by rw [← c]; exact hs)]
        refine ⟨by omega, ?_⟩
        split
        · rfl
        · rw [decide_eq_false_iff_not]; omega
    rw [key.1] at hN
    rw [key.2, Near.unique (by omega) (by omega) r2 hN rfl]
  · rw [if_neg (by simpa using c)]
    obtain ⟨z, z1, z2, z3⟩ := compared_f p2 q2 (by omega) (by omega) k (by omega)
    rw [z1]; simp only [Option.bind_some]
    have two : 0 < 2 ^ E := Nat.two_pow_pos E
    have hand : (sgn (u a) && sgn (u b)) = false := by
      cases hs : sgn (u a) <;> cases ht : sgn (u b) <;> first | rfl | exact absurd (hs.trans ht.symm) c
    -- the sum of the two, of other signs
    have hsum : SV (u a) + SV (u b) = if sgn (u a) then (V (rung (u b)) : Int) - V (rung (u a)) else (V (rung (u a)) : Int) - V (rung (u b)) := by
      cases hs : sgn (u a) with
      | true =>
        have ht : sgn (u b) = false := by cases ht : sgn (u b) with | true => exact absurd (hs.trans ht.symm) c | false => rfl
        rw [SV_neg hs, SV_pos ht]; simp only [if_true]; omega
      | false =>
        have ht : sgn (u b) = true := by cases ht : sgn (u b) with | false => exact absurd (hs.trans ht.symm) c | true => rfl
        rw [SV_pos hs, SV_neg ht]; simp only [Bool.false_eq_true, if_false]; omega
    rw [hand]
    by_cases c0 : z = 0
    · rw [if_pos c0]
      have hz : V (rung (u a)) = V (rung (u b)) := by rw [← hp, ← hq, z2.1 c0]
      have h0 : SV (u a) + SV (u b) = 0 := by rw [hsum]; split <;> omega
      rw [if_pos h0]
      rw [h0] at hN
      rw [← Near.unique (by omega) (by omega) (near_zero 1 (by omega)) hN rfl]; rfl
    · rw [if_neg c0]
      by_cases c1 : z > 0
      · rw [if_pos c1]
        obtain ⟨l, l1, l2, l3, l4⟩ := summed_f p2 q2 true (by omega) (by omega) (fun _ => by have := z3.1 c1; omega) k (by omega)
        obtain ⟨r', r1, r2⟩ := rounded_at l2 (by omega) (sgn (u a)) E ((E : Int) - 1074) rfl (by omega) k (by omega)
        rw [l1]; simp only [Option.bind_some]; rw [r1]; simp only [Option.bind_some]
        have hgt : V (rung (u b)) < V (rung (u a)) := by rw [← hp, ← hq]; exact Nat.mul_lt_mul_of_pos_right (z3.1 c1) two
        have hval : val l * 2 ^ E = V (rung (u a)) - V (rung (u b)) := by
          rw [← hp, ← hq, ← Nat.sub_mul]; congr 1
          unfold sg at l4; simp only [if_true] at l4; omega
        rw [hval] at r2
        have key : (SV (u a) + SV (u b)).natAbs = V (rung (u a)) - V (rung (u b)) ∧ (if SV (u a) + SV (u b) = 0 then false else decide (SV (u a) + SV (u b) < 0)) = sgn (u a) := by
          rw [hsum]
          cases hs : sgn (u a) with
          | true => simp only [if_true]; rw [if_neg (by omega), decide_eq_true_eq]; omega
          | false => simp only [Bool.false_eq_true, if_false]; rw [if_neg (by omega), decide_eq_false_iff_not]; omega
        rw [key.1] at hN
        rw [key.2, Near.unique (by omega) (by omega) r2 hN rfl]
      · rw [if_neg c1]
        have hlt' : val p < val q := by
          rcases Nat.lt_trichotomy (val p) (val q) with h | h | h
          · exact h
          · exact absurd (z2.2 h) c0
          · exact absurd (z3.2 h) c1
        obtain ⟨l, l1, l2, l3, l4⟩ := summed_f q2 p2 true (by omega) (by omega) (fun _ => by omega) k (by omega)
        obtain ⟨r', r1, r2⟩ := rounded_at l2 (by omega) (sgn (u b)) E ((E : Int) - 1074) rfl (by omega) k (by omega)
        rw [l1]; simp only [Option.bind_some]; rw [r1]; simp only [Option.bind_some]
        have hgt : V (rung (u a)) < V (rung (u b)) := by rw [← hp, ← hq]; exact Nat.mul_lt_mul_of_pos_right hlt' two
        have hval : val l * 2 ^ E = V (rung (u b)) - V (rung (u a)) := by
          rw [← hp, ← hq, ← Nat.sub_mul]; congr 1
          unfold sg at l4; simp only [if_true] at l4; omega
        rw [hval] at r2
        have key : (SV (u a) + SV (u b)).natAbs = V (rung (u b)) - V (rung (u a)) ∧ (if SV (u a) + SV (u b) = 0 then false else decide (SV (u a) + SV (u b) < 0)) = sgn (u b) := by
          rw [hsum]
          cases hs : sgn (u a) with
          | true =>
            have ht : sgn (u b) = false := by cases ht : sgn (u b) with | true => exact absurd (hs.trans ht.symm) c | false => rfl
            rw [ht]; simp only [if_true]; rw [if_neg (by omega), decide_eq_false_iff_not]; omega
          | false =>
            have ht : sgn (u b) = true := by cases ht : sgn (u b) with | false => exact absurd (hs.trans ht.symm) c | true => rfl
            rw [ht]; simp only [Bool.false_eq_true, if_false]; rw [if_neg (by omega), decide_eq_true_eq]; omega
        rw [key.1] at hN
        rw [key.2, Near.unique (by omega) (by omega) r2 hN rfl]

theorem refsub_f (k : Nat) (hk : 200000 ≤ k) {a b : Int} (ha : Fits a) (hb : Fits b) :
    hearthref1_FloSub.f k a b = some (out (double.sub (u a) (u b))) := by
  have pb := parts_f k (by omega) hb
  unfold hearthref1_FloSub.f
  rw [pb]; simp only [Option.bind_some]
  rw [parts_none, sub_flip]
  by_cases nb : INF < rung (u b)
  · rw [decide_eq_true nb, if_pos rfl, add_nan _ _ (.inr (by rw [rung_flip]; exact nb))]; rfl
  · rw [decide_eq_false nb, if_neg (by decide)]
    have hw : Fits (wrap64 (b + -9223372036854775808)) := by unfold Fits wrap64; omega
    have hu : u (wrap64 (b + -9223372036854775808)) = Hf.flip (u b) := by
      unfold Hf.flip
      rw [← u_pat _ (rung_lt _)]
      congr 1
      have h1 := rung_u hb
      have h2 := sgn_u hb
      rw [h2]
      unfold pat Fits at *
      by_cases c : b < 0
      · rw [if_pos c] at h1; rw [decide_eq_true c]; simp only [Bool.not_true, Bool.false_eq_true, if_false]; unfold wrap64; omega
      · rw [if_neg c] at h1; rw [decide_eq_false c]; simp only [Bool.not_false, if_true]; unfold wrap64; omega
    rw [refadd_f k hk ha hw, hu]; rfl

end Go.Proofs.Ytpjcheenihlagaa.Fl
