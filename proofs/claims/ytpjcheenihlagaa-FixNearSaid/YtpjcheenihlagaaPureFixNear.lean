/- Proves: the plain law of FixNear: for every input, a fixnum of up to 53 bits comes back from its float, of a longer one the float is the nearest, and greater ones have no lesser floats. No condition beyond the statement's own. -/
import Derived.Test.YtpjcheenihlagaaQ3x1
import Derived.Test.YtpjcheenihlagaaNrw
namespace Go.Proofs.Ytpjcheenihlagaa.Pure
open Go.RowKit Ieee Go.Proofs.Ytpjcheenihlagaa Go.Proofs.Ytpjcheenihlagaa.PFixAll Go.Proofs.Ytpjcheenihlagaa.Q3 Go.Proofs.YtpjcheenihlagaaW.PrintWords Go.Proofs.YtpjcheenihlagaaW.PrintLast Go.Proofs.YtpjcheenihlagaaW.PrintMore

set_option exponentiation.threshold 2000

/-- What ToFix answers of the float of a fixnum. -/
theorem toFix_floOf {n : Int} (h : -1152921504606846976 ≤ n ∧ n ≤ 1152921504606846975) :
    ∃ z : Int, Fl.toFix (Fl.u (wrap64 (Fl.floOf n))) = (if -1152921504606846976 ≤ z ∧ z ≤ 1152921504606846975 then (z, true) else (0, false)) ∧
      (-9007199254740992 ≤ n ∧ n ≤ 9007199254740992 → z = n) ∧ -64 ≤ z - n ∧ z - n ≤ 64 ∧ -1152921504606846976 ≤ z ∧
      ((-1152921504606846976 ≤ z ∧ z ≤ 1152921504606846975) → ¬ (-9007199254740992 ≤ n ∧ n ≤ 9007199254740992) → Fl.floOf z = Fl.floOf n) := by
  obtain ⟨r, e1, n1, u1, b1⟩ := Fl.floOf_spec h
  obtain ⟨m, m1, m2, m3, m4⟩ := Fl.near_whole n1 (by clear n1; omega)
  have m5 := Fl.near_max n1 (by clear n1; omega) m1
  have hV : Hf.V (Hf.rung (Fl.u (wrap64 (Fl.floOf n)))) = m * 2 ^ 1074 := by rw [u1, Hf.rung_word _ _ b1]; exact m1
  have hs : Hf.sgn (Fl.u (wrap64 (Fl.floOf n))) = decide (n < 0) := by rw [u1, Hf.sgn_word _ _ b1]
  have hin := Fl.inside_whole hV (by clear n1 m1 hV; omega)
  have htr := Fl.trunc_whole hV
  rw [hs] at htr
  have hz : Hf.trunc (Fl.u (wrap64 (Fl.floOf n))) = if n < 0 then -(m : Int) else (m : Int) := by
    rw [htr]
    by_cases c : n < 0
    · rw [if_pos c, if_pos (decide_eq_true c)]
    · rw [if_neg c, if_neg (by rw [decide_eq_true_eq]; exact c)]
  generalize hzz : (if n < 0 then -(m : Int) else (m : Int)) = z at hz
  have zabs : z.natAbs = m := by rw [← hzz]; split <;> omega
  refine ⟨z, ?_, ?_, ?_, ?_, ?_, ?_⟩
  · unfold Fl.toFix
    rw [hz]
    by_cases c : -1152921504606846976 ≤ z ∧ z ≤ 1152921504606846975
    · rw [if_pos ⟨hin, c⟩, if_pos c]
    · rw [if_neg (fun q => c q.2), if_neg c]
  · intro hc
    have := m2 (by clear n1 m1 hV; omega)
    clear n1 m1 hV m2
    rw [← hzz]; split <;> omega
  · clear n1 m1 hV m2
    rw [← hzz]; split <;> omega
  · clear n1 m1 hV m2
    rw [← hzz]; split <;> omega
  · clear n1 m1 hV m2
    rw [← hzz]; split <;> omega
  · intro hc hbig
    obtain ⟨q, f1, g1, _, _⟩ := Fl.floOf_spec hc
    rw [zabs] at g1
    have hq := Hf.Near.own g1 (q := r) m1 n1.1
    have hsz : decide (z < 0) = decide (n < 0) := by
      clear g1 n1 m1 hV
      rw [Bool.eq_iff_iff, decide_eq_true_eq, decide_eq_true_eq, ← hzz]
      split <;> omega
    rw [f1, e1, hq, hsz]

theorem FixNear : hearthlaw1_FixNear.Pure := by
  intro v0 w0 _ _
  have hv := Fl.wrap61_bd v0
  have hw := Fl.wrap61_bd w0
  refine ⟨2, ?_⟩
  unfold hearthlaw1_FixNear.f
  rw [Fl.Wrap_f, Fl.Wrap_f]
  generalize Fl.wrap61 v0 = v at *
  generalize Fl.wrap61 w0 = w at *
  have main : hearthlaw1_FixNear.j0 2 v (wrap64 (Fl.floOf v)) false = some true := by
    obtain ⟨z, z1, z2, z3, z4, z6, z5⟩ := toFix_floOf hv
    simp only [hearthlaw1_FixNear.j0, Bool.false_eq_true, if_false, fix_ToFix.f]
    rw [Option.bind_some, z1]
    have hw : wrap64 (z - v) = z - v := Fl.wrap_id (by unfold Fl.Fits; clear z1 z5; omega)
    have last : ∀ c : Bool, (c = true ↔ (-9007199254740992 ≤ v ∧ v ≤ 9007199254740992)) →
        hearthlaw1_FixNear.j1 1 v (wrap64 (Fl.floOf v)) (if -1152921504606846976 ≤ z ∧ z ≤ 1152921504606846975 then (z, true) else (0, false)).1 (if -1152921504606846976 ≤ z ∧ z ≤ 1152921504606846975 then (z, true) else (0, false)).2 c = some true := by
      intro c hc
      simp only [hearthlaw1_FixNear.j1]
      cases c with
      | true =>
        have hs := hc.1 rfl
        rw [z2 hs, if_pos hv]
        simp only [if_true, BEq.rfl]
      | false =>
        have hs : ¬ (-9007199254740992 ≤ v ∧ v ≤ 9007199254740992) := fun h => by cases hc.2 h
        by_cases cz : -1152921504606846976 ≤ z ∧ z ≤ 1152921504606846975
        · rw [if_pos cz]
          simp only [Bool.false_eq_true, if_false, if_true, fix_ToFlo.f]
          rw [hw, if_pos z3, if_pos z4, Option.bind_some, z5 cz hs, BEq.rfl]
        · rw [if_neg cz]
          simp only [Bool.false_eq_true, if_false]
          rw [decide_eq_true (by clear z1 z5 hw; omega)]
    by_cases c1 : v ≥ -9007199254740992
    · rw [if_pos c1]; exact last _ (by rw [decide_eq_true_eq]; exact ⟨fun h => ⟨c1, h⟩, fun h => h.2⟩)
    · rw [if_neg c1]; exact last _ ⟨fun h => absurd h (by decide), fun h => absurd h.1 c1⟩
  rw [Option.bind_some, Option.bind_some]
  unfold fix_ToFlo.f
  rw [Option.bind_some, show hearthlaw1_alive.f = some true from rfl, Option.bind_some, if_pos rfl]
  by_cases c : v < w
  · rw [if_pos c, Option.bind_some]
    unfold fix_FloLess.f
    rw [Option.bind_some, Fl.floOf_grows hv hw c]; exact main
  · rw [if_neg c]; exact main

end Go.Proofs.Ytpjcheenihlagaa.Pure
