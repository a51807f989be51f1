/- Proves: the plain law of FixOrder: for every input, FloLess is an order of the numbers: none is less than itself, of two unlike ones one is less, but 0 and -0, and it goes on through a third one. No condition beyond the statement's own. -/
import Derived.Test.YtpjcheenihlagaaQ2x1
import Derived.Test.YtpjcheenihlagaaBts
namespace Go.Proofs.Ytpjcheenihlagaa.Pure
open Go.RowKit Ieee Go.Proofs.Ytpjcheenihlagaa Go.Proofs.Ytpjcheenihlagaa.PFixAll Go.Proofs.Ytpjcheenihlagaa.Q2 Go.Proofs.YtpjcheenihlagaaW.PrintWords Go.Proofs.YtpjcheenihlagaaW.PrintLast Go.Proofs.YtpjcheenihlagaaW.PrintMore

theorem number_f (b : Int) : hearthlaw1_number.f b = some (decide (Hf.rung (Fl.u b) ≤ Hf.INF)) := by
  have hI : Hf.INF = 9218868437227405312 := rfl
  unfold hearthlaw1_number.f
  rw [Fl.and_low]; congr 1; rw [Bool.eq_iff_iff, decide_eq_true_eq, decide_eq_true_eq]; omega

theorem FixOrder : hearthlaw1_FixOrder.Pure := by
  intro a b c h0 h1 h2
  have ha := Fl.fits_of_wf h0
  have hb := Fl.fits_of_wf h1
  refine ⟨3, ?_⟩
  have sab := Fl.sr_eq_iff ha hb
  have self : Hf.less (Fl.u a) (Fl.u a) = false := by rw [Fl.less_sr, decide_eq_false_iff_not]; omega
  have hx := Fl.less_sr (Fl.u a) (Fl.u b)
  have hy := Fl.less_sr (Fl.u b) (Fl.u a)
  have hbc := Fl.less_sr (Fl.u b) (Fl.u c)
  have hac := Fl.less_sr (Fl.u a) (Fl.u c)
  have h00 := Fl.both_zero a b
  have na := number_f a
  have nb := number_f b
  -- the last step
  have last : hearthlaw1_FixOrder.j2 1 a b c (Hf.less (Fl.u a) (Fl.u b)) false = some true := by
    simp only [hearthlaw1_FixOrder.j2, Bool.false_eq_true, if_false, fix_FloLess.f, Option.bind_some]
    by_cases c1 : Hf.less (Fl.u a) (Fl.u b) = true
    · rw [if_pos c1]
      by_cases c2 : Hf.less (Fl.u b) (Fl.u c) = true
      · rw [if_pos c2]
        rw [hx, decide_eq_true_eq] at c1
        rw [hbc, decide_eq_true_eq] at c2
        rw [hac, decide_eq_true (show Hf.rung (Fl.u a) ≤ Hf.INF ∧ Hf.rung (Fl.u c) ≤ Hf.INF ∧ Fl.sr (Fl.u a) < Fl.sr (Fl.u c) by omega)]
      · rw [if_neg c2]
    · rw [if_neg c1]
  have mid : hearthlaw1_FixOrder.j0 3 a b c (Hf.less (Fl.u a) (Fl.u b)) (Hf.less (Fl.u b) (Fl.u a)) false = some true := by
    simp only [hearthlaw1_FixOrder.j0, Bool.false_eq_true, if_false]
    rw [na, nb]; simp only [Option.bind_some]
    by_cases c1 : Hf.rung (Fl.u a) ≤ Hf.INF
    · rw [decide_eq_true c1, if_pos rfl]
      by_cases c2 : Hf.rung (Fl.u b) ≤ Hf.INF
      · rw [decide_eq_true c2]
        simp only [hearthlaw1_FixOrder.j1, Bool.not_true, Bool.false_eq_true, if_false]
        rw [h00]
        by_cases cx : Hf.less (Fl.u a) (Fl.u b) = true
        · have cx' := cx
          rw [hx, decide_eq_true_eq] at cx'
          have ne : ¬ a = b := fun q => by subst q; omega
          have nz : ¬ (Hf.rung (Fl.u a) = 0 ∧ Hf.rung (Fl.u b) = 0) := fun q => by have := sab.2 (.inr q); omega
          rw [if_pos cx, if_neg ne, decide_eq_false nz]
          exact last
        · have cx' := cx
          rw [hx, decide_eq_true_eq] at cx'
          rw [if_neg cx]
          by_cases cy : Hf.less (Fl.u b) (Fl.u a) = true
          · have cy' := cy
            rw [hy, decide_eq_true_eq] at cy'
            have ne : ¬ a = b := fun q => by subst q; omega
            have nz : ¬ (Hf.rung (Fl.u a) = 0 ∧ Hf.rung (Fl.u b) = 0) := fun q => by have := sab.2 (.inr q); omega
            rw [if_neg ne, decide_eq_false nz, cy]
            exact last
          · have cy' := cy
            rw [hy, decide_eq_true_eq] at cy'
            have cy2 : Hf.less (Fl.u b) (Fl.u a) = false := by simpa using cy
            have eq := sab.1 (show Fl.sr (Fl.u a) = Fl.sr (Fl.u b) by omega)
            rw [cy2]
            by_cases e : a = b
            · rw [if_pos e]; exact last
            · rw [if_neg e, decide_eq_true (eq.resolve_left e)]; exact last
      · have cx : Hf.less (Fl.u a) (Fl.u b) = false := by rw [hx, decide_eq_false_iff_not]; omega
        have cy : Hf.less (Fl.u b) (Fl.u a) = false := by rw [hy, decide_eq_false_iff_not]; omega
        rw [decide_eq_false c2, cx, cy]
        simp only [hearthlaw1_FixOrder.j1, Bool.not_false, if_true, Bool.false_eq_true, if_false]
    · have cx : Hf.less (Fl.u a) (Fl.u b) = false := by rw [hx, decide_eq_false_iff_not]; omega
      have cy : Hf.less (Fl.u b) (Fl.u a) = false := by rw [hy, decide_eq_false_iff_not]; omega
      rw [decide_eq_false c1, if_neg (by decide), cx, cy]
      simp only [hearthlaw1_FixOrder.j1, Bool.not_false, if_true, Bool.false_eq_true, if_false]
  unfold hearthlaw1_FixOrder.f
  simp only [fix_FloLess.f, hearthlaw1_alive.f, Option.bind_some, if_true]
  rw [self]
  by_cases cx : Hf.less (Fl.u a) (Fl.u b) = true
  · have cx' := cx
    rw [hx, decide_eq_true_eq] at cx'
    have cy : Hf.less (Fl.u b) (Fl.u a) = false := by rw [hy, decide_eq_false_iff_not]; omega
    rw [if_pos cx, if_neg (by rw [cy]; decide)]
    exact mid
  · rw [if_neg cx]; exact mid

end Go.Proofs.Ytpjcheenihlagaa.Pure
