/- Proves: the plain law of FixDivides: for every input, quotient and remainder make the dividend, and lie where they should. No condition beyond the statement's own. -/
import Derived.Test.YtpjcheenihlagaaQ1x2
import Derived.Test.YtpjcheenihlagaaWhl
namespace Go.Proofs.Ytpjcheenihlagaa.Pure
open Go.RowKit Ieee Go.Proofs.Ytpjcheenihlagaa Go.Proofs.Ytpjcheenihlagaa.PFixAll Go.Proofs.Ytpjcheenihlagaa.Q1 Go.Proofs.YtpjcheenihlagaaW.PrintWords Go.Proofs.YtpjcheenihlagaaW.PrintLast Go.Proofs.YtpjcheenihlagaaW.PrintMore

theorem FixDivides : hearthlaw1_FixDivides.Pure := by
  intro a b _ _
  refine ⟨3, ?_⟩
  have hc := Fl.wrap61_bd a
  have hd := Fl.wrap61_bd b
  unfold hearthlaw1_FixDivides.f
  rw [Fl.Quot_f, Fl.Rem_f, Fl.Wrap_f, Fl.Wrap_f]; simp only [Option.bind_some, hearthlaw1_alive.f, if_true]
  generalize Fl.wrap61 a = c at *
  generalize Fl.wrap61 b = d at *
  by_cases h : d = 0
  · subst h
    simp [hearthlaw1_FixDivides.j0, hearthlaw1_alive.f]
  · obtain ⟨f1, f2, f3, f4, f5⟩ := Fl.div_facts c d h
    have hdb : (d == 0) = false := by simpa using h
    rw [if_neg h, if_neg h, hdb]
    generalize Int.tdiv c d = q at *
    generalize Int.tmod c d = r at *
    have w1 : wrap64 (-d) = -d := Fl.wrap_id (by unfold Fl.Fits; omega)
    have w2 : wrap64 (-r) = -r := Fl.wrap_id (by unfold Fl.Fits; omega)
    have hq : Fl.wrap61 q = q ∨ (c = -1152921504606846976 ∧ d = -1 ∧ q = 1152921504606846976) := by
      by_cases h2 : q ≤ 1152921504606846975
      · left; exact Fl.wrap61_id (by omega) h2
      · right
        have hq2 : q = 1152921504606846976 := by omega
        have hcc : c = -1152921504606846976 := by omega
        subst hq2
        omega
    have back : Fl.wrap61 (Fl.wrap61 (d * Fl.wrap61 q) + r) = c := by
      rw [Fl.w61_mul_r, Fl.w61_add_l, f1]; exact Fl.wrap61_id hc.1 hc.2
    have fq : fix_Fits.f (Fl.wrap61 q) = some true := by rw [Fl.Fits_f, decide_eq_true (Fl.wrap61_bd q)]
    have fr : fix_Fits.f r = some true := by rw [Fl.Fits_f, decide_eq_true (by omega)]
    have last : ∀ x9 x10 : Int, x10 > x9 → hearthlaw1_FixDivides.j2 1 (Fl.wrap61 q) r c d x9 x10 = some true := by
      intro x9 x10 hx
      simp only [hearthlaw1_FixDivides.j2]
      rw [Fl.Mul_f]; simp only [Option.bind_some]
      rw [Fl.Add_f, back, fq, fr]; simp only [Option.bind_some, if_true]
      rw [if_pos hx]
      have tail : (if c = 0 then some true else if Fl.wrap61 q = 0 then some true else if c = -1152921504606846976 then (if d = -1 then some true else some (decide (Fl.wrap61 q < 0) == (decide (c < 0) != decide (d < 0)))) else some (decide (Fl.wrap61 q < 0) == (decide (c < 0) != decide (d < 0))) : Option Bool) = some true := by
        by_cases c0 : c = 0
        · rw [if_pos c0]
        · rw [if_neg c0]
          by_cases q0 : Fl.wrap61 q = 0
          · rw [if_pos q0]
          · rw [if_neg q0]
            rcases hq with hq | ⟨h1, h2, _⟩
            · rw [hq] at q0 ⊢
              have : (decide (q < 0) == (decide (c < 0) != decide (d < 0))) = true := by
                rcases f5 with f5 | f5
                · exact absurd f5 q0
                · rw [beq_iff_eq, Bool.eq_iff_iff, bne_iff_ne, decide_eq_true_eq, f5]
                  rw [Ne, Bool.eq_iff_iff, decide_eq_true_eq, decide_eq_true_eq]
              rw [this]
              repeat' split
              all_goals rfl
            · rw [if_pos h1, if_pos h2]
      by_cases r0 : r = 0
      · rw [if_pos r0]; exact tail
      · rw [if_neg r0]
        have : (decide (r < 0) == decide (c < 0)) = true := by
          rcases f4 with f4 | f4
          · exact absurd f4 r0
          · rw [beq_iff_eq, Bool.eq_iff_iff, decide_eq_true_eq, decide_eq_true_eq]; exact f4
        rw [if_pos this]; exact tail
    simp only [hearthlaw1_FixDivides.j0, Bool.false_eq_true, if_false]
    simp only [hearthlaw1_FixDivides.j1]
    rw [w1, w2]
    repeat' split
    all_goals (apply last; omega)

end Go.Proofs.Ytpjcheenihlagaa.Pure
