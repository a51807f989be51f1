/- Proves: the plain law of FixWrapped: for every input, what differs by 1 << 61 wraps alike, and Wrap of a fixnum alone is itself. No condition beyond the statement's own. -/
import Derived.Test.YtpjcheenihlagaaQ7x1
import Derived.Test.YtpjcheenihlagaaWhl
namespace Go.Proofs.Ytpjcheenihlagaa.Pure
open Go.RowKit Ieee Go.Proofs.Ytpjcheenihlagaa Go.Proofs.Ytpjcheenihlagaa.PFixAll Go.Proofs.Ytpjcheenihlagaa.Q7 Go.Proofs.YtpjcheenihlagaaW.PrintWords Go.Proofs.YtpjcheenihlagaaW.PrintLast Go.Proofs.YtpjcheenihlagaaW.PrintMore

theorem FixWrapped : hearthlaw1_FixWrapped.Pure := by
  intro v t h0 _
  have hv := Fl.fits_of_wf h0
  have hb := Fl.wrap61_bd v
  obtain ⟨q, hq⟩ := Fl.wrap61_ex v
  refine ⟨1, ?_⟩
  unfold hearthlaw1_FixWrapped.f
  rw [Fl.Wrap_f]; simp only [Option.bind_some]
  have e1 : Int.tmod (wrap64 (v - Fl.wrap61 v)) 2305843009213693952 = 0 := by
    apply Int.tmod_eq_zero_of_dvd
    apply Int.dvd_of_emod_eq_zero
    unfold wrap64; omega
  have e2 : Fl.wrap61 (wrap64 (v + wrap64 (t * 2305843009213693952))) = Fl.wrap61 v := by
    rw [Fl.wrap61_wrap64]; unfold Fl.wrap61 wrap64; omega
  rw [if_neg (by omega), if_neg (by omega), if_pos e1, Fl.Wrap_f, e2]; simp only [Option.bind_some, bne_self_eq_false]
  simp only [hearthlaw1_FixWrapped.j0, Bool.false_eq_true, if_false]
  rw [Fl.Fits_f]; simp only [Option.bind_some]
  have e3 : (Fl.wrap61 v == v) = decide (-1152921504606846976 ≤ v ∧ v ≤ 1152921504606846975) := by
    rw [Bool.eq_iff_iff, beq_iff_eq, decide_eq_true_eq]
    constructor
    · intro h; omega
    · intro h; exact Fl.wrap61_id h.1 h.2
  rw [e3]
  by_cases c : v ≥ -1152921504606846976
  · rw [if_pos c]
    have : decide (-1152921504606846976 ≤ v ∧ v ≤ 1152921504606846975) = decide (v ≤ 1152921504606846975) := by
      rw [Bool.eq_iff_iff, decide_eq_true_eq, decide_eq_true_eq]; omega
    rw [this]; simp [hearthlaw1_alive.f]
  · rw [if_neg c]
    have : decide (-1152921504606846976 ≤ v ∧ v ≤ 1152921504606846975) = false := by
      rw [decide_eq_false_iff_not]; omega
    rw [this]; simp [hearthlaw1_alive.f]

end Go.Proofs.Ytpjcheenihlagaa.Pure
