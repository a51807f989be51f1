/- Proves: the plain law of FixLess: for every input, FloLess of any two patterns answers as the reference does. No condition beyond the statement's own. -/
import Derived.Test.YtpjcheenihlagaaQ4x1
import Derived.Test.YtpjcheenihlagaaBts
namespace Go.Proofs.Ytpjcheenihlagaa.Pure
open Go.RowKit Ieee Go.Proofs.Ytpjcheenihlagaa Go.Proofs.Ytpjcheenihlagaa.PFixAll Go.Proofs.Ytpjcheenihlagaa.Q4 Go.Proofs.YtpjcheenihlagaaW.PrintWords Go.Proofs.YtpjcheenihlagaaW.PrintLast Go.Proofs.YtpjcheenihlagaaW.PrintMore

theorem rless_f (k : Nat) (hk : 2 ≤ k) {a b : Int} (ha : Fl.Fits a) (hb : Fl.Fits b) : hearthref1_FloLess.f k a b = some (Hf.less (Fl.u a) (Fl.u b)) := by
  have pa := Fl.parts_f k hk ha
  have pb := Fl.parts_f k hk hb
  have na := Fl.parts_none (Hf.sgn (Fl.u a)) (Hf.rung (Fl.u a))
  have nb := Fl.parts_none (Hf.sgn (Fl.u b)) (Hf.rung (Fl.u b))
  have sa : (Fl.partsOf (Hf.sgn (Fl.u a)) (Hf.rung (Fl.u a))).1 = Hf.sgn (Fl.u a) := Fl.parts_sgn _ _
  have sb : (Fl.partsOf (Hf.sgn (Fl.u b)) (Hf.rung (Fl.u b))).1 = Hf.sgn (Fl.u b) := Fl.parts_sgn _ _
  have ra := Fl.sr_u ha
  have rb := Fl.sr_u hb
  obtain ⟨k, rfl⟩ : ∃ m, k = m + 1 := ⟨k - 1, by omega⟩
  unfold hearthref1_FloLess.f
  rw [pa, pb]; simp only [Option.bind_some]
  rw [na, nb, sa, sb, Fl.sgn_u ha, Fl.sgn_u hb, Fl.less_sr, ra, rb]
  by_cases c1 : Hf.INF < Hf.rung (Fl.u a)
  · rw [decide_eq_true c1, if_pos rfl]
    simp only [hearthref1_FloLess.j0, if_true]
    congr 1; symm; rw [decide_eq_false_iff_not]; omega
  · rw [decide_eq_false c1, if_neg (by decide)]
    by_cases c2 : Hf.INF < Hf.rung (Fl.u b)
    · rw [decide_eq_true c2]
      simp only [hearthref1_FloLess.j0, if_true]
      congr 1; symm; rw [decide_eq_false_iff_not]; omega
    · rw [decide_eq_false c2]
      simp only [hearthref1_FloLess.j0, Bool.false_eq_true, if_false]
      have ea : a < 0 → wrap64 (-(wrap64 (a - -9223372036854775808))) = -(a + 9223372036854775808) := by
        intro h; unfold Fl.Fits at ha
        rw [Fl.wrap_id (a := a - -9223372036854775808) (by unfold Fl.Fits; omega), Fl.wrap_id (by unfold Fl.Fits; omega)]; omega
      have eb : b < 0 → wrap64 (-(wrap64 (b - -9223372036854775808))) = -(b + 9223372036854775808) := by
        intro h; unfold Fl.Fits at hb
        rw [Fl.wrap_id (a := b - -9223372036854775808) (by unfold Fl.Fits; omega), Fl.wrap_id (by unfold Fl.Fits; omega)]; omega
      have fin : ∀ p q : Int, (some (decide (p < q)) : Option Bool) = some (decide (Hf.rung (Fl.u a) ≤ Hf.INF ∧ Hf.rung (Fl.u b) ≤ Hf.INF ∧ p < q)) := by
        intro p q
        congr 1; rw [Bool.eq_iff_iff, decide_eq_true_eq, decide_eq_true_eq]; omega
      by_cases ca : a < 0 <;> by_cases cb : b < 0
      · rw [if_pos (decide_eq_true ca), if_pos (decide_eq_true cb), ea ca, eb cb, if_pos ca, if_pos cb]; exact fin _ _
      · rw [if_pos (decide_eq_true ca), if_neg (by simpa using cb), ea ca, if_pos ca, if_neg cb]; exact fin _ _
      · rw [if_neg (by simpa using ca), if_pos (decide_eq_true cb), eb cb, if_neg ca, if_pos cb]; exact fin _ _
      · rw [if_neg (by simpa using ca), if_neg (by simpa using cb), if_neg ca, if_neg cb]; exact fin _ _

theorem FixLess : hearthlaw1_FixLess.Pure := by
  intro a b h0 h1
  have ha := Fl.fits_of_wf h0
  have hb := Fl.fits_of_wf h1
  refine ⟨2, ?_⟩
  unfold hearthlaw1_FixLess.f
  rw [rless_f 2 (Nat.le_refl _) ha hb, rless_f 2 (Nat.le_refl _) hb ha]
  simp only [hearthlaw1_alive.f, fix_FloLess.f, Option.bind_some, if_true, BEq.rfl]

end Go.Proofs.Ytpjcheenihlagaa.Pure
