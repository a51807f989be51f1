/- Proves: the plain law of FixSigns: for every input, sums and products may be turned round, a difference is the sum of the number with the other sign, and what is nothing to a number leaves it. No condition beyond the statement's own. -/
import Derived.Test.YtpjcheenihlagaaQ2x2
import Derived.Test.YtpjcheenihlagaaAlu
namespace Go.Proofs.Ytpjcheenihlagaa.Pure
open Go.RowKit Ieee Go.Proofs.Ytpjcheenihlagaa Go.Proofs.Ytpjcheenihlagaa.PFixAll Go.Proofs.Ytpjcheenihlagaa.Q2 Go.Proofs.YtpjcheenihlagaaW.PrintWords Go.Proofs.YtpjcheenihlagaaW.PrintLast Go.Proofs.YtpjcheenihlagaaW.PrintMore

theorem told_f {a : Int} (ha : Fl.Fits a) : hearthlaw1_told.f a = some (Fl.out (Hf.tell (Fl.u a))) := by
  have hI : Hf.INF = 9218868437227405312 := rfl
  unfold hearthlaw1_told.f hearthlaw1_number.f
  rw [Fl.and_low, Fl.out_tell ha]; simp only [Option.bind_some]
  by_cases c : Hf.rung (Fl.u a) ≤ Hf.INF
  · rw [if_pos c, if_pos (decide_eq_true (by omega))]
  · rw [if_neg c, if_neg (by rw [decide_eq_true_eq]; omega)]

theorem finite_f (b : Int) : hearthlaw1_finite.f b = some (decide (Hf.rung (Fl.u b) < Hf.INF)) := by
  have hI : Hf.INF = 9218868437227405312 := rfl
  unfold hearthlaw1_finite.f
  rw [Fl.and_low]
  exact congrArg some (by rw [Bool.eq_iff_iff, decide_eq_true_eq, decide_eq_true_eq, hI]; exact Int.ofNat_lt (n := Hf.rung (Fl.u b)) (m := 9218868437227405312))

theorem FixSigns : hearthlaw1_FixSigns.Pure := by
  intro a b h0 h1
  have ha := Fl.fits_of_wf h0
  have hb := Fl.fits_of_wf h1
  refine ⟨5, ?_⟩
  have uone : Fl.u 4607182418800017408 = Hf.ONE := by decide
  have utwo : Fl.u 4611686018427387904 = Hf.TWO := by decide
  have uzero : Fl.u 0 = 0 := by decide
  have unought : Fl.u (-9223372036854775808) = 9223372036854775808 := by decide
  -- from the last step backwards
  have s4 : ∀ c, hearthlaw1_FixSigns.j4 1 a b true c = some true := by
    intro c
    cases c with
    | false => simp only [hearthlaw1_FixSigns.j4, Bool.false_eq_true, if_false, if_true, hearthlaw1_alive.f, Option.bind_some]
    | true =>
      simp only [hearthlaw1_FixSigns.j4, if_true, hearthlaw1_alive.f, fix_FloMul.f, fix_FloDiv.f, Option.bind_some]
      rw [told_f (Fl.fits_xor (Fl.fits_out _)), told_f (Fl.fits_xor (Fl.fits_out _)), Fl.told_flip (Fl.good_mul _ _), Fl.told_flip (Fl.good_div _ _), Fl.u_xor ha, Fl.u_xor hb, Hf.mul_flip, Hf.div_flip]
      simp only [Option.bind_some, if_true]
  have s3 : hearthlaw1_FixSigns.j3 2 a b true = some true := by
    simp only [hearthlaw1_FixSigns.j3, hearthlaw1_number.f, Option.bind_some]
    split <;> exact s4 _
  have s2 : hearthlaw1_FixSigns.j2 3 a b true = some true := by
    simp only [hearthlaw1_FixSigns.j2]
    rw [finite_f]; simp only [Option.bind_some]
    by_cases c : Hf.rung (Fl.u a) < Hf.INF
    · rw [if_pos (decide_eq_true c)]
      simp only [if_true, fix_FloSub.f, fix_FloDiv.f, Option.bind_some]
      rw [Hf.sub_self _ c, if_pos (show Fl.out (some (double.word false 0)) = 0 from Fl.pat_word (s := false) (r := 0) (by omega)), Fl.and_low]
      by_cases c2 : Hf.rung (Fl.u a) = 0
      · rw [if_pos (by omega)]; exact s3
      · rw [if_neg (by omega), Hf.div_self _ c c2, show Fl.out (some Hf.ONE) = 4607182418800017408 from Fl.wrap_id (a := 4607182418800017408) (by unfold Fl.Fits; omega), BEq.rfl]; exact s3
    · rw [if_neg (by rw [decide_eq_true_eq]; exact c)]; exact s3
  have s1 : hearthlaw1_FixSigns.j1 4 a b true = some true := by
    simp only [hearthlaw1_FixSigns.j1, if_true, fix_FloAdd.f, fix_FloSub.f, Option.bind_some]
    rw [told_f ha, unought, uzero, Hf.add_nought, Hf.sub_zero]; simp only [Option.bind_some, if_true, BEq.rfl]
    exact s2
  have s0 : hearthlaw1_FixSigns.j0 5 a b true = some true := by
    simp only [hearthlaw1_FixSigns.j0, if_true, fix_FloAdd.f, fix_FloSub.f, fix_FloMul.f, fix_FloDiv.f, Option.bind_some]
    rw [told_f ha, uone, utwo, Fl.u_xor hb, Hf.sub_flip, Hf.mul_one', Hf.div_one', Hf.mul_two]; simp only [Option.bind_some, if_true, BEq.rfl]
    exact s1
  unfold hearthlaw1_FixSigns.f
  simp only [fix_FloAdd.f, fix_FloMul.f, Option.bind_some]
  rw [Hf.add_comm (Fl.u b), Hf.mul_comm (Fl.u b), if_pos rfl, BEq.rfl]
  exact s0

end Go.Proofs.Ytpjcheenihlagaa.Pure
