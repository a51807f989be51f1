/- Proves: the plain law of FixGrows: for every input, what is added to the less of two numbers gives no more than what is added to the other one, and so with what both are times, or divided by, a number from 0 on. No condition beyond the statement's own. -/
import Derived.Test.YtpjcheenihlagaaQ3x1
import Derived.Test.YtpjcheenihlagaaAlu
namespace Go.Proofs.Ytpjcheenihlagaa.Pure
open Go.RowKit Ieee Go.Proofs.Ytpjcheenihlagaa Go.Proofs.Ytpjcheenihlagaa.PFixAll Go.Proofs.Ytpjcheenihlagaa.Q3 Go.Proofs.YtpjcheenihlagaaW.PrintWords Go.Proofs.YtpjcheenihlagaaW.PrintLast Go.Proofs.YtpjcheenihlagaaW.PrintMore

theorem finite3_f (b : Int) : hearthlaw1_finite.f b = some (decide (Hf.rung (Fl.u b) < Hf.INF)) := by
  have hI : Hf.INF = 9218868437227405312 := rfl
  unfold hearthlaw1_finite.f
  rw [Fl.and_low]
  exact congrArg some (by rw [Bool.eq_iff_iff, decide_eq_true_eq, decide_eq_true_eq, hI]; exact Int.ofNat_lt (n := Hf.rung (Fl.u b)) (m := 9218868437227405312))

theorem not_less {x y : Nat} (h : Hf.SV y ≤ Hf.SV x) : Hf.less x y = false := by
  unfold Hf.less; rw [decide_eq_false_iff_not]; omega

theorem grown {o p : Option Nat} (ho : Fl.Good o) (hp : Fl.Good p) {S T : Int} {D : Nat} (hD : 0 < D) (h1 : ∃ w, o = some w ∧ Hf.Res S D w) (h2 : ∃ w, p = some w ∧ Hf.Res T D w) (h : T ≤ S) :
    Hf.less (Fl.u (Fl.out o)) (Fl.u (Fl.out p)) = false := by
  obtain ⟨w, rfl, r1⟩ := h1
  obtain ⟨v, rfl, r2⟩ := h2
  rw [Fl.u_out_some ho rfl, Fl.u_out_some hp rfl]
  exact not_less (Hf.Res.mono hD r2 r1 h)

theorem grows (l h c : Int) (fl : Hf.rung (Fl.u l) < Hf.INF) (fh : Hf.rung (Fl.u h) < Hf.INF) (fc : Hf.rung (Fl.u c) < Hf.INF) (hle : Hf.SV (Fl.u l) ≤ Hf.SV (Fl.u h)) :
    hearthlaw1_FixGrows.j1 2 c l h = some true := by
  simp only [hearthlaw1_FixGrows.j1, hearthlaw1_FixGrows.j2, fix_FloAdd.f, fix_FloSub.f, fix_FloMul.f, fix_FloDiv.f, fix_FloLess.f, Option.bind_some]
  have fc' : Hf.rung (Hf.flip (Fl.u c)) < Hf.INF := by rw [Hf.rung_flip]; exact fc
  rw [grown (Fl.good_add _ _) (Fl.good_add _ _) (by omega) (Hf.add_res _ _ fh fc) (Hf.add_res _ _ fl fc) (by omega), Hf.sub_flip, Hf.sub_flip,
    grown (Fl.good_add _ _) (Fl.good_add _ _) (by omega) (Hf.add_res _ _ fh fc') (Hf.add_res _ _ fl fc') (by omega)]
  simp only [Bool.false_eq_true, if_false]
  rw [Fl.u_low]
  have fd : Hf.rung (Hf.rung (Fl.u c)) < Hf.INF := by rw [Fl.rung_rung]; exact fc
  have sd := Fl.sgn_rung (Fl.u c)
  have p1 : Hf.SV (Fl.u l) * (Hf.V (Hf.rung (Hf.rung (Fl.u c))) : Nat) ≤ Hf.SV (Fl.u h) * (Hf.V (Hf.rung (Hf.rung (Fl.u c))) : Nat) := Int.mul_le_mul_of_nonneg_right hle (Int.natCast_nonneg _)
  rw [grown (Fl.good_mul _ _) (Fl.good_mul _ _) (Nat.two_pow_pos 1074) (Hf.mul_res _ _ fh fd sd) (Hf.mul_res _ _ fl fd sd) p1]
  simp only [Bool.false_eq_true, if_false]
  rw [Fl.and_low]
  by_cases c0 : Hf.rung (Fl.u c) = 0
  · rw [if_pos (by omega)]
  · have z : Hf.rung (Hf.rung (Fl.u c)) ≠ 0 := by rw [Fl.rung_rung]; exact c0
    rw [if_neg (by omega), grown (Fl.good_div _ _) (Fl.good_div _ _) (Hf.V_pos z) (Hf.div_res _ _ fh fd z sd) (Hf.div_res _ _ fl fd z sd) (Int.mul_le_mul_of_nonneg_right hle (Int.natCast_nonneg _))]
    rfl

theorem fin_of {b : Int} (h : decide (Hf.rung (Fl.u b) < Hf.INF) = true) : Hf.rung (Fl.u b) < Hf.INF := of_decide_eq_true h

theorem grow_step (a b c : Int) (ca : Hf.rung (Fl.u a) < Hf.INF) (cb : Hf.rung (Fl.u b) < Hf.INF) (cc : Hf.rung (Fl.u c) < Hf.INF) :
    hearthlaw1_FixGrows.j0 3 a b c false = some true := by
  have hl : Hf.less (Fl.u b) (Fl.u a) = true ↔ Hf.SV (Fl.u b) < Hf.SV (Fl.u a) := by
    unfold Hf.less; rw [decide_eq_true_eq]
    exact ⟨fun h => h.2.2, fun h => ⟨Nat.le_of_lt cb, Nat.le_of_lt ca, h⟩⟩
  simp only [hearthlaw1_FixGrows.j0, Bool.false_eq_true, if_false, fix_FloLess.f, Option.bind_some]
  by_cases cl : Hf.less (Fl.u b) (Fl.u a) = true
  · rw [if_pos cl]; exact grows b a c cb ca cc (Int.le_of_lt (hl.1 cl))
  · rw [if_neg cl]; exact grows a b c ca cb cc (Int.not_lt.1 fun h => cl (hl.2 h))

theorem finite_ex (b : Int) : ∃ A, hearthlaw1_finite.f b = some A ∧ (A = true → Hf.rung (Fl.u b) < Hf.INF) := ⟨_, finite3_f b, fin_of⟩

theorem FixGrows : hearthlaw1_FixGrows.Pure := by
  intro a b c _ _ _
  refine ⟨3, ?_⟩
  obtain ⟨A, ea, fa⟩ := finite_ex a
  obtain ⟨B, eb, fb⟩ := finite_ex b
  obtain ⟨C, ec, fc⟩ := finite_ex c
  have step := grow_step a b c
  have skip : hearthlaw1_FixGrows.j0 3 a b c true = some true := by
    simp only [hearthlaw1_FixGrows.j0, if_true, hearthlaw1_alive.f, Option.bind_some]
  unfold hearthlaw1_FixGrows.f
  rw [show hearthlaw1_alive.f = some true from rfl, Option.bind_some, if_pos rfl, ea, Option.bind_some]
  cases A
  · rw [if_neg (by decide)]; exact skip
  · rw [if_pos rfl, eb, Option.bind_some]
    cases B
    · rw [if_neg (by decide)]; exact skip
    · rw [if_pos rfl, ec, Option.bind_some]
      cases C
      · rw [Bool.not_false]; exact skip
      · rw [Bool.not_true]; exact step (fa rfl) (fb rfl) (fc rfl)

end Go.Proofs.Ytpjcheenihlagaa.Pure
