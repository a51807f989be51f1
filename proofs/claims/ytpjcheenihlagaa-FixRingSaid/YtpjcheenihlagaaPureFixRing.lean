/- Proves: the plain law of FixRing: for every input, sums and products are those of the numbers modulo 1 << 61. No condition beyond the statement's own. -/
import Derived.Test.YtpjcheenihlagaaQ1x1
import Derived.Test.YtpjcheenihlagaaWhl
namespace Go.Proofs.Ytpjcheenihlagaa.Pure
open Go.RowKit Ieee Go.Proofs.Ytpjcheenihlagaa Go.Proofs.Ytpjcheenihlagaa.PFixAll Go.Proofs.Ytpjcheenihlagaa.Q1 Go.Proofs.YtpjcheenihlagaaW.PrintWords Go.Proofs.YtpjcheenihlagaaW.PrintLast Go.Proofs.YtpjcheenihlagaaW.PrintMore

theorem FixRing : hearthlaw1_FixRing.Pure := by
  intro a b c _ _ _
  refine ⟨4, ?_⟩
  have fits : ∀ z, fix_Fits.f (Fl.wrap61 z) = some true := fun z => by
    rw [Fl.Fits_f, decide_eq_true (Fl.wrap61_bd z)]
  unfold hearthlaw1_FixRing.f
  simp only [Fl.Add_f, Fl.Mul_f, Option.bind_some]
  rw [Int.add_comm b a, Int.mul_comm b a, if_pos rfl]
  simp only [hearthlaw1_FixRing.j0, hearthlaw1_FixRing.j1, hearthlaw1_FixRing.j2, hearthlaw1_FixRing.j3, Fl.Add_f, Fl.Mul_f, Fl.Sub_f, Fl.Wrap_f, Option.bind_some, BEq.rfl, if_true]
  have e1 : Fl.wrap61 (Fl.wrap61 (a + b) + c) = Fl.wrap61 (a + Fl.wrap61 (b + c)) := by
    rw [Fl.w61_add_l, Fl.w61_add_r, Int.add_assoc]
  have e2 : Fl.wrap61 (Fl.wrap61 (a * b) * c) = Fl.wrap61 (a * Fl.wrap61 (b * c)) := by
    rw [Fl.w61_mul_l, Fl.w61_mul_r, Int.mul_assoc]
  have e3 : Fl.wrap61 (a * Fl.wrap61 (b + c)) = Fl.wrap61 (Fl.wrap61 (a * b) + Fl.wrap61 (a * c)) := by
    rw [Fl.w61_mul_r, Fl.w61_add_l, Fl.w61_add_r, Int.mul_add]
  have e4 : Fl.wrap61 (Fl.wrap61 (a - b) + b) = Fl.wrap61 a := by
    rw [Fl.w61_add_l, Int.sub_add_cancel]
  rw [e1, e2, e3, e4, Int.mul_one, Int.add_zero, Int.sub_self, show Fl.wrap61 0 = 0 by decide]
  simp only [BEq.rfl, if_true, fits, Option.bind_some, hearthlaw1_alive.f]

end Go.Proofs.Ytpjcheenihlagaa.Pure
