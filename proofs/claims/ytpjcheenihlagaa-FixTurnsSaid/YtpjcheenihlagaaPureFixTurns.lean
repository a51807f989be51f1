/- Proves: the plain law of FixTurns: for every input, ToFlo and ToFix answer as the reference does, of any pattern, and of a float that was a fixnum. No condition beyond the statement's own. -/
import Derived.Test.YtpjcheenihlagaaQ6x1
import Derived.Test.YtpjcheenihlagaaTrn
namespace Go.Proofs.Ytpjcheenihlagaa.Pure
open Go.RowKit Ieee Go.Proofs.Ytpjcheenihlagaa Go.Proofs.Ytpjcheenihlagaa.PFixAll Go.Proofs.Ytpjcheenihlagaa.Q6 Go.Proofs.YtpjcheenihlagaaW.PrintWords Go.Proofs.YtpjcheenihlagaaW.PrintLast Go.Proofs.YtpjcheenihlagaaW.PrintMore

theorem fixed_f (k : Nat) (hk : 200000 ≤ k) {b : Int} (hb : Fl.Fits b) : hearthlaw1_fixed.f k b = some true := by
  unfold hearthlaw1_fixed.f fix_ToFix.f
  rw [Fl.reftofix_f k hk hb, Option.bind_some, Option.bind_some, if_pos rfl, BEq.rfl]

theorem FixTurns : hearthlaw1_FixTurns.Pure := by
  intro v b h0 h1
  have hv := Fl.fits_of_wf h0
  have hb := Fl.fits_of_wf h1
  refine ⟨200000, ?_⟩
  unfold hearthlaw1_FixTurns.f fix_ToFlo.f
  rw [Fl.reftoflo_f 200000 (Nat.le_refl _) hv, show hearthlaw1_alive.f = some true from rfl, Option.bind_some, if_pos rfl, Option.bind_some, Option.bind_some, if_pos rfl,
    fixed_f 200000 (Nat.le_refl _) hb, Option.bind_some, if_pos rfl, fixed_f 200000 (Nat.le_refl _) (Fl.fits_wrap _), Option.bind_some]

end Go.Proofs.Ytpjcheenihlagaa.Pure
