/- Proves: the plain law of FixSums: for every input, FloAdd and FloSub of any two patterns answer as the reference does. No condition beyond the statement's own. -/
import Derived.Test.YtpjcheenihlagaaQ4x1
import Derived.Test.YtpjcheenihlagaaAdd
namespace Go.Proofs.Ytpjcheenihlagaa.Pure
open Go.RowKit Ieee Go.Proofs.Ytpjcheenihlagaa Go.Proofs.Ytpjcheenihlagaa.PFixAll Go.Proofs.Ytpjcheenihlagaa.Q4 Go.Proofs.YtpjcheenihlagaaW.PrintWords Go.Proofs.YtpjcheenihlagaaW.PrintLast Go.Proofs.YtpjcheenihlagaaW.PrintMore

theorem FixSums : hearthlaw1_FixSums.Pure := by
  intro a b h0 h1
  have ha := Fl.fits_of_wf h0
  have hb := Fl.fits_of_wf h1
  refine ⟨200000, ?_⟩
  unfold hearthlaw1_FixSums.f
  rw [Fl.refadd_f 200000 (Nat.le_refl _) ha hb, Fl.refsub_f 200000 (Nat.le_refl _) ha hb]
  simp only [hearthlaw1_alive.f, fix_FloAdd.f, fix_FloSub.f, Option.bind_some, if_true, BEq.rfl]

end Go.Proofs.Ytpjcheenihlagaa.Pure
