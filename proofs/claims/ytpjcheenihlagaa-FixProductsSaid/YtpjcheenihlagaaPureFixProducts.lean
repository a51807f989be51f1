/- Proves: the plain law of FixProducts: for every input, FloMul and FloDiv of any two patterns answer as the reference does. No condition beyond the statement's own. -/
import Derived.Test.YtpjcheenihlagaaQ5x1
import Derived.Test.YtpjcheenihlagaaDvd
namespace Go.Proofs.Ytpjcheenihlagaa.Pure
open Go.RowKit Ieee Go.Proofs.Ytpjcheenihlagaa Go.Proofs.Ytpjcheenihlagaa.PFixAll Go.Proofs.Ytpjcheenihlagaa.Q5 Go.Proofs.YtpjcheenihlagaaW.PrintWords Go.Proofs.YtpjcheenihlagaaW.PrintLast Go.Proofs.YtpjcheenihlagaaW.PrintMore

theorem FixProducts : hearthlaw1_FixProducts.Pure := by
  intro a b h0 h1
  have ha := Fl.fits_of_wf h0
  have hb := Fl.fits_of_wf h1
  refine ⟨200000, ?_⟩
  unfold hearthlaw1_FixProducts.f
  rw [Fl.refmul_f 200000 (Nat.le_refl _) ha hb, Fl.refdiv_f 200000 (Nat.le_refl _) ha hb]
  simp only [hearthlaw1_alive.f, fix_FloMul.f, fix_FloDiv.f, Option.bind_some, if_true, BEq.rfl]

end Go.Proofs.Ytpjcheenihlagaa.Pure
