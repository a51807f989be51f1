/- The float functions of package fix and the statements' alive as Lean functions, with their contracts. No conditions. -/
import Derived.Test.YtpjcheenihlagaaFlu
import Derived.Test.YtpjcheenihlagaaRx11
namespace Go.Proofs.Ytpjcheenihlagaa.PFixAll
open Go.RowKit Ieee Go.Proofs.YtpjcheenihlagaaW.PrintWords Go.Proofs.YtpjcheenihlagaaW.PrintLast Go.Proofs.YtpjcheenihlagaaW.PrintMore

def hearthlaw1_alive.f : Option Bool := some true
theorem hearthlaw1_alive.calls (r : Bool) (w : World) (h : hearthlaw1_alive.f = some r) : Calls Try.prog 19 #[] w fun e w' => e = .returned (.bool r) ∧ Drawn0 w w' := by
  obtain rfl := Option.some.inj h
  exact (Fl.alive_calls w).mono fun _ _ ⟨he, hw⟩ => ⟨he, ⟨hw⟩⟩

def fix_FloAdd.f (a0 : Int) (a1 : Int) : Option Int := some (Fl.out (double.add (Fl.u a0) (Fl.u a1)))
theorem fix_FloAdd.calls (a0 : Int) (a1 : Int) (r : Int) (w : World) (h : fix_FloAdd.f a0 a1 = some r) : Calls Try.prog 22 #[.int .i64 a0, .int .i64 a1] w fun e w' => e = .returned (.int .i64 r) ∧ Drawn0 w w' := by
  obtain rfl := Option.some.inj h
  exact (Fl.floadd_calls a0 a1 w).mono fun _ _ ⟨he, hw⟩ => ⟨he, ⟨hw⟩⟩

def fix_FloSub.f (a0 : Int) (a1 : Int) : Option Int := some (Fl.out (double.sub (Fl.u a0) (Fl.u a1)))
theorem fix_FloSub.calls (a0 : Int) (a1 : Int) (r : Int) (w : World) (h : fix_FloSub.f a0 a1 = some r) : Calls Try.prog 24 #[.int .i64 a0, .int .i64 a1] w fun e w' => e = .returned (.int .i64 r) ∧ Drawn0 w w' := by
  obtain rfl := Option.some.inj h
  exact (Fl.flosub_calls a0 a1 w).mono fun _ _ ⟨he, hw⟩ => ⟨he, ⟨hw⟩⟩

def fix_FloMul.f (a0 : Int) (a1 : Int) : Option Int := some (Fl.out (double.mul (Fl.u a0) (Fl.u a1)))
theorem fix_FloMul.calls (a0 : Int) (a1 : Int) (r : Int) (w : World) (h : fix_FloMul.f a0 a1 = some r) : Calls Try.prog 31 #[.int .i64 a0, .int .i64 a1] w fun e w' => e = .returned (.int .i64 r) ∧ Drawn0 w w' := by
  obtain rfl := Option.some.inj h
  exact (Fl.flomul_calls a0 a1 w).mono fun _ _ ⟨he, hw⟩ => ⟨he, ⟨hw⟩⟩

def fix_FloDiv.f (a0 : Int) (a1 : Int) : Option Int := some (Fl.out (double.div (Fl.u a0) (Fl.u a1)))
theorem fix_FloDiv.calls (a0 : Int) (a1 : Int) (r : Int) (w : World) (h : fix_FloDiv.f a0 a1 = some r) : Calls Try.prog 33 #[.int .i64 a0, .int .i64 a1] w fun e w' => e = .returned (.int .i64 r) ∧ Drawn0 w w' := by
  obtain rfl := Option.some.inj h
  exact (Fl.flodiv_calls a0 a1 w).mono fun _ _ ⟨he, hw⟩ => ⟨he, ⟨hw⟩⟩

def fix_FloLess.f (a0 : Int) (a1 : Int) : Option Bool := some (Hf.less (Fl.u a0) (Fl.u a1))
theorem fix_FloLess.calls (a0 : Int) (a1 : Int) (r : Bool) (w : World) (h : fix_FloLess.f a0 a1 = some r) : Calls Try.prog 26 #[.int .i64 a0, .int .i64 a1] w fun e w' => e = .returned (.bool r) ∧ Drawn0 w w' := by
  obtain rfl := Option.some.inj h
  refine (Fl.floless_calls a0 a1 w).mono fun _ _ ⟨he, hw⟩ => ⟨?_, ⟨⟨0, hw⟩⟩⟩
  rw [he, Hf.less_spec]

def fix_ToFlo.f (a0 : Int) : Option Int := some (wrap64 (Fl.floOf a0))
theorem fix_ToFlo.calls (a0 : Int) (r : Int) (w : World) (h : fix_ToFlo.f a0 = some r) : Calls Try.prog 40 #[.int .i64 a0] w fun e w' => e = .returned (.int .i64 r) ∧ Drawn0 w w' := by
  obtain rfl := Option.some.inj h
  exact (Fl.toflo_calls a0 w).mono fun _ _ ⟨he, hw⟩ => ⟨he, ⟨hw⟩⟩

def fix_ToFix.f (a0 : Int) : Option (Int × Bool) := some (Fl.toFix (Fl.u a0))
theorem fix_ToFix.calls (a0 : Int) (r1 : Int) (r2 : Bool) (w : World) (h : fix_ToFix.f a0 = some (r1, r2)) : Calls Try.prog 43 #[.int .i64 a0] w fun e w' => e = .returned (.tuple #[.int .i64 r1, .bool r2]) ∧ Drawn0 w w' := by
  have h := Option.some.inj h
  have := Fl.tofix_calls a0 w
  rw [h] at this
  exact this.mono fun _ _ ⟨he, hw⟩ => ⟨he, ⟨hw⟩⟩

end Go.Proofs.Ytpjcheenihlagaa.PFixAll
