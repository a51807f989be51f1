/- What ToFlo, ToFix and the statements' alive come to: contracts. No conditions beyond those in each lemma. -/
import Derived.Test.YtpjcheenihlagaaFlt
import Derived.Test.YtpjcheenihlagaaMD
import Derived.Test.YtpjcheenihlagaaRx9
namespace Go.Proofs.Ytpjcheenihlagaa.Fl
open Go.RowKit Ieee
open Go.Proofs.Ytpjcheenihlagaa.PFixAll Go.Proofs.YtpjcheenihlagaaW.PrintWords Go.Proofs.YtpjcheenihlagaaW.PrintLast Go.Proofs.YtpjcheenihlagaaW.PrintMore

set_option exponentiation.threshold 2000

def Fits (a : Int) : Prop := -9223372036854775808 ≤ a ∧ a ≤ 9223372036854775807
theorem wrap_id {a : Int} (h : Fits a) : wrap64 a = a := by unfold Fits at h; unfold wrap64; omega
theorem fits_of_wf {a : Int} (h : (Lit.int .i64 a).wf = true) : Fits a := by
  simp only [Lit.wf, IntKind.min, IntKind.max, IntKind.signed, IntKind.bits, Bool.and_eq_true, decide_eq_true_eq, if_true] at h
  unfold Fits; omega
theorem fits_wrap (a : Int) : Fits (wrap64 a) := by unfold Fits wrap64; omega

/-- The fixnum that a number is. -/
def wrap61 (v : Int) : Int := (v + 1152921504606846976) % 2305843009213693952 - 1152921504606846976
theorem wrap61_bd (v : Int) : -1152921504606846976 ≤ wrap61 v ∧ wrap61 v ≤ 1152921504606846975 := by unfold wrap61; omega
theorem Wrap_f (v : Int) : fix_Wrap.f v = some (wrap61 v) := by
  unfold fix_Wrap.f wrap61 wrap64; congr 1; omega
theorem Fits_f (v : Int) : fix_Fits.f v = some (decide (-1152921504606846976 ≤ v ∧ v ≤ 1152921504606846975)) := by
  unfold fix_Fits.f
  split
  · congr 1; rw [Bool.eq_iff_iff]; simp only [decide_eq_true_eq]; omega
  · congr 1; rw [Bool.eq_iff_iff]; simp only [decide_eq_true_eq, Bool.false_eq_true, false_iff]; omega

theorem wrap_calls (v : Int) (w : World) : Calls Try.prog 28 #[.int .i64 v] w fun e w' => e = .returned (.int .i64 (wrap61 v)) ∧ Drw w w' :=
  (fix_Wrap.calls v (wrap61 v) w (Wrap_f v)).mono fun _ _ ⟨he, ⟨n, hw⟩⟩ => ⟨he, ⟨n, hw⟩⟩

/-- The word of a fixnum's float. -/
def floOf (v : Int) : Nat := FloatKind.f64.nearest (wrap61 v)
theorem num_floOf (v : Int) : Hf.rung (floOf v) ≤ Hf.INF := num_nearest _ _ _

theorem toflo_calls (v : Int) (w : World) : Calls Try.prog 40 #[.int .i64 v] w fun e w' => e = .returned (.int .i64 (wrap64 (floOf v))) ∧ Drw w w' := by
  have h36 := Try.underlying36
  have h3 := Try.underlying3
  have hcv : ∀ (n : Int) (w : World), (convert 3 36 (.int .i64 n)).run Try.prog w = .ok (.float .f64 (FloatKind.f64.nearest n)) w := fun n w =>
    run_convert_int_float w 3 36 .i64 .f64 n (by rw [h3]; rfl) h36
  go_enter Try.func40, Try.ntmps40
  go_wp2_with fail
  refine (wrap_calls v _).mono ?_
  rintro e w' ⟨rfl, n, rfl⟩
  go_wp2_with fail
  refine (bits_num (floOf v) (num_floOf v) _).mono ?_
  rintro e w' ⟨rfl, rfl⟩
  go_wp2_with fail
  go_ret
  exact ⟨rfl, ⟨n, rfl⟩⟩

/-- Does a word's number lie between -(1 << 61) and 1 << 61? -/
def inside (x : Nat) : Bool := Hf.less 14105274032924393472 x && Hf.less x 4881901996069617664
/-- What ToFix answers. -/
def toFix (x : Nat) : Int × Bool :=
  if inside x = true ∧ -1152921504606846976 ≤ Hf.trunc x ∧ Hf.trunc x ≤ 1152921504606846975 then (Hf.trunc x, true) else (0, false)

theorem rung_up : Hf.rung 4881901996069617664 = 4881901996069617664 := by decide
theorem rung_dn : Hf.rung 14105274032924393472 = 4881901996069617664 := by decide
theorem sgn_up : Hf.sgn 4881901996069617664 = false := by decide
theorem sgn_dn : Hf.sgn 14105274032924393472 = true := by decide
theorem V_61 : Hf.V 4881901996069617664 = 2 ^ 1135 := by
  rw [Hf.V_big (e := 1083) (f := 0) (by omega) (by omega), show (4503599627370496 + 0 : Nat) = 2 ^ 52 by decide, ← Nat.pow_add]

theorem inside_iff (x : Nat) : inside x = true ↔ Hf.rung x < 4881901996069617664 := by
  unfold inside Hf.less
  rw [rung_up, rung_dn]
  have e1 : Hf.SV 4881901996069617664 = ((Hf.V 4881901996069617664 : Nat) : Int) := by unfold Hf.SV; rw [sgn_up, rung_up]; rfl
  have e2 : Hf.SV 14105274032924393472 = -((Hf.V 4881901996069617664 : Nat) : Int) := by unfold Hf.SV; rw [sgn_dn, rung_dn]; rfl
  rw [e1, e2]
  have hI : Hf.INF = 9218868437227405312 := rfl
  have hm := Hf.V_lt_iff (a := Hf.rung x) (b := 4881901996069617664)
  have hz := Hf.SV_natAbs x
  simp only [Bool.and_eq_true, decide_eq_true_eq]
  generalize Hf.V 4881901996069617664 = v at *
  generalize Hf.V (Hf.rung x) = z at *
  constructor
  · rintro ⟨⟨_, _, h1⟩, _, _, h2⟩
    exact hm.1 (by omega)
  · intro h
    have := hm.2 h
    exact ⟨⟨by omega, by omega, by omega⟩, by omega, by omega, by omega⟩

theorem trunc_bd {x : Nat} (h : inside x = true) : -2305843009213693952 < Hf.trunc x ∧ Hf.trunc x < 2305843009213693952 := by
  have h1 := Hf.V_lt ((inside_iff x).1 h)
  rw [V_61] at h1
  have h2 : Hf.V (Hf.rung x) / 2 ^ 1074 < 2 ^ 61 := by
    rw [Nat.div_lt_iff_lt_mul (Nat.two_pow_pos _), ← Nat.pow_add]; exact h1
  unfold Hf.trunc
  split <;> omega

theorem toint_some {x : Nat} (h : inside x = true) : floatToIntVal .f64 x .i64 = some (Hf.trunc x) := by
  have hr := (inside_iff x).1 h
  have hb := trunc_bd h
  have hI : Hf.INF = 9218868437227405312 := rfl
  have : (FloatKind.f64.decode x).toInt .zero = some (Hf.trunc x) := Hf.toInt_spec x (by omega)
  unfold floatToIntVal
  rw [this]
  simp only [IntKind.min, IntKind.max, IntKind.signed, IntKind.bits, if_true]
  rw [if_pos]
  constructor <;> simp <;> omega

theorem tofix_calls (b : Int) (w : World) : Calls Try.prog 43 #[.int .i64 b] w fun e w' => e = .returned (.tuple #[.int .i64 (toFix (u b)).1, .bool (toFix (u b)).2]) ∧ Drw w w' := by
  have g1 : ∀ (t : TypeId), binOp .gtr t (.float .f64 (u b)) (.float .f64 14105274032924393472) = pure (.bool (Hf.less 14105274032924393472 (u b))) := fun t => by
    rw [binOp_float_cmp_gtr]; exact congrArg (fun z => pure (Value.bool z)) (Hf.gt_spec _ _)
  have g2 : ∀ (t : TypeId), binOp .lss t (.float .f64 (u b)) (.float .f64 4881901996069617664) = pure (.bool (Hf.less (u b) 4881901996069617664)) := fun t => by
    rw [binOp_float_cmp_lss]; exact congrArg (fun z => pure (Value.bool z)) (Hf.less_spec _ _)
  cases c1 : Hf.less 14105274032924393472 (u b) with
  | false =>
    have e : toFix (u b) = (0, false) := by unfold toFix inside; rw [c1]; simp
    rw [e]; rw [c1] at g1; clear g2 c1 e
    go_enter Try.func43, Try.ntmps43
    go_wp2_with fail
    refine (float_calls b _).mono ?_
    rintro e w' ⟨rfl, rfl⟩
    go_wp2_with fail
    go_ret2
    exact ⟨rfl, Drw.refl _⟩
  | true =>
    cases c2 : Hf.less (u b) 4881901996069617664 with
    | false =>
      have e : toFix (u b) = (0, false) := by unfold toFix inside; rw [c1, c2]; simp
      rw [e]; rw [c1] at g1; rw [c2] at g2; clear c1 c2 e
      go_enter Try.func43, Try.ntmps43
      go_wp2_with fail
      refine (float_calls b _).mono ?_
      rintro e w' ⟨rfl, rfl⟩
      go_wp2_with fail
      go_ret2
      exact ⟨rfl, Drw.refl _⟩
    | true =>
      have hin : inside (u b) = true := by unfold inside; rw [c1, c2]; rfl
      have hcv : ∀ (w : World), (convert 36 3 (.float .f64 (u b))).run Try.prog w = .ok (.int .i64 (Hf.trunc (u b))) w := fun w =>
        run_convert_float_int w 36 3 .f64 .i64 (u b) (Hf.trunc (u b)) (by rw [Try.underlying36]; rfl) Try.underlying3 (toint_some hin)
      by_cases hf : -1152921504606846976 ≤ Hf.trunc (u b) ∧ Hf.trunc (u b) ≤ 1152921504606846975
      · have e : toFix (u b) = (Hf.trunc (u b), true) := by unfold toFix; rw [if_pos ⟨hin, hf⟩]
        have hF := Fits_f (Hf.trunc (u b))
        rw [decide_eq_true hf] at hF
        rw [e]; rw [c1] at g1; rw [c2] at g2; clear c1 c2 e hf hin
        generalize Hf.trunc (u b) = n at *
        go_enter Try.func43, Try.ntmps43
        go_wp2_with fail
        refine (float_calls b _).mono ?_
        rintro e w' ⟨rfl, rfl⟩
        go_wp2_with fail
        refine (fix_Fits.calls n true _ hF).mono ?_
        rintro e w' ⟨rfl, ⟨k, rfl⟩⟩
        go_wp2_with fail
        go_ret2
        exact ⟨rfl, ⟨k, rfl⟩⟩
      · have e : toFix (u b) = (0, false) := by unfold toFix; rw [if_neg (fun q => hf q.2)]
        have hF := Fits_f (Hf.trunc (u b))
        rw [decide_eq_false hf] at hF
        rw [e]; rw [c1] at g1; rw [c2] at g2; clear c1 c2 e hf hin
        generalize Hf.trunc (u b) = n at *
        go_enter Try.func43, Try.ntmps43
        go_wp2_with fail
        refine (float_calls b _).mono ?_
        rintro e w' ⟨rfl, rfl⟩
        go_wp2_with fail
        refine (fix_Fits.calls n false _ hF).mono ?_
        rintro e w' ⟨rfl, ⟨k, rfl⟩⟩
        go_wp2_with fail
        go_ret2
        exact ⟨rfl, ⟨k, rfl⟩⟩

/-! ### Sums, differences, products of whole numbers -/
theorem Add_f (a b : Int) : fix_Add.f a b = some (wrap61 (a + b)) := by
  unfold fix_Add.f; rw [Wrap_f]; simp only [Option.bind_some]
  congr 1; unfold wrap61 wrap64; omega
theorem wrap61_mod (a b : Int) (h : a % 2305843009213693952 = b % 2305843009213693952) : wrap61 a = wrap61 b := by unfold wrap61; omega
theorem Mul_f (a b : Int) : fix_Mul.f a b = some (wrap61 (a * b)) := by
  unfold fix_Mul.f; rw [Wrap_f]; simp only [Option.bind_some]
  congr 1; unfold wrap61 wrap64; generalize a * b = c; omega

theorem add_calls (a b : Int) (w : World) : Calls Try.prog 35 #[.int .i64 a, .int .i64 b] w fun e w' => e = .returned (.int .i64 (wrap61 (a + b))) ∧ Drw w w' :=
  (fix_Add.calls a b _ w (Add_f a b)).mono fun _ _ ⟨he, ⟨n, hw⟩⟩ => ⟨he, ⟨n, hw⟩⟩
theorem mul_calls (a b : Int) (w : World) : Calls Try.prog 36 #[.int .i64 a, .int .i64 b] w fun e w' => e = .returned (.int .i64 (wrap61 (a * b))) ∧ Drw w w' :=
  (fix_Mul.calls a b _ w (Mul_f a b)).mono fun _ _ ⟨he, ⟨n, hw⟩⟩ => ⟨he, ⟨n, hw⟩⟩

theorem three : out (double.add (u 4607182418800017408) (u 4611686018427387904)) = 4613937818241073152 := by decide +kernel

theorem alive_calls (w : World) : Calls Try.prog 19 #[] w fun e w' => e = .returned (.bool true) ∧ Drw w w' := by
  have h1 : wrap61 (1152921504606846975 + 1) = -1152921504606846976 := by decide
  have h2 : wrap61 (3 * 5) = 15 := by decide
  have c1 := add_calls 1152921504606846975 1
  have c2 := mul_calls 3 5
  have c3 := floadd_calls 4607182418800017408 4611686018427387904
  rw [h1] at c1
  rw [h2] at c2
  rw [three] at c3
  clear h1 h2
  go_enter Try.func19, Try.ntmps19
  go_wp2_with fail
  refine (c1 _).mono ?_
  rintro e w' ⟨rfl, n1, rfl⟩
  go_wp2_with fail
  refine (c2 _).mono ?_
  rintro e w' ⟨rfl, n2, rfl⟩
  go_wp2_with fail
  refine (c3 _).mono ?_
  rintro e w' ⟨rfl, n3, rfl⟩
  go_wp2_with fail
  go_ret
  exact ⟨rfl, ⟨n1 + n2 + n3, by simp⟩⟩

end Go.Proofs.Ytpjcheenihlagaa.Fl
