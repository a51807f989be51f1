/- What the functions of package fix that reckon with floats come to: contracts of Float, Bits, FloAdd, FloSub, FloMul, FloDiv, FloLess. No conditions beyond those in each lemma. -/
import Derived.Test.YtpjcheenihlagaaRx1
import Derived.Test.YtpjcheenihlagaaMC
import Derived.Laws.Externs
import Derived.Laws.FloatArith
import Derived.WalkLawsBesides
namespace Go.Proofs.Ytpjcheenihlagaa.Fl
open Go.RowKit Ieee
open Go.Proofs.YtpjcheenihlagaaW.PrintWords Go.Proofs.YtpjcheenihlagaaW.PrintLast Go.Proofs.YtpjcheenihlagaaW.PrintMore

/-- A pattern's word. -/
def u (a : Int) : Nat := (IntKind.u64.wrap a).toNat

theorem frombits (n : Int) (w : World) : (callFunc 67 #[.int .u64 n]).run Try.prog w = .ok (.value (.float .f64 n.toNat)) w := by
  rw [run_callFunc_extern (e := Extern.MathFloatBits.float64frombits) Try.func67 (by kernel_rfl) (by kernel_rfl) (by kernel_rfl) (by kernel_rfl)]
  rfl
theorem tobits (n : Nat) (w : World) : (callFunc 68 #[.float .f64 n]).run Try.prog w = .ok (.value (.int .u64 n)) w := by
  rw [run_callFunc_extern (e := Extern.MathFloatBits.float64bits) Try.func68 (by kernel_rfl) (by kernel_rfl) (by kernel_rfl) (by kernel_rfl)]
  rfl

theorem float_calls (a : Int) (w : World) : Calls Try.prog 48 #[.int .i64 a] w fun e w' => e = .returned (.float .f64 (u a)) ∧ w' = w := by
  have h67 := frombits
  go_enter Try.func48, Try.ntmps48
  go_wp2
  go_ret
  exact ⟨rfl, rfl⟩

/-- How the order of a word with itself goes. -/
theorem order_self_num (b : Nat) (h : Hf.rung b ≤ Hf.INF) : FloatKind.f64.format.order b b = some .eq := by
  show double.order b b = some .eq
  unfold Format.order
  by_cases c : Hf.rung b < Hf.INF
  · obtain ⟨m, e, h1, _, _⟩ := Hf.read_finite b c
    rw [h1]
    simp [Datum.order]
  · rw [Hf.read_inf b (by omega)]
    simp [Datum.order]
theorem order_self_nan (b : Nat) (h : Hf.INF < Hf.rung b) : FloatKind.f64.format.order b b = none := by
  show double.order b b = none
  unfold Format.order
  rw [Hf.read_nan b h]; rfl

theorem bits_num (b : Nat) (h : Hf.rung b ≤ Hf.INF) (w : World) : Calls Try.prog 49 #[.float .f64 b] w fun e w' => e = .returned (.int .i64 (wrap64 b)) ∧ w' = w := by
  have h68 := tobits
  have ho : ∀ (t : TypeId), binOp .neq t (.float .f64 b) (.float .f64 b) = pure (.bool false) := fun t => by
    rw [binOp_float_cmp_neq, order_self_num b h]; rfl
  go_enter Try.func49, Try.ntmps49
  go_wp2
  go_ret
  exact ⟨rfl, rfl⟩

theorem bits_nan (b : Nat) (h : Hf.INF < Hf.rung b) (w : World) : Calls Try.prog 49 #[.float .f64 b] w fun e w' => e = .returned (.int .i64 9221120237041090561) ∧ w' = w := by
  have h68 := tobits
  have ho : ∀ (t : TypeId), binOp .neq t (.float .f64 b) (.float .f64 b) = pure (.bool true) := fun t => by
    rw [binOp_float_cmp_neq, order_self_nan b h]; rfl
  go_enter Try.func49, Try.ntmps49
  go_wp2
  go_ret
  exact ⟨rfl, rfl⟩

/-- The word that the model draws where an operation has no answer. -/
def nanOf (w : World) (x y : Nat) : Nat := Question.cut (.nanBits .f64 x y) (w.tape w.drawn (.nanBits .f64 x y))
theorem nanOf_rung (w : World) (x y : Nat) : Hf.INF < Hf.rung (nanOf w x y) := by
  have h : nanOf w x y = (w.tape w.drawn (.nanBits .f64 x y)) % 2 * 2 ^ 63 + 0x7ff0000000000000 + 1 + (w.tape w.drawn (.nanBits .f64 x y) / 2) % (2 ^ 52 - 1) := rfl
  have hI : Hf.INF = 9218868437227405312 := rfl
  rw [h, hI]; unfold Hf.rung
  generalize w.tape w.drawn (.nanBits .f64 x y) = t
  clear h hI
  have h1 : (t / 2) % (2 ^ 52 - 1) < 2 ^ 52 - 1 := Nat.mod_lt _ (by omega)
  generalize (t / 2) % (2 ^ 52 - 1) = z at *
  have h2 : t % 2 = 0 ∨ t % 2 = 1 := by omega
  rcases h2 with h2 | h2 <;> rw [h2] <;> omega

/-- What such a function answers, of the word that the operation gives, if it gives one. -/
def out : Option Nat → Int
  | some r => wrap64 r
  | none => 9221120237041090561

theorem num_word (s : Bool) (r : Nat) (h : r ≤ Hf.INF) : Hf.rung (double.word s r) ≤ Hf.INF := by
  have hI : Hf.INF = 9218868437227405312 := rfl
  rw [Hf.rung_word s r (by omega)]; exact h

theorem num_nearest (s : Bool) (m : Nat) (p : Int) : Hf.rung (double.nearest s m p) ≤ Hf.INF := by
  unfold Format.nearest
  split
  · exact num_word _ _ (Nat.zero_le _)
  · exact num_word _ _ (by rw [Hf.double_inf]; exact Nat.min_le_right ..)

theorem num_write {d : Datum} (h : d.isNaN = false) : Hf.rung (double.write d) ≤ Hf.INF := by
  cases d with
  | number s m p => exact num_nearest s m p
  | infinity s => exact num_word _ _ (by rw [Hf.double_inf]; exact Nat.le_refl _)
  | nan s f => cases h

theorem num_add {x y r : Nat} (h : double.add x y = some r) : Hf.rung r ≤ Hf.INF := by
  unfold Format.add at h
  cases hd : (double.read x).sum (double.read y) with
  | none => rw [hd] at h; cases h
  | some d =>
    rw [hd] at h; cases h
    apply num_write
    revert hd
    cases double.read x <;> cases double.read y <;> simp only [Datum.sum, reduceCtorEq, false_implies, Option.some.injEq] <;>
      first
        | (rintro rfl; rfl)
        | (split <;> first | (rintro h; cases h; rfl) | (intro h; cases h))
theorem num_sub {x y r : Nat} (h : double.sub x y = some r) : Hf.rung r ≤ Hf.INF := by
  rw [Hf.sub_flip] at h; exact num_add h
theorem num_mul {x y r : Nat} (h : double.mul x y = some r) : Hf.rung r ≤ Hf.INF := by
  unfold Format.mul at h
  cases hd : (double.read x).product (double.read y) with
  | none => rw [hd] at h; cases h
  | some d =>
    rw [hd] at h; cases h
    apply num_write
    revert hd
    cases double.read x <;> cases double.read y <;> simp only [Datum.product, reduceCtorEq, false_implies, Option.some.injEq] <;>
      first
        | (rintro rfl; rfl)
        | (split <;> first | (rintro h; cases h; rfl) | (intro h; cases h))
theorem num_div {x y r : Nat} (h : double.div x y = some r) : Hf.rung r ≤ Hf.INF := by
  unfold Format.div at h
  cases hd : (double.read x).quotient (double.fractionBits + 2) (double.read y) with
  | none => rw [hd] at h; cases h
  | some d =>
    rw [hd] at h; cases h
    apply num_write
    revert hd
    cases double.read x <;> cases double.read y <;> simp only [Datum.quotient, reduceCtorEq, false_implies, Option.some.injEq] <;>
      first
        | (rintro rfl; rfl)
        | (repeat' split) <;> first | (rintro h; cases h; rfl) | (intro h; cases h)

/-- 'Drawn': what a call that at most draws leaves. -/
def Drw (w w' : World) : Prop := ∃ n, w' = w.drewN n
theorem Drw.refl (w : World) : Drw w w := ⟨0, rfl⟩

theorem run_add_some (x y r : Nat) (h : double.add x y = some r) (t : TypeId) (w : World) : (binOp .add t (.float .f64 x) (.float .f64 y)).run Try.prog w = .ok (.float .f64 r) w :=
  run_float_arith w .add t .f64 x y r h
theorem run_add_none (x y : Nat) (h : double.add x y = none) (t : TypeId) (w : World) : (binOp .add t (.float .f64 x) (.float .f64 y)).run Try.prog w = .ok (.float .f64 (nanOf w x y)) w.drew := by
  have h' : FloatKind.f64.format.add x y = none := h
  simp [binOp, Op.floatArith, h', choose, Sem.run, nanOf]
  intro hf; cases hf
theorem floadd_calls (a b : Int) (w : World) : Calls Try.prog 22 #[.int .i64 a, .int .i64 b] w fun e w' => e = .returned (.int .i64 (out (double.add (u a) (u b)))) ∧ Drw w w' := by
  cases h : double.add (u a) (u b) with
  | some r =>
    have hop := run_add_some (u a) (u b) r h
    have hr := num_add h
    go_enter Try.func22, Try.ntmps22
    go_wp2_with fail
    refine (float_calls a _).mono ?_
    rintro e w' ⟨rfl, rfl⟩
    go_wp2_with fail
    refine (float_calls b _).mono ?_
    rintro e w' ⟨rfl, rfl⟩
    go_wp2_with fail
    refine (bits_num r hr _).mono ?_
    rintro e w' ⟨rfl, rfl⟩
    go_wp2_with fail
    go_ret
    exact ⟨rfl, Drw.refl _⟩
  | none =>
    have hop := run_add_none (u a) (u b) h
    go_enter Try.func22, Try.ntmps22
    go_wp2_with fail
    refine (float_calls a _).mono ?_
    rintro e w' ⟨rfl, rfl⟩
    go_wp2_with fail
    refine (float_calls b _).mono ?_
    rintro e w' ⟨rfl, rfl⟩
    go_wp2_with fail
    refine (bits_nan _ (nanOf_rung _ _ _) _).mono ?_
    rintro e w' ⟨rfl, rfl⟩
    go_wp2_with fail
    go_ret
    exact ⟨rfl, ⟨1, rfl⟩⟩

theorem run_sub_some (x y r : Nat) (h : double.sub x y = some r) (t : TypeId) (w : World) : (binOp .sub t (.float .f64 x) (.float .f64 y)).run Try.prog w = .ok (.float .f64 r) w :=
  run_float_arith w .sub t .f64 x y r h
theorem run_sub_none (x y : Nat) (h : double.sub x y = none) (t : TypeId) (w : World) : (binOp .sub t (.float .f64 x) (.float .f64 y)).run Try.prog w = .ok (.float .f64 (nanOf w x y)) w.drew := by
  have h' : FloatKind.f64.format.sub x y = none := h
  simp [binOp, Op.floatArith, h', choose, Sem.run, nanOf]
  intro hf; cases hf
theorem flosub_calls (a b : Int) (w : World) : Calls Try.prog 24 #[.int .i64 a, .int .i64 b] w fun e w' => e = .returned (.int .i64 (out (double.sub (u a) (u b)))) ∧ Drw w w' := by
  cases h : double.sub (u a) (u b) with
  | some r =>
    have hop := run_sub_some (u a) (u b) r h
    have hr := num_sub h
    go_enter Try.func24, Try.ntmps24
    go_wp2_with fail
    refine (float_calls a _).mono ?_
    rintro e w' ⟨rfl, rfl⟩
    go_wp2_with fail
    refine (float_calls b _).mono ?_
    rintro e w' ⟨rfl, rfl⟩
    go_wp2_with fail
    refine (bits_num r hr _).mono ?_
    rintro e w' ⟨rfl, rfl⟩
    go_wp2_with fail
    go_ret
    exact ⟨rfl, Drw.refl _⟩
  | none =>
    have hop := run_sub_none (u a) (u b) h
    go_enter Try.func24, Try.ntmps24
    go_wp2_with fail
    refine (float_calls a _).mono ?_
    rintro e w' ⟨rfl, rfl⟩
    go_wp2_with fail
    refine (float_calls b _).mono ?_
    rintro e w' ⟨rfl, rfl⟩
    go_wp2_with fail
    refine (bits_nan _ (nanOf_rung _ _ _) _).mono ?_
    rintro e w' ⟨rfl, rfl⟩
    go_wp2_with fail
    go_ret
    exact ⟨rfl, ⟨1, rfl⟩⟩

theorem run_mul_some (x y r : Nat) (h : double.mul x y = some r) (t : TypeId) (w : World) : (binOp .mul t (.float .f64 x) (.float .f64 y)).run Try.prog w = .ok (.float .f64 r) w :=
  run_float_arith w .mul t .f64 x y r h
theorem run_mul_none (x y : Nat) (h : double.mul x y = none) (t : TypeId) (w : World) : (binOp .mul t (.float .f64 x) (.float .f64 y)).run Try.prog w = .ok (.float .f64 (nanOf w x y)) w.drew := by
  have h' : FloatKind.f64.format.mul x y = none := h
  simp [binOp, Op.floatArith, h', choose, Sem.run, nanOf]
  intro hf; cases hf
theorem flomul_calls (a b : Int) (w : World) : Calls Try.prog 31 #[.int .i64 a, .int .i64 b] w fun e w' => e = .returned (.int .i64 (out (double.mul (u a) (u b)))) ∧ Drw w w' := by
  cases h : double.mul (u a) (u b) with
  | some r =>
    have hop := run_mul_some (u a) (u b) r h
    have hr := num_mul h
    go_enter Try.func31, Try.ntmps31
    go_wp2_with fail
    refine (float_calls a _).mono ?_
    rintro e w' ⟨rfl, rfl⟩
    go_wp2_with fail
    refine (float_calls b _).mono ?_
    rintro e w' ⟨rfl, rfl⟩
    go_wp2_with fail
    refine (bits_num r hr _).mono ?_
    rintro e w' ⟨rfl, rfl⟩
    go_wp2_with fail
    go_ret
    exact ⟨rfl, Drw.refl _⟩
  | none =>
    have hop := run_mul_none (u a) (u b) h
    go_enter Try.func31, Try.ntmps31
    go_wp2_with fail
    refine (float_calls a _).mono ?_
    rintro e w' ⟨rfl, rfl⟩
    go_wp2_with fail
    refine (float_calls b _).mono ?_
    rintro e w' ⟨rfl, rfl⟩
    go_wp2_with fail
    refine (bits_nan _ (nanOf_rung _ _ _) _).mono ?_
    rintro e w' ⟨rfl, rfl⟩
    go_wp2_with fail
    go_ret
    exact ⟨rfl, ⟨1, rfl⟩⟩

theorem run_div_some (x y r : Nat) (h : double.div x y = some r) (t : TypeId) (w : World) : (binOp .quo t (.float .f64 x) (.float .f64 y)).run Try.prog w = .ok (.float .f64 r) w :=
  run_float_arith w .quo t .f64 x y r h
theorem run_div_none (x y : Nat) (h : double.div x y = none) (t : TypeId) (w : World) : (binOp .quo t (.float .f64 x) (.float .f64 y)).run Try.prog w = .ok (.float .f64 (nanOf w x y)) w.drew := by
  have h' : FloatKind.f64.format.div x y = none := h
  simp [binOp, Op.floatArith, h', choose, Sem.run, nanOf]
  intro hf; cases hf
theorem flodiv_calls (a b : Int) (w : World) : Calls Try.prog 33 #[.int .i64 a, .int .i64 b] w fun e w' => e = .returned (.int .i64 (out (double.div (u a) (u b)))) ∧ Drw w w' := by
  cases h : double.div (u a) (u b) with
  | some r =>
    have hop := run_div_some (u a) (u b) r h
    have hr := num_div h
    go_enter Try.func33, Try.ntmps33
    go_wp2_with fail
    refine (float_calls a _).mono ?_
    rintro e w' ⟨rfl, rfl⟩
    go_wp2_with fail
    refine (float_calls b _).mono ?_
    rintro e w' ⟨rfl, rfl⟩
    go_wp2_with fail
    refine (bits_num r hr _).mono ?_
    rintro e w' ⟨rfl, rfl⟩
    go_wp2_with fail
    go_ret
    exact ⟨rfl, Drw.refl _⟩
  | none =>
    have hop := run_div_none (u a) (u b) h
    go_enter Try.func33, Try.ntmps33
    go_wp2_with fail
    refine (float_calls a _).mono ?_
    rintro e w' ⟨rfl, rfl⟩
    go_wp2_with fail
    refine (float_calls b _).mono ?_
    rintro e w' ⟨rfl, rfl⟩
    go_wp2_with fail
    refine (bits_nan _ (nanOf_rung _ _ _) _).mono ?_
    rintro e w' ⟨rfl, rfl⟩
    go_wp2_with fail
    go_ret
    exact ⟨rfl, ⟨1, rfl⟩⟩

theorem floless_calls (a b : Int) (w : World) : Calls Try.prog 26 #[.int .i64 a, .int .i64 b] w fun e w' => e = .returned (.bool (double.order (u a) (u b) == some .lt)) ∧ w' = w := by
  have ho : ∀ (t : TypeId), binOp .lss t (.float .f64 (u a)) (.float .f64 (u b)) = pure (.bool (double.order (u a) (u b) == some .lt)) := fun t => binOp_float_cmp_lss t .f64 _ _
  go_enter Try.func26, Try.ntmps26
  go_wp2_with fail
  refine (float_calls a _).mono ?_
  rintro e w' ⟨rfl, rfl⟩
  go_wp2_with fail
  refine (float_calls b _).mono ?_
  rintro e w' ⟨rfl, rfl⟩
  go_wp2_with fail
  go_ret
  exact ⟨rfl, rfl⟩

end Go.Proofs.Ytpjcheenihlagaa.Fl
