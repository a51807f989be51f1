/- What the statements' own small functions say of a pattern, in terms of its word. No conditions beyond those in each lemma. -/
import Derived.Test.YtpjcheenihlagaaAlg
import Derived.Test.YtpjcheenihlagaaBts
namespace Go.Proofs.Ytpjcheenihlagaa.Fl
open Go.RowKit Hf Ieee

theorem nearest_word (s : Bool) (m : Nat) (p : Int) : ∃ r, double.nearest s m p = double.word s r ∧ r < 9223372036854775808 := by
  have hI : INF = 9218868437227405312 := rfl
  unfold Format.nearest
  split
  · exact ⟨0, rfl, by omega⟩
  · exact ⟨_, rfl, by rw [double_inf]; omega⟩

theorem write_word (d : Datum) : ∃ s r, double.write d = double.word s r ∧ r < 9223372036854775808 := by
  have hI : INF = 9218868437227405312 := rfl
  cases d with
  | number s m p => obtain ⟨r, h, h2⟩ := nearest_word s m p; exact ⟨s, r, h, h2⟩
  | infinity s => exact ⟨s, INF, by simp only [Format.write, double_inf], by omega⟩
  | nan s f => exact ⟨s, _, rfl, by rw [double_inf, double_binade]; omega⟩

theorem word_lt (s : Bool) {r : Nat} (h : r < 9223372036854775808) : double.word s r < 18446744073709551616 := by
  rw [word_def]; cases s <;> simp <;> omega

/-- What an operation gives is a word. -/
def Good (o : Option Nat) : Prop := ∀ w, o = some w → rung w ≤ INF ∧ w < 18446744073709551616

theorem good_map {o : Option Datum} (h : ∀ w, o.map double.write = some w → rung w ≤ INF) : Good (o.map double.write) := by
  intro w hw
  refine ⟨h w hw, ?_⟩
  cases o with
  | none => cases hw
  | some d =>
    obtain ⟨s, r, h1, h2⟩ := write_word d
    obtain rfl := Option.some.inj hw
    rw [h1]; exact word_lt s h2
theorem good_add (x y : Nat) : Good (double.add x y) := good_map fun _ h => num_add h
theorem good_mul (x y : Nat) : Good (double.mul x y) := good_map fun _ h => num_mul h
theorem good_div (x y : Nat) : Good (double.div x y) := good_map fun _ h => num_div h

theorem u_xor {b : Int} (hb : Fits b) : u (Go.bits .xor .i64 b (-9223372036854775808)) = Hf.flip (u b) := by
  rw [xor_sign hb, u_pat _ (rung_lt _)]; rfl

theorem fits_xor {b : Int} (hb : Fits b) : Fits (Go.bits .xor .i64 b (-9223372036854775808)) := by
  rw [xor_sign hb]; exact pat_fits _ (rung_lt _)

theorem out_tell {b : Int} (hb : Fits b) : out (tell (u b)) = if rung (u b) ≤ INF then b else 9221120237041090561 := by
  by_cases c : rung (u b) ≤ INF
  · rw [if_pos c, tell_num c]; show wrap64 _ = _; rw [pat_word (rung_lt _), pat_self hb]
  · rw [if_neg c, tell_nan (by omega)]; rfl

theorem u_out_some {o : Option Nat} (h : Good o) {w : Nat} (hw : o = some w) : u (out o) = w := by
  subst hw; exact u_wrap (h w rfl).2

theorem fits_out (o : Option Nat) : Fits (out o) := by
  cases o with
  | none => show Fits 9221120237041090561; unfold Fits; omega
  | some w => exact fits_wrap _

/-- The pattern told of the other sign of an answer. -/
theorem told_flip {o : Option Nat} (h : Good o) : out (tell (u (Go.bits .xor .i64 (out o) (-9223372036854775808)))) = out (o.map Hf.flip) := by
  rw [u_xor (fits_out o)]
  cases o with
  | none => decide
  | some w =>
    rw [u_out_some h rfl, tell_num (by rw [rung_flip]; exact (h w rfl).1), sgn_flip, rung_flip]; rfl

theorem u_low (b : Int) : u (Go.bits .and .i64 b 9223372036854775807) = rung (u b) := by
  rw [and_low]
  have h1 := rung_lt (u b)
  have h2 := u_eq (rung (u b) : Int)
  omega

theorem sgn_rung (x : Nat) : sgn (rung x) = false := by
  have h := rung_lt x
  have := sgn_word false (rung x) h
  rw [word_def] at this; exact this
theorem rung_rung (x : Nat) : rung (rung x) = rung x := by
  unfold rung; omega

end Go.Proofs.Ytpjcheenihlagaa.Fl
