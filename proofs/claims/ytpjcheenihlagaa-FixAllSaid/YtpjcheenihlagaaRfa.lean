/- What the reference's Parts, Wrap, Fits and Canon come to (plain arithmetic). No conditions beyond those in each lemma. -/
import Derived.Test.YtpjcheenihlagaaFlu
import Derived.Test.YtpjcheenihlagaaRx10
namespace Go.Proofs.Ytpjcheenihlagaa.Fl
open Go.RowKit Ieee
open Go.Proofs.Ytpjcheenihlagaa.PFixAll Go.Proofs.YtpjcheenihlagaaW.PrintWords Go.Proofs.YtpjcheenihlagaaW.PrintLast Go.Proofs.YtpjcheenihlagaaW.PrintMore

/-! ### Patterns and words -/
theorem u_eq (b : Int) : (u b : Int) = b % 18446744073709551616 := by
  unfold u; rw [IntKind.wrap_u64]; omega
theorem u_lt (b : Int) : u b < 18446744073709551616 := by have := u_eq b; omega
theorem rung_u {b : Int} (h : Fits b) : (Hf.rung (u b) : Int) = if b < 0 then b + 9223372036854775808 else b := by
  have := u_eq b
  unfold Fits at h; unfold Hf.rung
  split <;> omega
theorem sgn_u {b : Int} (h : Fits b) : Hf.sgn (u b) = decide (b < 0) := by
  have := u_eq b
  unfold Fits at h; unfold Hf.sgn
  rw [Bool.eq_iff_iff]
  simp only [beq_iff_eq, decide_eq_true_eq]
  omega
theorem wrap_u {b : Int} (h : Fits b) : wrap64 (u b) = b := by
  have := u_eq b
  unfold Fits at h; unfold wrap64; omega
/-- The pattern of a sign and a rung. -/
def pat (s : Bool) (r : Nat) : Int := if s then (r : Int) - 9223372036854775808 else r
theorem pat_word {s : Bool} {r : Nat} (h : r < 9223372036854775808) : wrap64 (double.word s r) = pat s r := by
  rw [Hf.word_def]; unfold pat wrap64
  cases s
  · simp only [Bool.false_eq_true, if_false]; omega
  · simp only [if_true]; omega
theorem pat_self {b : Int} (h : Fits b) : pat (Hf.sgn (u b)) (Hf.rung (u b)) = b := by
  have h1 := rung_u h
  rw [sgn_u h]; unfold pat
  by_cases c : b < 0
  · rw [if_pos c] at h1; rw [decide_eq_true c, if_pos rfl]; omega
  · rw [if_neg c] at h1; rw [decide_eq_false c, if_neg (by decide)]; omega
theorem pat_fits (s : Bool) {r : Nat} (h : r < 9223372036854775808) : Fits (pat s r) := by
  unfold pat Fits; cases s <;> simp <;> omega
theorem u_pat (s : Bool) {r : Nat} (h : r < 9223372036854775808) : u (pat s r) = double.word s r := by
  have := u_eq (pat s r)
  rw [Hf.word_def]
  unfold pat at *
  cases s
  · simp only [Bool.false_eq_true, if_false] at *; omega
  · simp only [if_true] at *; omega
theorem u_wrap {x : Nat} (h : x < 18446744073709551616) : u (wrap64 x) = x := by
  have := u_eq (wrap64 x); unfold wrap64 at *; omega

/-! ### Parts -/
/-- What Parts tells of a sign and a rung. -/
def partsOf (s : Bool) (r : Nat) : Bool × Bool × Bool × Int × Int :=
  if r = Hf.INF then (s, true, false, 0, 0)
  else if Hf.INF < r then (s, false, true, 0, 0)
  else if r < 4503599627370496 then (s, false, false, r, -1074)
  else (s, false, false, 4503599627370496 + ((r % 4503599627370496 : Nat) : Int), ((r / 4503599627370496 - 1 : Nat) : Int) - 1074)

theorem parts_inf {s : Bool} {r : Nat} (h : r = Hf.INF) : partsOf s r = (s, true, false, 0, 0) := by unfold partsOf; rw [if_pos h]
theorem parts_nan {s : Bool} {r : Nat} (h : Hf.INF < r) : partsOf s r = (s, false, true, 0, 0) := by
  unfold partsOf; rw [if_neg (by omega), if_pos h]
theorem parts_small {s : Bool} {r : Nat} (h : r < 4503599627370496) : partsOf s r = (s, false, false, (r : Int), -1074) := by
  have hI : Hf.INF = 9218868437227405312 := rfl
  unfold partsOf; rw [if_neg (by omega), if_neg (by omega), if_pos h]
theorem parts_big {s : Bool} {r : Nat} (h : ¬ r < 4503599627370496) (h2 : r < Hf.INF) : partsOf s r = (s, false, false, 4503599627370496 + ((r % 4503599627370496 : Nat) : Int), ((r / 4503599627370496 - 1 : Nat) : Int) - 1074) := by
  unfold partsOf; rw [if_neg (by omega), if_neg (by omega), if_neg h]

theorem parts_j (k : Nat) (s : Bool) (r : Nat) (hr : r < 9223372036854775808) : hearthref1_Parts.j0 (k + 2) r s false false 0 0 = some (partsOf s r) := by
  have hI : Hf.INF = 9218868437227405312 := rfl
  have t1 : wrap64 (Int.tdiv (r : Int) 4503599627370496) = ((r / 4503599627370496 : Nat) : Int) := by
    rw [Int.tdiv_eq_ediv_of_nonneg (by omega), wrap_id (by unfold Fits; omega)]; omega
  have t2 : Int.tmod (r : Int) 4503599627370496 = ((r % 4503599627370496 : Nat) : Int) := by
    rw [Int.tmod_eq_emod_of_nonneg (by omega)]; omega
  simp only [hearthref1_Parts.j0]
  rw [t1, t2]
  by_cases c : ((r / 4503599627370496 : Nat) : Int) = 2047
  · rw [if_pos c]
    simp only [hearthref1_Parts.j1]
    by_cases c0 : ((r % 4503599627370496 : Nat) : Int) = 0
    · rw [if_pos (by simpa using c0), parts_inf (by omega)]
    · rw [if_neg (by simpa using c0), if_pos c, parts_nan (by omega)]
  · rw [if_neg c]
    simp only [hearthref1_Parts.j1, Bool.false_eq_true, if_false]
    rw [if_neg c]
    by_cases c2 : ((r / 4503599627370496 : Nat) : Int) = 0
    · rw [if_pos c2, parts_small (by omega), show ((r % 4503599627370496 : Nat) : Int) = (r : Int) by omega]
    · rw [if_neg c2, parts_big (by omega) (by omega)]
      have e1 : wrap64 (((r % 4503599627370496 : Nat) : Int) + 4503599627370496) = 4503599627370496 + ((r % 4503599627370496 : Nat) : Int) := by
        rw [wrap_id (by unfold Fits; omega)]; omega
      have e2 : wrap64 (wrap64 (((r / 4503599627370496 : Nat) : Int) - 1) + -1074) = ((r / 4503599627370496 - 1 : Nat) : Int) - 1074 := by
        rw [wrap_id (a := ((r / 4503599627370496 : Nat) : Int) - 1) (by unfold Fits; omega), wrap_id (by unfold Fits; omega)]; omega
      rw [e1, e2]

theorem parts_none (s : Bool) (r : Nat) : (partsOf s r).2.2.1 = decide (Hf.INF < r) := by
  by_cases c : r = Hf.INF
  · rw [parts_inf c]; symm; simp; omega
  · by_cases c2 : Hf.INF < r
    · rw [parts_nan c2]; symm; simpa using c2
    · by_cases c3 : r < 4503599627370496
      · rw [parts_small c3]; symm; simpa using c2
      · rw [parts_big c3 (by omega)]; symm; simpa using c2

theorem parts_f (k : Nat) (hk : 2 ≤ k) {b : Int} (hb : Fits b) : hearthref1_Parts.f k b = some (partsOf (Hf.sgn (u b)) (Hf.rung (u b))) := by
  obtain ⟨k, rfl⟩ : ∃ m, k = m + 2 := ⟨k - 2, by omega⟩
  have h1 := rung_u hb
  have h2 := Hf.rung_lt (u b)
  unfold hearthref1_Parts.f
  by_cases c : b < 0
  · rw [if_pos c] at h1
    rw [if_pos c, ← sgn_u hb]
    have : wrap64 (b - -9223372036854775808) = (Hf.rung (u b) : Int) := by
      unfold Fits at hb; rw [wrap_id (by unfold Fits; omega)]; omega
    rw [this]; exact parts_j k _ _ h2
  · rw [if_neg c] at h1
    rw [if_neg c, ← sgn_u hb]
    have := parts_j k (Hf.sgn (u b)) _ h2
    rw [h1] at this; exact this

theorem rWrap_f {v : Int} (h : Fits v) : hearthref1_Wrap.f v = some (wrap61 v) := by
  unfold Fits at h
  unfold hearthref1_Wrap.f
  by_cases h0 : 0 ≤ v
  · have t : Int.tmod v 2305843009213693952 = v % 2305843009213693952 := Int.tmod_eq_emod_of_nonneg h0
    rw [t]
    unfold wrap61 wrap64
    repeat' split
    all_goals first | (congr 1; omega) | (exfalso; omega)
  · have t : Int.tmod v 2305843009213693952 = -((-v) % 2305843009213693952) := by
      have := Int.neg_tmod (a := -v) (b := 2305843009213693952)
      rw [Int.neg_neg] at this
      rw [this, Int.tmod_eq_emod_of_nonneg (by omega)]
    rw [t]
    unfold wrap61 wrap64
    repeat' split
    all_goals first | (congr 1; omega) | (exfalso; omega)

theorem rFits_f (v : Int) : hearthref1_Fits.f v = some (decide (-1152921504606846976 ≤ v ∧ v ≤ 1152921504606846975)) := Fits_f v

theorem canon_f (k : Nat) (hk : 2 ≤ k) {b : Int} (hb : Fits b) : hearthref1_Canon.f k b = some (if Hf.rung (u b) ≤ Hf.INF then b else 9221120237041090561) := by
  unfold hearthref1_Canon.f
  rw [parts_f k hk hb]; simp only [Option.bind_some]
  rw [parts_none]
  by_cases c : Hf.INF < Hf.rung (u b)
  · rw [decide_eq_true c, if_pos rfl, if_neg (by omega)]
  · rw [decide_eq_false c, if_neg (by decide), if_pos (by omega)]

theorem wrapped_f {v : Int} (h : Fits v) : hearthlaw1_wrapped.f v = some true := by
  unfold hearthlaw1_wrapped.f
  rw [Wrap_f, rWrap_f h]; simp only [Option.bind_some, if_true]
  rw [Fits_f, rFits_f]; simp only [Option.bind_some, BEq.rfl]

end Go.Proofs.Ytpjcheenihlagaa.Fl
