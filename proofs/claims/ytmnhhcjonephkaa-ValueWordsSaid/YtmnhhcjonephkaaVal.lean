/- Plain arithmetic of values and their words (no Go in it): what package value and its reference come to. No conditions beyond those in each lemma. -/
import Derived.Test.YtmnhhcjonephkaaHead
namespace Go.Proofs.Ytmnhhcjonephkaa.Va
open Go.RowKit Go.Proofs.Ytmnhhcjonephkaa.Hd

def Valid (k n : Int) : Prop :=
  (k = 1 ∧ -1152921504606846976 ≤ n ∧ n ≤ 1152921504606846975) ∨ (k = 2 ∧ 0 ≤ n ∧ n ≤ 1152921504606846975) ∨
    (k = 3 ∧ 0 ≤ n ∧ n ≤ 5) ∨ (k = 4 ∧ 0 ≤ n ∧ n ≤ 1114111 ∧ (n < 55296 ∨ n > 57343))
instance (k n : Int) : Decidable (Valid k n) := by unfold Valid; infer_instance
def valid (k n : Int) : Bool := decide (Valid k n)
theorem valid_iff {k n : Int} : valid k n = true ↔ Valid k n := decide_eq_true_iff

theorem bool_of {b : Bool} {k n : Int} (h : b = true ↔ Valid k n) : (some b : Option Bool) = some (valid k n) := by
  congr 1; rw [Bool.eq_iff_iff, h, valid_iff]

theorem valid_go (a0_0 a0_1 : Int) : (if a0_0 = 2 then (if a0_1 < 0 then (some false) else (some (decide (-1152921504606846976 ≤ a0_1 ∧ a0_1 ≤ 1152921504606846975)))) else (if a0_0 = 1 then (some (decide (-1152921504606846976 ≤ a0_1 ∧ a0_1 ≤ 1152921504606846975))) else (if a0_0 = 3 then (if a0_1 ≥ 0 then (some (decide (a0_1 ≤ 5))) else (some false)) else (if a0_0 = 4 then (if a0_1 ≥ 0 then (if a0_1 ≤ 1114111 then (some (decide (a0_1 < 55296 ∨ a0_1 > 57343))) else (some false)) else (some false)) else (some false)))) : Option Bool) = some (valid a0_0 a0_1) := by
  repeat' split
  all_goals (apply bool_of; simp only [decide_eq_true_eq, Bool.false_eq_true, false_iff]; unfold Valid; omega)

theorem fits_go (a0 : Int) : (if a0 ≥ (-1152921504606846976) then (some (decide (a0 ≤ 1152921504606846975))) else (some false) : Option Bool) = some (decide (-1152921504606846976 ≤ a0 ∧ a0 ≤ 1152921504606846975)) := by
  split
  · congr 1; rw [Bool.eq_iff_iff]; simp only [decide_eq_true_eq]; omega
  · congr 1; rw [Bool.eq_iff_iff]; simp only [decide_eq_true_eq, Bool.false_eq_true, false_iff]; omega

theorem scalar_go (a0 : Int) (h0 : 0 ≤ a0) (h1 : a0 ≤ 1114111) : (if a0 ≥ 0 then (if a0 ≤ 1114111 then (if a0 < 55296 then (some true) else (some (decide (a0 > 57343)))) else (some false)) else (some false) : Option Bool) = some (decide (a0 < 55296 ∨ a0 > 57343)) := by
  rw [if_pos (by omega), if_pos h1]
  split
  · congr 1; symm; simp only [decide_eq_true_eq]; omega
  · congr 1; rw [Bool.eq_iff_iff]; simp only [decide_eq_true_eq]; omega

theorem wrap32_id {a : Int} (h0 : 0 ≤ a) (h1 : a ≤ 1114111) : wrap32 a = a := by unfold wrap32; omega

theorem valid_ref (a0_0 a0_1 : Int) : (if a0_0 = 1 then (if a0_1 ≥ (-1152921504606846976) then (some (decide (a0_1 ≤ 1152921504606846975))) else (some false)) else (if a0_0 = 2 then (if a0_1 ≥ 0 then (some (decide (a0_1 ≤ 1152921504606846975))) else (some false)) else (if a0_0 = 3 then (if a0_1 ≥ 0 then (some (decide (a0_1 ≤ 5))) else (some false)) else (if a0_0 = 4 then (if a0_1 ≥ 0 then (if a0_1 ≤ 1114111 then (if a0_1 < 55296 then (some true) else (some (decide (a0_1 > 57343)))) else (some false)) else (some false)) else (some false)))) : Option Bool) = some (valid a0_0 a0_1) := by
  repeat' split
  all_goals (apply bool_of; simp only [decide_eq_true_eq, Bool.false_eq_true, false_iff, true_iff]; unfold Valid; omega)

theorem or8 (x y : Int) (hf : Fits x) (hx : x % 8 = 0) (h0 : 0 ≤ y) (h1 : y < 8) : bits .or .i64 x y = x + y := by
  unfold Fits at hf
  simp only [bits, BitVec.toNat_or]
  show IntKind.i64.wrap (((BitVec.ofInt 64 x).toNat ||| (BitVec.ofInt 64 y).toNat : Nat) : Int) = _
  rw [ofInt_mod, ofInt_mod, nat_join 3 _ _ (by omega) (by omega), IntKind.wrap_i64]
  omega

def word (k n : Int) : Int × Bool := if valid k n then (n * 8 + (k - 1), true) else (0, false)
def read (w : Int) : Int × Int × Bool := if valid (w % 8 + 1) (w / 8) then (w % 8 + 1, w / 8, true) else (0, 0, false)
def link (n : Int) : Int := if -1 ≤ n ∧ n ≤ 262143 then n * 8 + 4 else 0
def next (w : Int) : Int × Bool := if w % 8 = 4 ∧ -1 ≤ w / 8 ∧ w / 8 ≤ 262143 then (w / 8, true) else (0, false)

theorem word_go {k n : Int} (h : valid k n = true) : bits .or .i64 (wrap64 (n * 8)) (wrap64 (k - 1)) = n * 8 + (k - 1) := by
  have hv := valid_iff.1 h
  unfold Valid at hv
  rw [wrap_id (a := n * 8) (by unfold Fits; omega), wrap_id (by unfold Fits; omega)]
  exact or8 _ _ (by unfold Fits; omega) (by omega) (by omega) (by omega)

theorem word_ref {k n : Int} (h : valid k n = true) : wrap64 ((wrap64 ((wrap64 (n * 8)) + k)) - 1) = n * 8 + (k - 1) := by
  have hv := valid_iff.1 h
  unfold Valid at hv
  unfold wrap64; omega

theorem link_go (n : Int) : (if n < (-1) then (some 0) else (if n ≥ 262144 then (some 0) else (some (Go.bits .or .i64 (wrap64 (n * 8)) 4))) : Option Int) = some (link n) := by
  unfold link
  by_cases h : -1 ≤ n ∧ n ≤ 262143
  · rw [if_neg (by omega), if_neg (by omega), if_pos h, wrap_id (by unfold Fits; omega), or8 _ _ (by unfold Fits; omega) (by omega) (by omega) (by omega)]
  · rw [if_neg h]
    split
    · rfl
    · rw [if_pos (by omega)]

theorem link_ref (n : Int) : (if n < (-1) then (some 0) else (if n > 262143 then (some 0) else (some (wrap64 ((wrap64 (n * 8)) + 4)))) : Option Int) = some (link n) := by
  unfold link
  by_cases h : -1 ≤ n ∧ n ≤ 262143
  · rw [if_neg (by omega), if_neg (by omega), if_pos h]; congr 1; unfold wrap64; omega
  · rw [if_neg h]
    split
    · rfl
    · rw [if_pos (by omega)]

theorem link_fits (n : Int) : Fits (link n) := by
  unfold link Fits; split <;> omega

theorem next_go (w : Int) : (if w % 8 = 4 then (if (w / 8) < (-1) then (some (0, false)) else (if (w / 8) ≥ 262144 then (some (0, false)) else (some (w / 8, true)))) else (some (0, false)) : Option (Int × Bool)) = some (next w) := by
  unfold next
  by_cases h : w % 8 = 4 ∧ -1 ≤ w / 8 ∧ w / 8 ≤ 262143
  · rw [if_pos h.1, if_neg (by omega), if_neg (by omega), if_pos h]
  · rw [if_neg h]
    repeat' split
    all_goals first | rfl | (exfalso; omega)

theorem next_ref (w : Int) : (if w % 8 = 4 then (if (w / 8) < (-1) then (some (0, false)) else (if (w / 8) > 262143 then (some (0, false)) else (some (w / 8, true)))) else (some (0, false)) : Option (Int × Bool)) = some (next w) := by
  unfold next
  by_cases h : w % 8 = 4 ∧ -1 ≤ w / 8 ∧ w / 8 ≤ 262143
  · rw [if_pos h.1, if_neg (by omega), if_neg (by omega), if_pos h]
  · rw [if_neg h]
    repeat' split
    all_goals first | rfl | (exfalso; omega)

theorem parts_ref {w : Int} (hw : Fits w) : (if (Int.tmod w 8) < 0 then (if w < 0 then (some (wrap64 ((Int.tmod w 8) + 8), wrap64 ((wrap64 (-(wrap64 (Int.tdiv (wrap64 (-(wrap64 (w + 1)))) 8)))) - 1))) else (some (wrap64 ((Int.tmod w 8) + 8), wrap64 (Int.tdiv w 8)))) else (if w < 0 then (some (Int.tmod w 8, wrap64 ((wrap64 (-(wrap64 (Int.tdiv (wrap64 (-(wrap64 (w + 1)))) 8)))) - 1))) else (some (Int.tmod w 8, wrap64 (Int.tdiv w 8)))) : Option (Int × Int)) = some (w % 8, w / 8) := by
  unfold Fits at hw
  by_cases h : w < 0
  · have t1 : Int.tmod w 8 = -((-w) % 8) := by
      have := Int.neg_tmod (a := -w) (b := 8)
      rw [Int.neg_neg] at this
      rw [this, Int.tmod_eq_emod_of_nonneg (by omega)]
    have e1 : wrap64 (w + 1) = w + 1 := wrap_id (by unfold Fits; omega)
    have e2 : wrap64 (-(w + 1)) = -(w + 1) := wrap_id (by unfold Fits; omega)
    have e3 : Int.tdiv (-(w + 1)) 8 = (-(w + 1)) / 8 := Int.tdiv_eq_ediv_of_nonneg (by omega)
    have e4 : wrap64 ((-(w + 1)) / 8) = (-(w + 1)) / 8 := wrap_id (by unfold Fits; omega)
    have e5 : wrap64 (-((-(w + 1)) / 8)) = -((-(w + 1)) / 8) := wrap_id (by unfold Fits; omega)
    have e6 : wrap64 (-((-(w + 1)) / 8) - 1) = w / 8 := by rw [wrap_id (by unfold Fits; omega)]; omega
    have e7 : wrap64 (-((-w) % 8) + 8) = -((-w) % 8) + 8 := wrap_id (by unfold Fits; omega)
    rw [t1, e1, e2, e3, e4, e5, e6, e7, if_pos h, if_pos h]
    split
    · rw [show -(-w % 8) + 8 = w % 8 by omega]
    · rw [show -(-w % 8) = w % 8 by omega]
  · have t1 : Int.tmod w 8 = w % 8 := Int.tmod_eq_emod_of_nonneg (by omega)
    have t2 : Int.tdiv w 8 = w / 8 := Int.tdiv_eq_ediv_of_nonneg (by omega)
    rw [t1, t2, if_neg (by omega), if_neg h, wrap_id (by unfold Fits; omega)]

theorem tag_fits (w : Int) : wrap64 (w % 8 + 1) = w % 8 + 1 := wrap_id (by unfold Fits; omega)

theorem read_word {k n : Int} (h : valid k n = true) : read (n * 8 + (k - 1)) = (k, n, true) := by
  have hv := valid_iff.1 h
  unfold Valid at hv
  have e1 : (n * 8 + (k - 1)) % 8 + 1 = k := by omega
  have e2 : (n * 8 + (k - 1)) / 8 = n := by omega
  unfold read; rw [e1, e2, if_pos h]

theorem word_read {w : Int} (h : valid (w % 8 + 1) (w / 8) = true) : word (w % 8 + 1) (w / 8) = (w, true) := by
  unfold word; rw [if_pos h]
  rw [show w / 8 * 8 + (w % 8 + 1 - 1) = w by omega]

end Go.Proofs.Ytmnhhcjonephkaa.Va
