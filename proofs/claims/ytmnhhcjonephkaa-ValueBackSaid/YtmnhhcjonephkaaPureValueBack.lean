/- Proves: for every input, values come back from their words, words from their values, and two valid values have one word only if they are one. No condition beyond the statement's own. -/
import Derived.Test.YtmnhhcjonephkaaPValueBackx3
import Derived.Test.YtmnhhcjonephkaaVal
namespace Go.Proofs.Ytmnhhcjonephkaa.Pure
open Go.RowKit Go.Proofs.Ytmnhhcjonephkaa.PValueBack Go.Proofs.YtmnhhcjonephkaaW.PrintWords Go.Proofs.YtmnhhcjonephkaaW.PrintLast Go.Proofs.YtmnhhcjonephkaaW.PrintMore
namespace ValueBackOf

theorem fits_f (a : Int) : fix_Fits.f a = some (decide (-1152921504606846976 ≤ a ∧ a ≤ 1152921504606846975)) := Va.fits_go a
theorem scalar_f (a : Int) (h0 : 0 ≤ a) (h1 : a ≤ 1114111) : value_scalar.f (wrap32 a) = some (decide (a < 55296 ∨ a > 57343)) := by
  rw [Va.wrap32_id h0 h1]; exact Va.scalar_go a h0 h1
theorem valid_f (k n : Int) : value_Valid.f k n = some (Va.valid k n) := by
  rw [← Va.valid_go]
  unfold value_Valid.f
  rw [fits_f]; simp only [Option.bind_some]
  by_cases c2 : k = 2
  · rw [if_pos c2, if_pos c2]
  · rw [if_neg c2, if_neg c2]
    by_cases c1 : k = 1
    · rw [if_pos c1, if_pos c1]
    · rw [if_neg c1, if_neg c1]
      by_cases c3 : k = 3
      · rw [if_pos c3, if_pos c3]
      · rw [if_neg c3, if_neg c3]
        by_cases c4 : k = 4
        · rw [if_pos c4, if_pos c4]
          by_cases h0 : n ≥ 0
          · rw [if_pos h0, if_pos h0]
            by_cases h1 : n ≤ 1114111
            · rw [if_pos h1, if_pos h1, scalar_f n h0 h1]; rfl
            · rw [if_neg h1, if_neg h1]
          · rw [if_neg h0, if_neg h0]
        · rw [if_neg c4, if_neg c4]

theorem word_f (k n : Int) : value_Word.f k n = some (Va.word k n) := by
  unfold value_Word.f Va.word
  rw [valid_f]; simp only [Option.bind_some]
  by_cases h : Va.valid k n = true
  · rw [if_pos h, if_pos h, Va.word_go h]
  · rw [if_neg h, if_neg h]

theorem read_f (w : Int) : value_Read.f w = some (Va.read w) := by
  unfold value_Read.f Va.read
  rw [Hd.and7, Va.tag_fits, valid_f]; simp only [Option.bind_some]
  by_cases h : Va.valid (w % 8 + 1) (w / 8) = true
  · rw [if_pos h, if_pos h]
  · rw [if_neg h, if_neg h]

theorem link_f (n : Int) : value_Link.f n = some (Va.link n) := Va.link_go n

theorem made_f (k n : Int) : value_made.f k n = some (if Va.valid k n = true then (k, n) else (0, 0)) := by
  unfold value_made.f
  rw [valid_f]; simp only [Option.bind_some]
  by_cases h : Va.valid k n = true
  · rw [if_pos h, if_pos h]
  · rw [if_neg h, if_neg h]

theorem alive_f : hearthlaw2_alive.f = some true := by
  unfold hearthlaw2_alive.f value_Fix.f
  rw [made_f]; simp only [Option.bind_some]
  rw [word_f, read_f, link_f]
  rfl

theorem word_ok (k n : Int) : (Va.word k n).2 = Va.valid k n := by
  unfold Va.word; split
  · symm; assumption
  · symm; simpa using ‹¬ Va.valid _ _ = true›
theorem last_f (w : Int) (q : Bool) (hq : q = false) (k : Nat) : hearthlaw2_ValueBack.j1 (k + 1) w q = some true := by
  subst hq
  simp only [hearthlaw2_ValueBack.j1, Bool.false_eq_true, if_false]
  rw [read_f]; simp only [Option.bind_some]
  rw [word_f]; simp only [Option.bind_some]
  by_cases h : Va.valid (w % 8 + 1) (w / 8) = true
  · have hr : Va.read w = (w % 8 + 1, w / 8, true) := by unfold Va.read; rw [if_pos h]
    rw [hr, Va.word_read h]; simp only [if_true]
    rw [valid_f, h]; rfl
  · have hr : Va.read w = (0, 0, false) := by unfold Va.read; rw [if_neg h]
    rw [hr]; rfl
theorem mid_f (k n k' n' w : Int) (m : Nat) : hearthlaw2_ValueBack.j0 (m + 2) w (Va.word k n).1 (Va.word k n).2 false k n k' n' = some true := by
  simp only [hearthlaw2_ValueBack.j0, Bool.false_eq_true, if_false]
  rw [word_f]; simp only [Option.bind_some]
  by_cases h : Va.valid k n = true
  · have hw : Va.word k n = (n * 8 + (k - 1), true) := by unfold Va.word; rw [if_pos h]
    rw [hw]; simp only [if_true]
    by_cases h' : Va.valid k' n' = true
    · have hw' : Va.word k' n' = (n' * 8 + (k' - 1), true) := by unfold Va.word; rw [if_pos h']
      rw [hw']; simp only [if_true]
      apply last_f
      have v := Va.valid_iff.1 h
      have v' := Va.valid_iff.1 h'
      unfold Va.Valid at v v'
      by_cases e : k = k' ∧ n = n'
      · obtain ⟨rfl, rfl⟩ := e; simp
      · have : ¬ (n * 8 + (k - 1) = n' * 8 + (k' - 1)) := by omega
        rw [beq_eq_false_iff_ne.2 this]
        by_cases e1 : k = k'
        · have : ¬ n = n' := fun q => e ⟨e1, q⟩
          simp [this]
        · simp [e1]
    · have hw' : Va.word k' n' = (0, false) := by unfold Va.word; rw [if_neg h']
      rw [hw']; exact last_f _ _ rfl m
  · have hw : Va.word k n = (0, false) := by unfold Va.word; rw [if_neg h]
    rw [hw]; exact last_f _ _ rfl m
end ValueBackOf
open ValueBackOf

theorem ValueBack (k n k' n' w : Int) (_ : (Lit.int .i64 k).wf = true) (_ : (Lit.int .i64 n).wf = true) (_ : (Lit.int .i64 k').wf = true) (_ : (Lit.int .i64 n').wf = true) (_ : (Lit.int .i64 w).wf = true) :
    ∃ m, hearthlaw2_ValueBack.f m k n k' n' w = some true := by
  refine ⟨2, ?_⟩
  have hm := mid_f k n k' n' w 0
  unfold hearthlaw2_ValueBack.f
  rw [word_f]; simp only [Option.bind_some]
  rw [read_f, alive_f, valid_f]; simp only [Option.bind_some, if_true]
  rw [word_ok, bne_self_eq_false, if_neg (by decide)]
  rw [word_ok] at hm
  by_cases h : Va.valid k n = true
  · have hw : Va.word k n = (n * 8 + (k - 1), true) := by unfold Va.word; rw [if_pos h]
    rw [hw] at hm ⊢
    rw [if_pos h, Va.read_word h]; simp only [if_true]
    rw [if_neg (by simp)]
    exact hm
  · have hw : Va.word k n = (0, false) := by unfold Va.word; rw [if_neg h]
    rw [hw] at hm ⊢
    rw [if_neg h]
    exact hm

end Go.Proofs.Ytmnhhcjonephkaa.Pure
