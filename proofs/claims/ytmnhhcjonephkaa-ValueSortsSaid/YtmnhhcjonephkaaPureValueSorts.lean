/- Proves: for every input, each word is a value of one kind, told by its tag and body, or a link, or neither. No condition beyond the statement's own. -/
import Derived.Test.YtmnhhcjonephkaaPValueSortsx2
import Derived.Test.YtmnhhcjonephkaaVal
namespace Go.Proofs.Ytmnhhcjonephkaa.Pure
open Go.RowKit Go.Proofs.Ytmnhhcjonephkaa.PValueSorts Go.Proofs.YtmnhhcjonephkaaW.PrintWords Go.Proofs.YtmnhhcjonephkaaW.PrintLast Go.Proofs.YtmnhhcjonephkaaW.PrintMore
namespace ValueSortsOf

theorem fits_f (a : Int) : fix_Fits.f a = some (decide (-1152921504606846976 ≤ a ∧ a ≤ 1152921504606846975)) := Va.fits_go a
theorem scalar_f (a : Int) (h0 : 0 ≤ a) (h1 : a ≤ 1114111) : value_scalar.f (wrap32 a) = some (decide (a < 55296 ∨ a > 57343)) := by
  rw [Va.wrap32_id h0 h1]; exact Va.scalar_go a h0 h1
theorem valid_f (k n : Int) : value_Valid.f k n = some (Va.valid k n) := by
  rw [← Va.valid_go]
  unfold value_Valid.f
  rw [fits_f]; simp only [Option.bind_some]
  by_cases c2 : k = 2
  · rw [if_pos c2, if_pos c2]
  · rw [if_neg c2, if_neg c2]
    by_cases c1 : k = 1
    · rw [if_pos c1, if_pos c1]
    · rw [if_neg c1, if_neg c1]
      by_cases c3 : k = 3
      · rw [if_pos c3, if_pos c3]
      · rw [if_neg c3, if_neg c3]
        by_cases c4 : k = 4
        · rw [if_pos c4, if_pos c4]
          by_cases h0 : n ≥ 0
          · rw [if_pos h0, if_pos h0]
            by_cases h1 : n ≤ 1114111
            · rw [if_pos h1, if_pos h1, scalar_f n h0 h1]; rfl
            · rw [if_neg h1, if_neg h1]
          · rw [if_neg h0, if_neg h0]
        · rw [if_neg c4, if_neg c4]

theorem word_f (k n : Int) : value_Word.f k n = some (Va.word k n) := by
  unfold value_Word.f Va.word
  rw [valid_f]; simp only [Option.bind_some]
  by_cases h : Va.valid k n = true
  · rw [if_pos h, if_pos h, Va.word_go h]
  · rw [if_neg h, if_neg h]

theorem read_f (w : Int) : value_Read.f w = some (Va.read w) := by
  unfold value_Read.f Va.read
  rw [Hd.and7, Va.tag_fits, valid_f]; simp only [Option.bind_some]
  by_cases h : Va.valid (w % 8 + 1) (w / 8) = true
  · rw [if_pos h, if_pos h]
  · rw [if_neg h, if_neg h]

theorem link_f (n : Int) : value_Link.f n = some (Va.link n) := Va.link_go n

theorem next_f (w : Int) : value_Next.f w = some (Va.next w) := by
  unfold value_Next.f
  rw [Hd.and7]
  exact Va.next_go w

theorem made_f (k n : Int) : value_made.f k n = some (if Va.valid k n = true then (k, n) else (0, 0)) := by
  unfold value_made.f
  rw [valid_f]; simp only [Option.bind_some]
  by_cases h : Va.valid k n = true
  · rw [if_pos h, if_pos h]
  · rw [if_neg h, if_neg h]

theorem alive_f : hearthlaw2_alive.f = some true := by
  unfold hearthlaw2_alive.f value_Fix.f
  rw [made_f]; simp only [Option.bind_some]
  rw [word_f, read_f, link_f]
  rfl

theorem last_f (k : Nat) (w : Int) (hw : Hd.Fits w) : hearthlaw2_ValueSorts.j0 (k + 1) w (w % 8) (w / 8) (Va.read w).2.2 (Va.next w).1 (Va.next w).2 false = some true := by
  simp only [hearthlaw2_ValueSorts.j0, Bool.false_eq_true, if_false]
  by_cases hn : w % 8 = 4 ∧ -1 ≤ w / 8 ∧ w / 8 ≤ 262143
  · have e : Va.next w = (w / 8, true) := by unfold Va.next; rw [if_pos hn]
    rw [e]; simp only [if_true]
    rw [link_f]; simp only [Option.bind_some]
    have : Va.link (w / 8) = w := by unfold Va.link; rw [if_pos hn.2]; omega
    rw [this]; simp
  · have e : Va.next w = (0, false) := by unfold Va.next; rw [if_neg hn]
    rw [e]; simp only [Bool.false_eq_true, if_false]
    have er : (Va.read w).2.2 = Va.valid (w % 8 + 1) (w / 8) := by
      unfold Va.read; split
      · symm; assumption
      · symm; simpa using ‹¬ Va.valid _ _ = true›
    rw [er]
    generalize hv : Va.valid (w % 8 + 1) (w / 8) = v
    have hv' : v = true ↔ Va.Valid (w % 8 + 1) (w / 8) := by rw [← hv]; exact Va.valid_iff
    unfold Va.Valid at hv'
    unfold Hd.Fits at hw
    repeat' split
    all_goals first
      | (congr 1; rw [beq_iff_eq, Bool.eq_iff_iff, hv']; simp only [decide_eq_true_eq, Bool.false_eq_true, iff_false, iff_true]; omega)
      | (congr 1; simp only [decide_eq_true_eq]; omega)
      | rfl
      | (congr 1; rw [hv']; omega)
      | (exfalso; simp only [*, true_iff] at hv'; omega)
end ValueSortsOf
open ValueSortsOf

theorem ValueSorts : hearthlaw2_ValueSorts.Pure := by
  intro w h0
  have hw := Hd.fits_of_wf h0
  refine ⟨1, ?_⟩
  unfold hearthlaw2_ValueSorts.f
  rw [read_f, next_f, alive_f]; simp only [Option.bind_some, if_true]
  rw [Hd.and7, Va.tag_fits]
  by_cases hn : w % 8 = 4 ∧ -1 ≤ w / 8 ∧ w / 8 ≤ 262143
  · have e : Va.next w = (w / 8, true) := by unfold Va.next; rw [if_pos hn]
    have hr : Va.read w = (0, 0, false) := by
      unfold Va.read; rw [if_neg]
      rw [Va.valid_iff]; unfold Va.Valid; omega
    have := last_f 0 w hw
    rw [e, hr] at this
    rw [e, hr]
    simp only [Bool.false_eq_true, if_false, if_true]
    rw [if_pos hn.1]
    simpa using this
  · have e : Va.next w = (0, false) := by unfold Va.next; rw [if_neg hn]
    have := last_f 0 w hw
    rw [e] at this
    rw [e]
    simp only [Bool.false_eq_true, if_false]
    by_cases h : Va.valid (w % 8 + 1) (w / 8) = true
    · have hr : Va.read w = (w % 8 + 1, w / 8, true) := by unfold Va.read; rw [if_pos h]
      rw [hr] at this ⊢
      simp only [if_true]
      exact this
    · have hr : Va.read w = (0, 0, false) := by unfold Va.read; rw [if_neg h]
      rw [hr] at this ⊢
      simp only [Bool.false_eq_true, if_false]
      exact this

end Go.Proofs.Ytmnhhcjonephkaa.Pure
