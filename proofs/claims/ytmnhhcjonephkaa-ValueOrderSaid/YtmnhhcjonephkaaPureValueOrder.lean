/- Proves: for every input, Less is an order of all values that tells any two unlike ones apart. No condition beyond the statement's own. -/
import Derived.Test.YtmnhhcjonephkaaPValueOrderx2
import Derived.Test.YtmnhhcjonephkaaVal
namespace Go.Proofs.Ytmnhhcjonephkaa.Pure
open Go.RowKit Go.Proofs.Ytmnhhcjonephkaa.PValueOrder Go.Proofs.YtmnhhcjonephkaaW.PrintWords Go.Proofs.YtmnhhcjonephkaaW.PrintLast Go.Proofs.YtmnhhcjonephkaaW.PrintMore
namespace ValueOrderOf

theorem fits_f (a : Int) : fix_Fits.f a = some (decide (-1152921504606846976 ≤ a ∧ a ≤ 1152921504606846975)) := Va.fits_go a
theorem scalar_f (a : Int) (h0 : 0 ≤ a) (h1 : a ≤ 1114111) : value_scalar.f (wrap32 a) = some (decide (a < 55296 ∨ a > 57343)) := by
  rw [Va.wrap32_id h0 h1]; exact Va.scalar_go a h0 h1
theorem valid_f (k n : Int) : value_Valid.f k n = some (Va.valid k n) := by
  rw [← Va.valid_go]
  unfold value_Valid.f
  rw [fits_f]; simp only [Option.bind_some]
  by_cases c2 : k = 2
  · rw [if_pos c2, if_pos c2]
  · rw [if_neg c2, if_neg c2]
    by_cases c1 : k = 1
    · rw [if_pos c1, if_pos c1]
    · rw [if_neg c1, if_neg c1]
      by_cases c3 : k = 3
      · rw [if_pos c3, if_pos c3]
      · rw [if_neg c3, if_neg c3]
        by_cases c4 : k = 4
        · rw [if_pos c4, if_pos c4]
          by_cases h0 : n ≥ 0
          · rw [if_pos h0, if_pos h0]
            by_cases h1 : n ≤ 1114111
            · rw [if_pos h1, if_pos h1, scalar_f n h0 h1]; rfl
            · rw [if_neg h1, if_neg h1]
          · rw [if_neg h0, if_neg h0]
        · rw [if_neg c4, if_neg c4]

theorem word_f (k n : Int) : value_Word.f k n = some (Va.word k n) := by
  unfold value_Word.f Va.word
  rw [valid_f]; simp only [Option.bind_some]
  by_cases h : Va.valid k n = true
  · rw [if_pos h, if_pos h, Va.word_go h]
  · rw [if_neg h, if_neg h]

theorem read_f (w : Int) : value_Read.f w = some (Va.read w) := by
  unfold value_Read.f Va.read
  rw [Hd.and7, Va.tag_fits, valid_f]; simp only [Option.bind_some]
  by_cases h : Va.valid (w % 8 + 1) (w / 8) = true
  · rw [if_pos h, if_pos h]
  · rw [if_neg h, if_neg h]

theorem link_f (n : Int) : value_Link.f n = some (Va.link n) := Va.link_go n

theorem made_f (k n : Int) : value_made.f k n = some (if Va.valid k n = true then (k, n) else (0, 0)) := by
  unfold value_made.f
  rw [valid_f]; simp only [Option.bind_some]
  by_cases h : Va.valid k n = true
  · rw [if_pos h, if_pos h]
  · rw [if_neg h, if_neg h]

theorem alive_f : hearthlaw2_alive.f = some true := by
  unfold hearthlaw2_alive.f value_Fix.f
  rw [made_f]; simp only [Option.bind_some]
  rw [word_f, read_f, link_f]
  rfl

theorem less_f (a b c d : Int) : value_Less.f a b c d = some (decide (a < c ∨ (a = c ∧ b < d))) := by
  unfold value_Less.f
  repeat' split
  all_goals (congr 1; rw [Bool.eq_iff_iff]; simp only [decide_eq_true_eq, Bool.false_eq_true, false_iff, true_iff]; omega)
end ValueOrderOf
open ValueOrderOf

theorem ValueOrder (a b c d e f : Int) (_ : (Lit.int .i64 a).wf = true) (_ : (Lit.int .i64 b).wf = true) (_ : (Lit.int .i64 c).wf = true) (_ : (Lit.int .i64 d).wf = true) (_ : (Lit.int .i64 e).wf = true) (_ : (Lit.int .i64 f).wf = true) :
    ∃ k, hearthlaw2_ValueOrder.f k a b c d e f = some true := by
  refine ⟨1, ?_⟩
  unfold hearthlaw2_ValueOrder.f
  rw [less_f, less_f, alive_f]; simp only [Option.bind_some, if_true]
  have last : ∀ x q : Bool, q = false → (x = true → (a < c ∨ (a = c ∧ b < d))) → hearthlaw2_ValueOrder.j0 1 x q a b c d e f = some true := by
    intro x q hq hx
    subst hq
    simp only [hearthlaw2_ValueOrder.j0, Bool.false_eq_true, if_false]
    by_cases h : x = true
    · have hl := hx h
      rw [if_pos h, less_f]; simp only [Option.bind_some]
      by_cases h2 : (c < e ∨ (c = e ∧ d < f))
      · rw [decide_eq_true h2, if_pos rfl, less_f]; simp only [Option.bind_some]
        rw [decide_eq_true (show a < e ∨ (a = e ∧ b < f) by omega)]
      · rw [decide_eq_false h2, if_neg (by decide)]
    · rw [if_neg h]
  by_cases h1 : (a < c ∨ (a = c ∧ b < d))
  · have h2 : ¬ (c < a ∨ (c = a ∧ d < b)) := by omega
    rw [decide_eq_true h1, decide_eq_false h2, if_pos rfl, if_neg (by decide)]
    refine last _ _ ?_ (fun _ => h1)
    by_cases h3 : a = c
    · have : ¬ b = d := by omega
      simp [this]
    · simp [h3]
  · rw [decide_eq_false h1, if_neg (by decide)]
    refine last _ _ ?_ (fun h => by cases h)
    by_cases h2 : (c < a ∨ (c = a ∧ d < b))
    · rw [decide_eq_true h2]
      by_cases h3 : a = c
      · have : ¬ b = d := by omega
        simp [this]
      · simp [h3]
    · rw [decide_eq_false h2]
      have h3 : a = c := by omega
      have h4 : b = d := by omega
      simp [h3, h4]

end Go.Proofs.Ytmnhhcjonephkaa.Pure
