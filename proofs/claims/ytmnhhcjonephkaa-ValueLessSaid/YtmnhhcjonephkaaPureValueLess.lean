/- Proves: for every input, Less of any two values answers as the reference does. No condition beyond the statement's own. -/
import Derived.Test.YtmnhhcjonephkaaPValueAllx3
import Derived.Test.YtmnhhcjonephkaaVal
namespace Go.Proofs.Ytmnhhcjonephkaa.Pure
open Go.RowKit Go.Proofs.Ytmnhhcjonephkaa.PValueAll Go.Proofs.YtmnhhcjonephkaaW.PrintWords Go.Proofs.YtmnhhcjonephkaaW.PrintLast Go.Proofs.YtmnhhcjonephkaaW.PrintMore
namespace ValueLessOf

theorem fits_f (a : Int) : fix_Fits.f a = some (decide (-1152921504606846976 ≤ a ∧ a ≤ 1152921504606846975)) := Va.fits_go a
theorem scalar_f (a : Int) (h0 : 0 ≤ a) (h1 : a ≤ 1114111) : value_scalar.f (wrap32 a) = some (decide (a < 55296 ∨ a > 57343)) := by
  rw [Va.wrap32_id h0 h1]; exact Va.scalar_go a h0 h1
theorem valid_f (k n : Int) : value_Valid.f k n = some (Va.valid k n) := by
  rw [← Va.valid_go]
  unfold value_Valid.f
  rw [fits_f]; simp only [Option.bind_some]
  by_cases c2 : k = 2
  · rw [if_pos c2, if_pos c2]
  · rw [if_neg c2, if_neg c2]
    by_cases c1 : k = 1
    · rw [if_pos c1, if_pos c1]
    · rw [if_neg c1, if_neg c1]
      by_cases c3 : k = 3
      · rw [if_pos c3, if_pos c3]
      · rw [if_neg c3, if_neg c3]
        by_cases c4 : k = 4
        · rw [if_pos c4, if_pos c4]
          by_cases h0 : n ≥ 0
          · rw [if_pos h0, if_pos h0]
            by_cases h1 : n ≤ 1114111
            · rw [if_pos h1, if_pos h1, scalar_f n h0 h1]; rfl
            · rw [if_neg h1, if_neg h1]
          · rw [if_neg h0, if_neg h0]
        · rw [if_neg c4, if_neg c4]

theorem rvalid_f (k n : Int) : hearthref2_Valid.f k n = some (Va.valid k n) := Va.valid_ref k n

theorem word_f (k n : Int) : value_Word.f k n = some (Va.word k n) := by
  unfold value_Word.f Va.word
  rw [valid_f]; simp only [Option.bind_some]
  by_cases h : Va.valid k n = true
  · rw [if_pos h, if_pos h, Va.word_go h]
  · rw [if_neg h, if_neg h]

theorem read_f (w : Int) : value_Read.f w = some (Va.read w) := by
  unfold value_Read.f Va.read
  rw [Hd.and7, Va.tag_fits, valid_f]; simp only [Option.bind_some]
  by_cases h : Va.valid (w % 8 + 1) (w / 8) = true
  · rw [if_pos h, if_pos h]
  · rw [if_neg h, if_neg h]

theorem link_f (n : Int) : value_Link.f n = some (Va.link n) := Va.link_go n

theorem next_f (w : Int) : value_Next.f w = some (Va.next w) := by
  unfold value_Next.f
  rw [Hd.and7]
  exact Va.next_go w

theorem made_f (k n : Int) : value_made.f k n = some (if Va.valid k n = true then (k, n) else (0, 0)) := by
  unfold value_made.f
  rw [valid_f]; simp only [Option.bind_some]
  by_cases h : Va.valid k n = true
  · rw [if_pos h, if_pos h]
  · rw [if_neg h, if_neg h]

theorem alive_f : hearthlaw2_alive.f = some true := by
  unfold hearthlaw2_alive.f value_Fix.f
  rw [made_f]; simp only [Option.bind_some]
  rw [word_f, read_f, link_f]
  rfl

theorem rless_f (a b c d : Int) : hearthref2_Less.f a b c d = some (decide (a < c ∨ (a = c ∧ b < d))) := by
  unfold hearthref2_Less.f
  split
  · congr 1; rw [Bool.eq_iff_iff]; simp only [decide_eq_true_eq]; omega
  · congr 1; rw [Bool.eq_iff_iff]; simp only [decide_eq_true_eq]; omega

theorem less_f (a b c d : Int) : value_Less.f a b c d = some (decide (a < c ∨ (a = c ∧ b < d))) := by
  unfold value_Less.f
  repeat' split
  all_goals (congr 1; rw [Bool.eq_iff_iff]; simp only [decide_eq_true_eq, Bool.false_eq_true, false_iff, true_iff]; omega)

theorem vless_f (a b c d : Int) : hearthlaw2_ValueLess.f a b c d = some true := by
  unfold hearthlaw2_ValueLess.f
  rw [alive_f]; simp only [Option.bind_some, if_true]
  rw [less_f, rless_f]; simp only [Option.bind_some, BEq.rfl, if_true]
  rw [less_f, rless_f]; simp only [Option.bind_some, BEq.rfl]
end ValueLessOf
open ValueLessOf

theorem ValueLess (a b c d : Int) (_ : (Lit.int .i64 a).wf = true) (_ : (Lit.int .i64 b).wf = true) (_ : (Lit.int .i64 c).wf = true) (_ : (Lit.int .i64 d).wf = true) : hearthlaw2_ValueLess.f a b c d = some true := vless_f a b c d

end Go.Proofs.Ytmnhhcjonephkaa.Pure
