/- Proves: for every input, the four makers of a value answer as the reference does. No condition beyond the statement's own. -/
import Derived.Test.YtmnhhcjonephkaaPValueMakesx2
import Derived.Test.YtmnhhcjonephkaaVal
namespace Go.Proofs.Ytmnhhcjonephkaa.Pure
open Go.RowKit Go.Proofs.Ytmnhhcjonephkaa.PValueMakes Go.Proofs.YtmnhhcjonephkaaW.PrintWords Go.Proofs.YtmnhhcjonephkaaW.PrintLast Go.Proofs.YtmnhhcjonephkaaW.PrintMore
namespace ValueMakesOf

theorem fits_f (a : Int) : fix_Fits.f a = some (decide (-1152921504606846976 ≤ a ∧ a ≤ 1152921504606846975)) := Va.fits_go a
theorem scalar_f (a : Int) (h0 : 0 ≤ a) (h1 : a ≤ 1114111) : value_scalar.f (wrap32 a) = some (decide (a < 55296 ∨ a > 57343)) := by
  rw [Va.wrap32_id h0 h1]; exact Va.scalar_go a h0 h1
theorem valid_f (k n : Int) : value_Valid.f k n = some (Va.valid k n) := by
  rw [← Va.valid_go]
  unfold value_Valid.f
  rw [fits_f]; simp only [Option.bind_some]
  by_cases c2 : k = 2
  · rw [if_pos c2, if_pos c2]
  · rw [if_neg c2, if_neg c2]
    by_cases c1 : k = 1
    · rw [if_pos c1, if_pos c1]
    · rw [if_neg c1, if_neg c1]
      by_cases c3 : k = 3
      · rw [if_pos c3, if_pos c3]
      · rw [if_neg c3, if_neg c3]
        by_cases c4 : k = 4
        · rw [if_pos c4, if_pos c4]
          by_cases h0 : n ≥ 0
          · rw [if_pos h0, if_pos h0]
            by_cases h1 : n ≤ 1114111
            · rw [if_pos h1, if_pos h1, scalar_f n h0 h1]; rfl
            · rw [if_neg h1, if_neg h1]
          · rw [if_neg h0, if_neg h0]
        · rw [if_neg c4, if_neg c4]

theorem rvalid_f (k n : Int) : hearthref2_Valid.f k n = some (Va.valid k n) := Va.valid_ref k n

theorem word_f (k n : Int) : value_Word.f k n = some (Va.word k n) := by
  unfold value_Word.f Va.word
  rw [valid_f]; simp only [Option.bind_some]
  by_cases h : Va.valid k n = true
  · rw [if_pos h, if_pos h, Va.word_go h]
  · rw [if_neg h, if_neg h]

theorem read_f (w : Int) : value_Read.f w = some (Va.read w) := by
  unfold value_Read.f Va.read
  rw [Hd.and7, Va.tag_fits, valid_f]; simp only [Option.bind_some]
  by_cases h : Va.valid (w % 8 + 1) (w / 8) = true
  · rw [if_pos h, if_pos h]
  · rw [if_neg h, if_neg h]

theorem link_f (n : Int) : value_Link.f n = some (Va.link n) := Va.link_go n

theorem made_f (k n : Int) : value_made.f k n = some (if Va.valid k n = true then (k, n) else (0, 0)) := by
  unfold value_made.f
  rw [valid_f]; simp only [Option.bind_some]
  by_cases h : Va.valid k n = true
  · rw [if_pos h, if_pos h]
  · rw [if_neg h, if_neg h]

theorem rmake_f (k n : Int) : hearthref2_Make.f k n = some (if Va.valid k n = true then (k, n) else (0, 0)) := by
  unfold hearthref2_Make.f
  rw [rvalid_f]; simp only [Option.bind_some]
  by_cases h : Va.valid k n = true
  · rw [if_pos h, if_pos h]
  · rw [if_neg h, if_neg h]

theorem alive_f : hearthlaw2_alive.f = some true := by
  unfold hearthlaw2_alive.f value_Fix.f
  rw [made_f]; simp only [Option.bind_some]
  rw [word_f, read_f, link_f]
  rfl

theorem lmade_f (n : Int) : hearthlaw2_made.f n = some true := by
  unfold hearthlaw2_made.f value_Fix.f value_Ref.f value_Imm.f value_Char.f
  simp only [made_f, rmake_f, Option.bind_some, BEq.rfl, Bool.and_self, if_true]
end ValueMakesOf
open ValueMakesOf

theorem ValueMakes : hearthlaw2_ValueMakes.Pure := by
  intro n _
  unfold hearthlaw2_ValueMakes.f
  rw [alive_f]; simp only [Option.bind_some, if_true]
  rw [lmade_f]; rfl

end Go.Proofs.Ytmnhhcjonephkaa.Pure
