/- Whole numbers modulo 1 << 61 (plain arithmetic, no Go in it). No conditions beyond those in each lemma. -/
import Derived.Test.YtpjcheenihlagaaConA
namespace Go.Proofs.Ytpjcheenihlagaa.Fl
open Go.RowKit
open Go.Proofs.Ytpjcheenihlagaa.PFixAll Go.Proofs.YtpjcheenihlagaaW.PrintWords Go.Proofs.YtpjcheenihlagaaW.PrintLast Go.Proofs.YtpjcheenihlagaaW.PrintMore

theorem wrap61_ex (x : Int) : ∃ q, wrap61 x = x + 2305843009213693952 * q := ⟨-((x + 1152921504606846976) / 2305843009213693952), by unfold wrap61; omega⟩
theorem wrap61_add (z t : Int) : wrap61 (z + 2305843009213693952 * t) = wrap61 z := by unfold wrap61; omega
theorem wrap61_id {z : Int} (h0 : -1152921504606846976 ≤ z) (h1 : z ≤ 1152921504606846975) : wrap61 z = z := by unfold wrap61; omega
theorem wrap61_wrap (z : Int) : wrap61 (wrap61 z) = wrap61 z := wrap61_id (wrap61_bd z).1 (wrap61_bd z).2
theorem wrap61_wrap64 (z : Int) : wrap61 (wrap64 z) = wrap61 z := by unfold wrap61 wrap64; omega

theorem w61_add_l (a b : Int) : wrap61 (wrap61 a + b) = wrap61 (a + b) := by
  obtain ⟨q, hq⟩ := wrap61_ex a
  rw [hq, show a + 2305843009213693952 * q + b = a + b + 2305843009213693952 * q by omega, wrap61_add]
theorem w61_add_r (a b : Int) : wrap61 (a + wrap61 b) = wrap61 (a + b) := by rw [Int.add_comm, w61_add_l, Int.add_comm]
theorem w61_sub_r (a b : Int) : wrap61 (a - wrap61 b) = wrap61 (a - b) := by
  obtain ⟨q, hq⟩ := wrap61_ex b
  rw [hq, show a - (b + 2305843009213693952 * q) = a - b + 2305843009213693952 * (-q) by omega, wrap61_add]
theorem w61_mul_l (a b : Int) : wrap61 (wrap61 a * b) = wrap61 (a * b) := by
  obtain ⟨q, hq⟩ := wrap61_ex a
  rw [hq, Int.add_mul, Int.mul_assoc, wrap61_add]
theorem w61_mul_r (a b : Int) : wrap61 (a * wrap61 b) = wrap61 (a * b) := by rw [Int.mul_comm, w61_mul_l, Int.mul_comm]

theorem Sub_f (a b : Int) : fix_Sub.f a b = some (wrap61 (a - b)) := by
  unfold fix_Sub.f; rw [Wrap_f]; simp only [Option.bind_some]
  rw [wrap61_wrap64]

/-- Quotient and remainder of fixnums. -/
theorem div_facts (c d : Int) (hd : d ≠ 0) : d * Int.tdiv c d + Int.tmod c d = c ∧ (Int.tmod c d).natAbs < d.natAbs ∧ (Int.tdiv c d).natAbs ≤ c.natAbs ∧
    (Int.tmod c d = 0 ∨ (Int.tmod c d < 0 ↔ c < 0)) ∧ (Int.tdiv c d = 0 ∨ (Int.tdiv c d < 0 ↔ ¬ (c < 0 ↔ d < 0))) := by
  have h1 : d * Int.tdiv c d + Int.tmod c d = c := Int.mul_tdiv_add_tmod c d
  have h2 : (Int.tmod c d).natAbs = c.natAbs % d.natAbs := Int.natAbs_tmod ..
  have h3 : (Int.tdiv c d).natAbs = c.natAbs / d.natAbs := Int.natAbs_tdiv ..
  have hD : 0 < d.natAbs := by omega
  have h4 : c.natAbs % d.natAbs < d.natAbs := Nat.mod_lt _ hD
  have h5 : c.natAbs / d.natAbs ≤ c.natAbs := Nat.div_le_self _ _
  refine ⟨h1, by omega, by omega, ?_, ?_⟩
  · by_cases hc : 0 ≤ c
    · have := Int.tmod_nonneg d hc; omega
    · have h6 : Int.tmod c d ≤ 0 := by
        have := Int.tmod_nonneg d (show 0 ≤ -c by omega)
        rw [Int.neg_tmod] at this; omega
      omega
  · by_cases hq : Int.tdiv c d = 0
    · left; exact hq
    · right
      -- the signs
      rcases Int.lt_or_lt_of_ne hd with hd' | hd' <;> by_cases hc : c < 0
      · have : 0 ≤ Int.tdiv c d := by
          have := Int.tdiv_nonneg (a := -c) (b := -d) (by omega) (by omega)
          rw [Int.neg_tdiv, Int.tdiv_neg] at this; omega
        omega
      · have : Int.tdiv c d ≤ 0 := by
          have := Int.tdiv_nonneg (a := c) (b := -d) (by omega) (by omega)
          rw [Int.tdiv_neg] at this; omega
        omega
      · have : Int.tdiv c d ≤ 0 := by
          have := Int.tdiv_nonneg (a := -c) (b := d) (by omega) (by omega)
          rw [Int.neg_tdiv] at this; omega
        omega
      · have := Int.tdiv_nonneg (a := c) (b := d) (by omega) (by omega)
        omega

theorem Quot_f (a b : Int) : fix_Quot.f a b = some (if wrap61 b = 0 then 0 else wrap61 (Int.tdiv (wrap61 a) (wrap61 b))) := by
  unfold fix_Quot.f
  rw [Wrap_f]; simp only [Option.bind_some]
  by_cases h : wrap61 b = 0
  · rw [if_pos h, if_pos h]
  · rw [if_neg h, if_neg h, Wrap_f]; simp only [Option.bind_some]
    rw [Wrap_f]; simp only [Option.bind_some]
    rw [wrap61_wrap64]
theorem Rem_f (a b : Int) : fix_Rem.f a b = some (if wrap61 b = 0 then 0 else Int.tmod (wrap61 a) (wrap61 b)) := by
  unfold fix_Rem.f
  rw [Wrap_f]; simp only [Option.bind_some]
  by_cases h : wrap61 b = 0
  · rw [if_pos h, if_pos h]
  · rw [if_neg h, if_neg h, Wrap_f]; simp only [Option.bind_some]

end Go.Proofs.Ytpjcheenihlagaa.Fl
