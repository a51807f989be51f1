/- Proves: for every input, Heads and Grows answer as the reference does. No condition beyond the statement's own. -/
import Derived.Test.YtmnhhcjonephkaaPHashAllx3
import Derived.Test.YtmnhhcjonephkaaHash
namespace Go.Proofs.Ytmnhhcjonephkaa.Pure
open Go.RowKit Go.Proofs.Ytmnhhcjonephkaa.PHashAll Go.Proofs.YtmnhhcjonephkaaW.PrintWords Go.Proofs.YtmnhhcjonephkaaW.PrintLast Go.Proofs.YtmnhhcjonephkaaW.PrintMore
namespace HashGrowsOf

theorem of_f (a b c : Int) : hash_Of.f a b c = some (Hh.hof a b c) := Hh.of_go a b c
theorem rof_f (a b c : Int) : hearthref11_Of.f a b c = some (Hh.hof a b c) := by
  unfold hearthref11_Of.f
  simp only [Hh.xof_comm]
  exact Hh.of_ref a b c
theorem spine_f (a : Int) : hash_spine.f a = some (Hh.cap a) := Hh.spine_go a
theorem slot_f (h c : Int) : hash_Slot.f h c = some (Hh.slot h c) := by
  unfold hash_Slot.f Hh.slot
  rw [spine_f]; simp only [Option.bind_some]
  by_cases hc : Hh.cap c = true
  · rw [if_pos hc, if_pos hc, Hh.slot_go hc]
  · rw [if_neg hc, if_neg hc]
theorem heads_f (c : Int) : hash_Heads.f c = some (Hh.heads c) := by
  unfold hash_Heads.f Hh.heads
  by_cases h0 : c = 0
  · rw [if_pos h0, if_pos h0]
  · rw [if_neg h0, if_neg h0, spine_f]; simp only [Option.bind_some]
    by_cases hc : Hh.cap c = true
    · have := Hh.cap_bd hc
      rw [if_pos hc]
      by_cases h5 : c < 512
      · rw [if_pos h5, if_pos ⟨hc, h5⟩, Hd.wrap_id (by unfold Hd.Fits; omega)]
      · rw [if_neg h5, if_neg (fun q => h5 q.2)]
    · rw [if_neg hc, if_neg (fun q => hc q.1)]
theorem grows_f (n c : Int) : hash_Grows.f n c = some (Hh.grows n c) := by
  unfold hash_Grows.f Hh.grows
  by_cases h0 : c = 0
  · rw [if_pos h0]; simp [h0]
  · rw [if_neg h0, spine_f]; simp only [Option.bind_some]
    by_cases hc : Hh.cap c = true
    · have := Hh.cap_bd hc
      rw [if_pos hc]
      by_cases h5 : c < 512
      · rw [if_pos h5, Hd.wrap_id (by unfold Hd.Fits; omega)]; simp [h0, hc, h5]
      · rw [if_neg h5]; simp [h0, h5]
    · rw [if_neg hc]; simp [h0, hc]
theorem alive_f : hearthlaw11_alive.f = some true := by
  unfold hearthlaw11_alive.f
  rw [slot_f, show Hh.slot 13 8 = 5 by decide]; simp only [Option.bind_some, if_true]
  rw [heads_f, show Hh.heads 256 = 512 by decide]; simp only [Option.bind_some, if_true]
  rw [grows_f, show Hh.grows 8 4 = true by decide]; simp only [Option.bind_some, if_true]
  rw [grows_f, show Hh.grows 7 4 = false by decide]; simp only [Option.bind_some, Bool.false_eq_true, if_false]
  rw [of_f, rof_f]; simp only [Option.bind_some, BEq.rfl]

theorem rspine_f (k : Nat) (hk : 9 ≤ k) (a : Int) : hearthref11_spine.f k a = some (Hh.cap a) :=
  Hh.spine_ref hearthref11_spine.l0 (fun _ _ _ => rfl) k hk a

theorem rheads_f (k : Nat) (hk : 9 ≤ k) (c : Int) : hearthref11_Heads.f k c = some (Hh.heads c) := by
  unfold hearthref11_Heads.f Hh.heads
  by_cases h0 : c = 0
  · rw [if_pos h0, if_pos h0]
  · rw [if_neg h0, if_neg h0, rspine_f k hk]; simp only [Option.bind_some]
    by_cases hc : Hh.cap c = true
    · have hb := Hh.cap_bd hc
      rw [if_pos hc]
      by_cases h5 : c = 512
      · rw [if_pos h5, if_neg (fun q => by omega)]
      · rw [if_neg h5, if_pos ⟨hc, by omega⟩, Hd.wrap_id (by unfold Hd.Fits; omega)]
    · rw [if_neg hc, if_neg (fun q => hc q.1)]
theorem rgrows_f (k : Nat) (hk : 9 ≤ k) (n c : Int) : hearthref11_Grows.f k n c = some (Hh.grows n c) := by
  unfold hearthref11_Grows.f Hh.grows
  by_cases h0 : c = 0
  · rw [if_pos h0]; simp [h0]
  · rw [if_neg h0, rheads_f k hk]; simp only [Option.bind_some]
    unfold Hh.heads
    rw [if_neg h0]
    by_cases hc : Hh.cap c = true ∧ c < 512
    · have hb := Hh.cap_bd hc.1
      rw [if_pos hc, if_pos (by omega), Hd.wrap_id (by unfold Hd.Fits; omega)]; simp [h0, hc.1, hc.2]
    · rw [if_neg hc, if_neg (by omega)]
      congr 1; symm
      simp only [decide_eq_false_iff_not]
      rintro (q | ⟨q1, q2, _⟩)
      · exact h0 q
      · exact hc ⟨q1, q2⟩
end HashGrowsOf
open HashGrowsOf

theorem HashGrows_k (k : Nat) (hk : 9 ≤ k) (a b c d e f : Int) : hearthlaw11_HashGrows.f k a b c d e f = some true := by
  unfold hearthlaw11_HashGrows.f
  rw [alive_f]; simp only [Option.bind_some, if_true]
  rw [heads_f, rheads_f k hk]; simp only [Option.bind_some, if_true]
  rw [grows_f, rgrows_f k hk]; simp only [Option.bind_some, BEq.rfl]

theorem HashGrows (a b c d e f : Int) (_ : (Lit.int .i64 a).wf = true) (_ : (Lit.int .i64 b).wf = true) (_ : (Lit.int .i64 c).wf = true) (_ : (Lit.int .i64 d).wf = true) (_ : (Lit.int .i64 e).wf = true) (_ : (Lit.int .i64 f).wf = true) :
    ∃ k, hearthlaw11_HashGrows.f k a b c d e f = some true := ⟨9, HashGrows_k 9 (Nat.le_refl _) a b c d e f⟩

end Go.Proofs.Ytmnhhcjonephkaa.Pure
