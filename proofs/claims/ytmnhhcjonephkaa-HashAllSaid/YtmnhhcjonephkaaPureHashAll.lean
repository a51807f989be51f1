/- Proves: for every input, all calls, one behind the other and again, answer as the reference does. No condition beyond the statement's own. -/
import Derived.Test.YtmnhhcjonephkaaPHashAllx4
import Derived.Test.YtmnhhcjonephkaaHash
import Derived.Test.YtmnhhcjonephkaaPureHashOf
import Derived.Test.YtmnhhcjonephkaaPureHashSlots
import Derived.Test.YtmnhhcjonephkaaPureHashGrows
namespace Go.Proofs.Ytmnhhcjonephkaa.Pure
open Go.RowKit Go.Proofs.Ytmnhhcjonephkaa.PHashAll Go.Proofs.YtmnhhcjonephkaaW.PrintWords Go.Proofs.YtmnhhcjonephkaaW.PrintLast Go.Proofs.YtmnhhcjonephkaaW.PrintMore
namespace HashAllOf

theorem of_f (a b c : Int) : hash_Of.f a b c = some (Hh.hof a b c) := Hh.of_go a b c
theorem rof_f (a b c : Int) : hearthref11_Of.f a b c = some (Hh.hof a b c) := by
  unfold hearthref11_Of.f
  simp only [Hh.xof_comm]
  exact Hh.of_ref a b c
theorem spine_f (a : Int) : hash_spine.f a = some (Hh.cap a) := Hh.spine_go a
theorem slot_f (h c : Int) : hash_Slot.f h c = some (Hh.slot h c) := by
  unfold hash_Slot.f Hh.slot
  rw [spine_f]; simp only [Option.bind_some]
  by_cases hc : Hh.cap c = true
  · rw [if_pos hc, if_pos hc, Hh.slot_go hc]
  · rw [if_neg hc, if_neg hc]
theorem heads_f (c : Int) : hash_Heads.f c = some (Hh.heads c) := by
  unfold hash_Heads.f Hh.heads
  by_cases h0 : c = 0
  · rw [if_pos h0, if_pos h0]
  · rw [if_neg h0, if_neg h0, spine_f]; simp only [Option.bind_some]
    by_cases hc : Hh.cap c = true
    · have := Hh.cap_bd hc
      rw [if_pos hc]
      by_cases h5 : c < 512
      · rw [if_pos h5, if_pos ⟨hc, h5⟩, Hd.wrap_id (by unfold Hd.Fits; omega)]
      · rw [if_neg h5, if_neg (fun q => h5 q.2)]
    · rw [if_neg hc, if_neg (fun q => hc q.1)]
theorem grows_f (n c : Int) : hash_Grows.f n c = some (Hh.grows n c) := by
  unfold hash_Grows.f Hh.grows
  by_cases h0 : c = 0
  · rw [if_pos h0]; simp [h0]
  · rw [if_neg h0, spine_f]; simp only [Option.bind_some]
    by_cases hc : Hh.cap c = true
    · have := Hh.cap_bd hc
      rw [if_pos hc]
      by_cases h5 : c < 512
      · rw [if_pos h5, Hd.wrap_id (by unfold Hd.Fits; omega)]; simp [h0, hc, h5]
      · rw [if_neg h5]; simp [h0, h5]
    · rw [if_neg hc]; simp [h0, hc]
theorem alive_f : hearthlaw11_alive.f = some true := by
  unfold hearthlaw11_alive.f
  rw [slot_f, show Hh.slot 13 8 = 5 by decide]; simp only [Option.bind_some, if_true]
  rw [heads_f, show Hh.heads 256 = 512 by decide]; simp only [Option.bind_some, if_true]
  rw [grows_f, show Hh.grows 8 4 = true by decide]; simp only [Option.bind_some, if_true]
  rw [grows_f, show Hh.grows 7 4 = false by decide]; simp only [Option.bind_some, Bool.false_eq_true, if_false]
  rw [of_f, rof_f]; simp only [Option.bind_some, BEq.rfl]

theorem inner_f (l : List S38) (hl : l.length ≤ 9223372036854775807) (d : Nat) : ∀ (k : Nat) (r i : Int), 9 ≤ k → 0 ≤ i → i ≤ l.length → (l.length : Int) - i = d →
    hearthlaw11_HashAll.l1 (k + d + 1) l r i = hearthlaw11_HashAll.l0 k l (wrap64 (r + 1)) := by
  induction d with
  | zero =>
    intro k r i _ _ h1 hd
    rw [hearthlaw11_HashAll.l1, if_neg (by omega)]
  | succ d ih =>
    intro k r i hk h0 h1 hd
    rw [show k + (d + 1) + 1 = (k + d + 1) + 1 by omega, hearthlaw11_HashAll.l1]
    rw [if_pos (by omega), if_pos h0, show k + d + 1 = (k + d - 1) + 2 by omega, HashOf_k]; simp only [Option.bind_some, if_true]
    rw [HashSlots_k _ (by omega)]; simp only [Option.bind_some, if_true]
    rw [HashGrows_k _ (by omega)]; simp only [Option.bind_some, if_true]
    rw [Hd.wrap_id (by unfold Hd.Fits; omega), show k + d - 1 + 2 = k + d + 1 by omega]
    exact ih k r (i + 1) hk (by omega) (by omega) (by omega)
end HashAllOf
open HashAllOf

theorem HashAll (l : List S38) (hl : l.length ≤ 9223372036854775807) (_ : ∀ x ∈ l, (Lit.int .i64 x.f0.f0).wf = true ∧ (Lit.int .i64 x.f0.f1).wf = true ∧ (Lit.int .i64 x.f1).wf = true ∧ (Lit.int .i64 x.f2).wf = true ∧ (Lit.int .i64 x.f3).wf = true ∧ (Lit.int .i64 x.f4).wf = true) :
    ∃ k, hearthlaw11_HashAll.f k l = some true := by
  refine ⟨(((9 + 1) + l.length + 1) + 1 + l.length + 1) + 1, ?_⟩
  unfold hearthlaw11_HashAll.f
  rw [show (((9 + 1) + l.length + 1) + 1 + l.length + 1) + 1 = ((9 + 1 + l.length + 1 + 1) + l.length + 1) + 1 by omega]
  rw [hearthlaw11_HashAll.l0, if_pos (by omega), inner_f l hl l.length _ 0 0 (by omega) (by omega) (by omega) (by omega)]
  rw [show wrap64 (0 + 1) = 1 by unfold wrap64; omega]
  rw [show 9 + 1 + l.length + 1 + 1 = (9 + 1 + l.length + 1) + 1 by omega]
  rw [hearthlaw11_HashAll.l0, if_pos (by omega), inner_f l hl l.length _ 1 0 (by omega) (by omega) (by omega) (by omega)]
  rw [show wrap64 (1 + 1) = 2 by unfold wrap64; omega]
  rw [hearthlaw11_HashAll.l0, if_neg (by omega), alive_f]; rfl

end Go.Proofs.Ytmnhhcjonephkaa.Pure
