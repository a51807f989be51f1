/- Proves: for every input, the head of any hash at any capacity is the reference's, and hashes a capacity apart have one head. No condition beyond the statement's own. -/
import Derived.Test.YtmnhhcjonephkaaPHashAllx2
import Derived.Test.YtmnhhcjonephkaaHash
namespace Go.Proofs.Ytmnhhcjonephkaa.Pure
open Go.RowKit Go.Proofs.Ytmnhhcjonephkaa.PHashAll Go.Proofs.YtmnhhcjonephkaaW.PrintWords Go.Proofs.YtmnhhcjonephkaaW.PrintLast Go.Proofs.YtmnhhcjonephkaaW.PrintMore
namespace HashSlotsOf

theorem of_f (a b c : Int) : hash_Of.f a b c = some (Hh.hof a b c) := Hh.of_go a b c
theorem rof_f (a b c : Int) : hearthref11_Of.f a b c = some (Hh.hof a b c) := by
  unfold hearthref11_Of.f
  simp only [Hh.xof_comm]
  exact Hh.of_ref a b c
theorem spine_f (a : Int) : hash_spine.f a = some (Hh.cap a) := Hh.spine_go a
theorem slot_f (h c : Int) : hash_Slot.f h c = some (Hh.slot h c) := by
  unfold hash_Slot.f Hh.slot
  rw [spine_f]; simp only [Option.bind_some]
  by_cases hc : Hh.cap c = true
  · rw [if_pos hc, if_pos hc, Hh.slot_go hc]
  · rw [if_neg hc, if_neg hc]
theorem heads_f (c : Int) : hash_Heads.f c = some (Hh.heads c) := by
  unfold hash_Heads.f Hh.heads
  by_cases h0 : c = 0
  · rw [if_pos h0, if_pos h0]
  · rw [if_neg h0, if_neg h0, spine_f]; simp only [Option.bind_some]
    by_cases hc : Hh.cap c = true
    · have := Hh.cap_bd hc
      rw [if_pos hc]
      by_cases h5 : c < 512
      · rw [if_pos h5, if_pos ⟨hc, h5⟩, Hd.wrap_id (by unfold Hd.Fits; omega)]
      · rw [if_neg h5, if_neg (fun q => h5 q.2)]
    · rw [if_neg hc, if_neg (fun q => hc q.1)]
theorem grows_f (n c : Int) : hash_Grows.f n c = some (Hh.grows n c) := by
  unfold hash_Grows.f Hh.grows
  by_cases h0 : c = 0
  · rw [if_pos h0]; simp [h0]
  · rw [if_neg h0, spine_f]; simp only [Option.bind_some]
    by_cases hc : Hh.cap c = true
    · have := Hh.cap_bd hc
      rw [if_pos hc]
      by_cases h5 : c < 512
      · rw [if_pos h5, Hd.wrap_id (by unfold Hd.Fits; omega)]; simp [h0, hc, h5]
      · rw [if_neg h5]; simp [h0, h5]
    · rw [if_neg hc]; simp [h0, hc]
theorem alive_f : hearthlaw11_alive.f = some true := by
  unfold hearthlaw11_alive.f
  rw [slot_f, show Hh.slot 13 8 = 5 by decide]; simp only [Option.bind_some, if_true]
  rw [heads_f, show Hh.heads 256 = 512 by decide]; simp only [Option.bind_some, if_true]
  rw [grows_f, show Hh.grows 8 4 = true by decide]; simp only [Option.bind_some, if_true]
  rw [grows_f, show Hh.grows 7 4 = false by decide]; simp only [Option.bind_some, Bool.false_eq_true, if_false]
  rw [of_f, rof_f]; simp only [Option.bind_some, BEq.rfl]

theorem rspine_f (k : Nat) (hk : 9 ≤ k) (a : Int) : hearthref11_spine.f k a = some (Hh.cap a) :=
  Hh.spine_ref hearthref11_spine.l0 (fun _ _ _ => rfl) k hk a

theorem rslot_f (k : Nat) (hk : 9 ≤ k) (h c : Int) : hearthref11_Slot.f k h c = some (Hh.slot h c) := by
  unfold hearthref11_Slot.f Hh.slot
  rw [rspine_f k hk]; simp only [Option.bind_some]
  by_cases hc : Hh.cap c = true
  · have hb := Hh.cap_bd hc
    rw [if_pos hc, if_pos hc, if_neg (by omega), Hh.slot_ref hc]
  · rw [if_neg hc, if_neg hc]
end HashSlotsOf
open HashSlotsOf

theorem HashSlots_k (k : Nat) (hk : 9 ≤ k) (a b c d e f : Int) : hearthlaw11_HashSlots.f k a b c d e f = some true := by
  unfold hearthlaw11_HashSlots.f
  rw [slot_f, alive_f]; simp only [Option.bind_some, if_true]
  rw [rslot_f k hk]; simp only [Option.bind_some, bne_self_eq_false]
  obtain ⟨k, rfl⟩ : ∃ m, k = m + 1 := ⟨k - 1, by omega⟩
  simp only [hearthlaw11_HashSlots.j0, Bool.false_eq_true, if_false]
  by_cases hc : Hh.cap f = true
  · have hs := Hh.slot_bd (h := d) hc
    have s1 : ∀ h, Hh.slot h f = h % f := fun h => by unfold Hh.slot; rw [if_pos hc]
    have e1 : d % f % f = d % f := Int.emod_emod _ _
    rw [s1, if_neg (by omega), if_pos hs.2, slot_f, s1, e1]; simp only [Option.bind_some, if_true]
    rw [slot_f, s1, Hh.slot_xor hc]; simp
  · have s1 : Hh.slot d f = -1 := by unfold Hh.slot; rw [if_neg hc]
    rw [s1, if_pos (by omega)]; rfl

theorem HashSlots (a b c d e f : Int) (_ : (Lit.int .i64 a).wf = true) (_ : (Lit.int .i64 b).wf = true) (_ : (Lit.int .i64 c).wf = true) (_ : (Lit.int .i64 d).wf = true) (_ : (Lit.int .i64 e).wf = true) (_ : (Lit.int .i64 f).wf = true) :
    ∃ k, hearthlaw11_HashSlots.f k a b c d e f = some true := ⟨9, HashSlots_k 9 (Nat.le_refl _) a b c d e f⟩

end Go.Proofs.Ytmnhhcjonephkaa.Pure
