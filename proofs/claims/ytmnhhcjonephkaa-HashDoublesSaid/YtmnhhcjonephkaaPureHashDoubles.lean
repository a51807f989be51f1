/- Proves: for every input, the capacities double from 4 to 512, a hash keeps its head or moves up by the old capacity, and a table grows at twice as many entries and not at one less. No condition beyond the statement's own. -/
import Derived.Test.YtmnhhcjonephkaaPHashDoublesx1
import Derived.Test.YtmnhhcjonephkaaHash
namespace Go.Proofs.Ytmnhhcjonephkaa.Pure
open Go.RowKit Go.Proofs.Ytmnhhcjonephkaa.PHashDoubles Go.Proofs.YtmnhhcjonephkaaW.PrintWords Go.Proofs.YtmnhhcjonephkaaW.PrintLast Go.Proofs.YtmnhhcjonephkaaW.PrintMore
namespace HashDoublesOf

theorem of_f (a b c : Int) : hash_Of.f a b c = some (Hh.hof a b c) := Hh.of_go a b c
theorem rof_f (a b c : Int) : hearthref11_Of.f a b c = some (Hh.hof a b c) := by
  unfold hearthref11_Of.f
  simp only [Hh.xof_comm]
  exact Hh.of_ref a b c
theorem spine_f (a : Int) : hash_spine.f a = some (Hh.cap a) := Hh.spine_go a
theorem slot_f (h c : Int) : hash_Slot.f h c = some (Hh.slot h c) := by
  unfold hash_Slot.f Hh.slot
  rw [spine_f]; simp only [Option.bind_some]
  by_cases hc : Hh.cap c = true
  · rw [if_pos hc, if_pos hc, Hh.slot_go hc]
  · rw [if_neg hc, if_neg hc]
theorem heads_f (c : Int) : hash_Heads.f c = some (Hh.heads c) := by
  unfold hash_Heads.f Hh.heads
  by_cases h0 : c = 0
  · rw [if_pos h0, if_pos h0]
  · rw [if_neg h0, if_neg h0, spine_f]; simp only [Option.bind_some]
    by_cases hc : Hh.cap c = true
    · have := Hh.cap_bd hc
      rw [if_pos hc]
      by_cases h5 : c < 512
      · rw [if_pos h5, if_pos ⟨hc, h5⟩, Hd.wrap_id (by unfold Hd.Fits; omega)]
      · rw [if_neg h5, if_neg (fun q => h5 q.2)]
    · rw [if_neg hc, if_neg (fun q => hc q.1)]
theorem grows_f (n c : Int) : hash_Grows.f n c = some (Hh.grows n c) := by
  unfold hash_Grows.f Hh.grows
  by_cases h0 : c = 0
  · rw [if_pos h0]; simp [h0]
  · rw [if_neg h0, spine_f]; simp only [Option.bind_some]
    by_cases hc : Hh.cap c = true
    · have := Hh.cap_bd hc
      rw [if_pos hc]
      by_cases h5 : c < 512
      · rw [if_pos h5, Hd.wrap_id (by unfold Hd.Fits; omega)]; simp [h0, hc, h5]
      · rw [if_neg h5]; simp [h0, h5]
    · rw [if_neg hc]; simp [h0, hc]
theorem alive_f : hearthlaw11_alive.f = some true := by
  unfold hearthlaw11_alive.f
  rw [slot_f, show Hh.slot 13 8 = 5 by decide]; simp only [Option.bind_some, if_true]
  rw [heads_f, show Hh.heads 256 = 512 by decide]; simp only [Option.bind_some, if_true]
  rw [grows_f, show Hh.grows 8 4 = true by decide]; simp only [Option.bind_some, if_true]
  rw [grows_f, show Hh.grows 7 4 = false by decide]; simp only [Option.bind_some, Bool.false_eq_true, if_false]
  rw [of_f, rof_f]; simp only [Option.bind_some, BEq.rfl]

theorem round_f (k : Nat) (h c : Int) (hc : Hh.cap c = true) (h5 : c < 512) : hearthlaw11_HashDoubles.l0 (k + 2) h c = hearthlaw11_HashDoubles.l0 k h (2 * c) := by
  have hb := Hh.cap_bd hc
  have hs := Hh.slot_bd (h := h) hc
  have w2 : wrap64 (2 * c) = 2 * c := Hd.wrap_id (by unfold Hd.Fits; omega)
  have w3 : wrap64 (2 * c - 1) = 2 * c - 1 := Hd.wrap_id (by unfold Hd.Fits; omega)
  have w4 : wrap64 (h % c + c) = h % c + c := Hd.wrap_id (by unfold Hd.Fits; omega)
  have s1 : Hh.slot h c = h % c := by unfold Hh.slot; rw [if_pos hc]
  have s2 : Hh.slot h (2 * c) = h % (2 * c) := by unfold Hh.slot; rw [if_pos (Hh.cap_double hc h5)]
  have g1 : Hh.grows (2 * c) c = true := by unfold Hh.grows; simp [hc, h5]
  have g2 : Hh.grows (2 * c - 1) c = false := by unfold Hh.grows; simp [hc, h5]; omega
  have d1 : Hh.heads c = 2 * c := by unfold Hh.heads; rw [if_neg (by omega), if_pos ⟨hc, h5⟩]
  simp only [hearthlaw11_HashDoubles.l0]
  rw [if_pos h5, slot_f, s1]; simp only [Option.bind_some]
  rw [if_neg (by omega), if_neg (by omega), w2, grows_f, g1]; simp only [Option.bind_some, if_true]
  rw [w3, grows_f, g2]; simp only [Option.bind_some, Bool.false_eq_true, if_false]
  rw [heads_f, d1]; simp only [Option.bind_some, bne_self_eq_false]
  simp only [hearthlaw11_HashDoubles.j2, Bool.false_eq_true, if_false]
  rw [w2, slot_f, s2]; simp only [Option.bind_some]
  rw [w4]
  by_cases e : h % (2 * c) = h % c
  · rw [if_pos e]
  · rw [if_neg e, if_pos]
    exact (Hh.two_mod hc).resolve_left e
end HashDoublesOf
open HashDoublesOf

theorem HashDoubles : hearthlaw11_HashDoubles.Pure := by
  intro h _
  refine ⟨16, ?_⟩
  unfold hearthlaw11_HashDoubles.f
  rw [alive_f]; simp only [Option.bind_some, if_true]
  rw [grows_f, show Hh.grows 0 0 = true by decide]; simp only [Option.bind_some, if_true]
  rw [heads_f, show Hh.heads 0 = 4 by decide]; simp only [Option.bind_some, bne_self_eq_false]
  simp only [hearthlaw11_HashDoubles.j0, Bool.false_eq_true, if_false]
  rw [round_f 13 h 4 (by decide) (by omega), round_f 11 h (2 * 4) (by decide) (by omega), round_f 9 h (2 * (2 * 4)) (by decide) (by omega),
    round_f 7 h (2 * (2 * (2 * 4))) (by decide) (by omega), round_f 5 h (2 * (2 * (2 * (2 * 4)))) (by decide) (by omega),
    round_f 3 h (2 * (2 * (2 * (2 * (2 * 4))))) (by decide) (by omega), round_f 1 h (2 * (2 * (2 * (2 * (2 * (2 * 4)))))) (by decide) (by omega)]
  rw [show (2 * (2 * (2 * (2 * (2 * (2 * (2 * 4)))))) : Int) = 512 by decide]
  have hs := Hh.slot_bd (h := h) (c := 512) (by decide)
  have s1 : Hh.slot h 512 = h % 512 := by unfold Hh.slot; rw [if_pos (by decide)]
  simp only [hearthlaw11_HashDoubles.l0]
  rw [if_neg (by omega), slot_f, s1]; simp only [Option.bind_some]
  rw [if_pos (by omega), heads_f, show Hh.heads 512 = 0 by decide]; simp only [Option.bind_some, if_true]
  rw [grows_f, show Hh.grows 4611686018427387904 512 = false by decide]; simp only [Option.bind_some, Bool.false_eq_true, if_false]
  rw [slot_f, show wrap64 (2 * 512) = 1024 by unfold wrap64; omega]
  have s2 : Hh.slot h 1024 = -1 := by unfold Hh.slot; rw [if_neg (by decide)]
  rw [s2]; rfl

end Go.Proofs.Ytmnhhcjonephkaa.Pure
