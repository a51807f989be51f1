/- Proves: for every input, the hash of any key and serial is the reference's, hangs on the right one of number and serial, and has 32 bits. No condition beyond the statement's own. -/
import Derived.Test.YtmnhhcjonephkaaPHashAllx1
import Derived.Test.YtmnhhcjonephkaaHash
namespace Go.Proofs.Ytmnhhcjonephkaa.Pure
open Go.RowKit Go.Proofs.Ytmnhhcjonephkaa.PHashAll Go.Proofs.YtmnhhcjonephkaaW.PrintWords Go.Proofs.YtmnhhcjonephkaaW.PrintLast Go.Proofs.YtmnhhcjonephkaaW.PrintMore
namespace HashOfOf

theorem of_f (a b c : Int) : hash_Of.f a b c = some (Hh.hof a b c) := Hh.of_go a b c
theorem rof_f (a b c : Int) : hearthref11_Of.f a b c = some (Hh.hof a b c) := by
  unfold hearthref11_Of.f
  simp only [Hh.xof_comm]
  exact Hh.of_ref a b c
theorem spine_f (a : Int) : hash_spine.f a = some (Hh.cap a) := Hh.spine_go a
theorem slot_f (h c : Int) : hash_Slot.f h c = some (Hh.slot h c) := by
  unfold hash_Slot.f Hh.slot
  rw [spine_f]; simp only [Option.bind_some]
  by_cases hc : Hh.cap c = true
  · rw [if_pos hc, if_pos hc, Hh.slot_go hc]
  · rw [if_neg hc, if_neg hc]
theorem heads_f (c : Int) : hash_Heads.f c = some (Hh.heads c) := by
  unfold hash_Heads.f Hh.heads
  by_cases h0 : c = 0
  · rw [if_pos h0, if_pos h0]
  · rw [if_neg h0, if_neg h0, spine_f]; simp only [Option.bind_some]
    by_cases hc : Hh.cap c = true
    · have := Hh.cap_bd hc
      rw [if_pos hc]
      by_cases h5 : c < 512
      · rw [if_pos h5, if_pos ⟨hc, h5⟩, Hd.wrap_id (by unfold Hd.Fits; omega)]
      · rw [if_neg h5, if_neg (fun q => h5 q.2)]
    · rw [if_neg hc, if_neg (fun q => hc q.1)]
theorem grows_f (n c : Int) : hash_Grows.f n c = some (Hh.grows n c) := by
  unfold hash_Grows.f Hh.grows
  by_cases h0 : c = 0
  · rw [if_pos h0]; simp [h0]
  · rw [if_neg h0, spine_f]; simp only [Option.bind_some]
    by_cases hc : Hh.cap c = true
    · have := Hh.cap_bd hc
      rw [if_pos hc]
      by_cases h5 : c < 512
      · rw [if_pos h5, Hd.wrap_id (by unfold Hd.Fits; omega)]; simp [h0, hc, h5]
      · rw [if_neg h5]; simp [h0, h5]
    · rw [if_neg hc]; simp [h0, hc]
theorem alive_f : hearthlaw11_alive.f = some true := by
  unfold hearthlaw11_alive.f
  rw [slot_f, show Hh.slot 13 8 = 5 by decide]; simp only [Option.bind_some, if_true]
  rw [heads_f, show Hh.heads 256 = 512 by decide]; simp only [Option.bind_some, if_true]
  rw [grows_f, show Hh.grows 8 4 = true by decide]; simp only [Option.bind_some, if_true]
  rw [grows_f, show Hh.grows 7 4 = false by decide]; simp only [Option.bind_some, Bool.false_eq_true, if_false]
  rw [of_f, rof_f]; simp only [Option.bind_some, BEq.rfl]
end HashOfOf
open HashOfOf

theorem HashOf_j (k : Nat) (a b c d e f y0 y1 s : Int) (he : Hh.hof y0 y1 s = Hh.hof a b c) : hearthlaw11_HashOf.j1 (k + 1) s a b c d e f y0 y1 = some true := by
  have hb := Hh.hof_bd a b c
  have h1 := of_f a b c
  have h2 := rof_f a b c
  have h3 := of_f y0 y1 s
  rw [he] at h3
  generalize Hh.hof a b c = g at *
  simp only [hearthlaw11_HashOf.j1]
  rw [h1, alive_f]; simp only [Option.bind_some, if_true]
  rw [h2]; simp only [Option.bind_some, if_true]
  rw [h3]; simp only [Option.bind_some, if_true]
  rw [if_pos hb.1, decide_eq_true hb.2]

theorem HashOf_k (k : Nat) (a b c d e f : Int) : hearthlaw11_HashOf.f (k + 2) a b c d e f = some true := by
  unfold hearthlaw11_HashOf.f
  by_cases h2 : a = 2
  · have e : Hh.hof a d c = Hh.hof a b c := by unfold Hh.hof; rw [if_pos h2, if_pos h2]
    rw [if_pos h2]
    simp only [hearthlaw11_HashOf.j0]
    rw [if_pos h2]
    exact HashOf_j k a b c d _ f a d c e
  · have e : Hh.hof a b d = Hh.hof a b c := by unfold Hh.hof; rw [if_neg h2, if_neg h2]
    rw [if_neg h2]
    simp only [hearthlaw11_HashOf.j0]
    rw [if_neg h2]
    exact HashOf_j k a b c d _ f a b d e

theorem HashOf (a b c d e f : Int) (_ : (Lit.int .i64 a).wf = true) (_ : (Lit.int .i64 b).wf = true) (_ : (Lit.int .i64 c).wf = true) (_ : (Lit.int .i64 d).wf = true) (_ : (Lit.int .i64 e).wf = true) (_ : (Lit.int .i64 f).wf = true) :
    ∃ k, hearthlaw11_HashOf.f k a b c d e f = some true := ⟨2, HashOf_k 0 a b c d e f⟩

end Go.Proofs.Ytmnhhcjonephkaa.Pure
