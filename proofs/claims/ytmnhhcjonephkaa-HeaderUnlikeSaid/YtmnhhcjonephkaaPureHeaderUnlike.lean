/- Proves: for every input, unlike numbers have unlike headers. No condition beyond the statement's own. -/
import Derived.Test.YtmnhhcjonephkaaPHeaderUnlikex1
import Derived.Test.YtmnhhcjonephkaaHead
namespace Go.Proofs.Ytmnhhcjonephkaa.Pure
open Go.RowKit Go.Proofs.Ytmnhhcjonephkaa.PHeaderUnlike Go.Proofs.YtmnhhcjonephkaaW.PrintWords Go.Proofs.YtmnhhcjonephkaaW.PrintLast Go.Proofs.YtmnhhcjonephkaaW.PrintMore
namespace HeaderUnlikeOf

theorem make_f (a b c : Int) : header_Make.f a b c = some (Hd.mk a b c) := Hd.make_go a b c

theorem read_f (a w : Int) : header_Read.f a w = some (Hd.rd a w) := by
  unfold header_Read.f
  rw [Hd.and31, Hd.and2047]
  rw [show w / 8 % 32 = w / 8 % 32 from rfl, make_f]
  simp only [Option.bind_some]
  exact Hd.read_go a w

theorem good_f (a b c : Int) : hearthref5_good.f a b c = some (Hd.good a b c) := Hd.good_go a b c

theorem sign_f (k : Nat) (hk : 64 ≤ k) (x : Int) (h0 : 0 ≤ x) (h1 : x < 9223372036854775808) : hearthref5_sign.f k x = some (Hd.sg x) :=
  Hd.sign_of hearthref5_sign.l0 (fun _ _ _ _ => rfl) k x hk h0 h1
theorem rmake_f (k : Nat) (hk : 64 ≤ k) (a b c : Int) : hearthref5_Make.f k a b c = some (Hd.mk a b c) := by
  unfold hearthref5_Make.f
  rw [good_f]
  simp only [Option.bind_some]
  by_cases h : Hd.good a b c = true
  · have hn := Hd.num_bd h
    obtain ⟨e1, e2⟩ := Hd.rmake_arith h
    rw [if_pos h, e1, sign_f k hk _ hn.1 (by omega)]
    simp only [Option.bind_some]
    rw [e2]
  · rw [if_neg h, Hd.mk_bad (by simpa using h)]

theorem alive_f (k : Nat) (hk : 64 ≤ k) : hearthlaw5_alive.f k = some true := by
  unfold hearthlaw5_alive.f
  rw [make_f]; simp only [Option.bind_some]
  rw [read_f, Hd.rd_mk (by decide), rmake_f k hk]; simp only [Option.bind_some, if_true]
  rfl

theorem lgood_f (a b c : Int) : hearthlaw5_good.f a b c = some (Hd.good a b c) := Hd.good_go a b c
end HeaderUnlikeOf
open HeaderUnlikeOf

theorem HeaderUnlike : hearthlaw5_HeaderUnlike.Pure := by
  intro a b c a' b' c' _ _ _ _ _ _
  refine ⟨66, ?_⟩
  unfold hearthlaw5_HeaderUnlike.f
  rw [alive_f 66 (by omega), lgood_f, lgood_f]; simp only [Option.bind_some, if_true]
  by_cases g : Hd.good a b c = true
  · by_cases g' : Hd.good a' b' c' = true
    · rw [if_pos g, g']
      have last : ∀ q : Bool, (q = true ↔ (a = a' ∧ b = b' ∧ c = c')) → hearthlaw5_HeaderUnlike.j1 65 a b c a' b' c' q = some true := by
        intro q hq
        have gi := Hd.good_iff.1 g
        have t : Int.tmod c 1024 = c % 1024 := Int.tmod_eq_emod_of_nonneg (by omega)
        have t2 : wrap64 (c % 1024 + 1) = c % 1024 + 1 := Hd.wrap_id (by unfold Hd.Fits; omega)
        simp only [hearthlaw5_HeaderUnlike.j1]
        rw [make_f, make_f, t, t2, make_f]; simp only [Option.bind_some]
        have e1 : (Hd.mk a b c == Hd.mk a' b' c') = q := by
          rw [Bool.eq_iff_iff, hq]
          constructor
          · intro e
            have := Hd.mk_inj g' (beq_iff_eq.1 e)
            exact this
          · rintro ⟨rfl, rfl, rfl⟩; simp
        rw [e1, if_pos (by simp)]
        have : (Hd.mk a b c != Hd.mk a b (c % 1024 + 1)) = true := by
          rw [bne_iff_ne]
          intro e
          have := (Hd.mk_inj g e.symm).2.2
          omega
        rw [this]
      simp only [hearthlaw5_HeaderUnlike.j0, Bool.not_true, Bool.false_eq_true, if_false]
      by_cases ha : a = a'
      · rw [if_pos ha]
        by_cases hb : b = b'
        · rw [if_pos hb]; exact last _ (by simp [ha, hb])
        · rw [if_neg hb]; exact last _ (by simp [hb])
      · rw [if_neg ha]; exact last _ (by simp [ha])
    · have g'' : Hd.good a' b' c' = false := by simpa using g'
      rw [if_pos g, g'']
      simp only [hearthlaw5_HeaderUnlike.j0, Bool.not_false, if_true]
      rw [alive_f 65 (by omega)]; rfl
  · rw [if_neg g]
    simp only [hearthlaw5_HeaderUnlike.j0, if_true]
    rw [alive_f 65 (by omega)]; rfl

end Go.Proofs.Ytmnhhcjonephkaa.Pure
