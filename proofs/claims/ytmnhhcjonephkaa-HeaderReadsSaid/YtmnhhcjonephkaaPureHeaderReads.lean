/- Proves: for every input, what package header reads of any word at any place is what the reference reads. No condition beyond the statement's own. -/
import Derived.Test.YtmnhhcjonephkaaPHeaderReadsx1
import Derived.Test.YtmnhhcjonephkaaHead
namespace Go.Proofs.Ytmnhhcjonephkaa.Pure
open Go.RowKit Go.Proofs.Ytmnhhcjonephkaa.PHeaderReads Go.Proofs.YtmnhhcjonephkaaW.PrintWords Go.Proofs.YtmnhhcjonephkaaW.PrintLast Go.Proofs.YtmnhhcjonephkaaW.PrintMore
namespace HeaderReadsOf

theorem make_f (a b c : Int) : header_Make.f a b c = some (Hd.mk a b c) := Hd.make_go a b c

theorem read_f (a w : Int) : header_Read.f a w = some (Hd.rd a w) := by
  unfold header_Read.f
  rw [Hd.and31, Hd.and2047]
  rw [show w / 8 % 32 = w / 8 % 32 from rfl, make_f]
  simp only [Option.bind_some]
  exact Hd.read_go a w

theorem good_f (a b c : Int) : hearthref5_good.f a b c = some (Hd.good a b c) := Hd.good_go a b c

theorem sign_f (k : Nat) (hk : 64 ≤ k) (x : Int) (h0 : 0 ≤ x) (h1 : x < 9223372036854775808) : hearthref5_sign.f k x = some (Hd.sg x) :=
  Hd.sign_of hearthref5_sign.l0 (fun _ _ _ _ => rfl) k x hk h0 h1
theorem rmake_f (k : Nat) (hk : 64 ≤ k) (a b c : Int) : hearthref5_Make.f k a b c = some (Hd.mk a b c) := by
  unfold hearthref5_Make.f
  rw [good_f]
  simp only [Option.bind_some]
  by_cases h : Hd.good a b c = true
  · have hn := Hd.num_bd h
    obtain ⟨e1, e2⟩ := Hd.rmake_arith h
    rw [if_pos h, e1, sign_f k hk _ hn.1 (by omega)]
    simp only [Option.bind_some]
    rw [e2]
  · rw [if_neg h, Hd.mk_bad (by simpa using h)]

theorem alive_f (k : Nat) (hk : 64 ≤ k) : hearthlaw5_alive.f k = some true := by
  unfold hearthlaw5_alive.f
  rw [make_f]; simp only [Option.bind_some]
  rw [read_f, Hd.rd_mk (by decide), rmake_f k hk]; simp only [Option.bind_some, if_true]
  rfl

theorem rread_f (k : Nat) (hk : 65 ≤ k) (a w : Int) (hw : Hd.Fits w) : hearthref5_Read.f k a w = some (Hd.rd a w) := by
  obtain ⟨k, rfl⟩ : ∃ m, k = m + 1 := ⟨k - 1, by omega⟩
  unfold hearthref5_Read.f
  by_cases h : w < 0
  · rw [if_pos h, Hd.rd_none_of (.inl h)]; rfl
  · obtain ⟨p1, _, p3, p4⟩ := Hd.rparts (w := w) (by omega) hw
    rw [if_neg h, p1]
    simp only [hearthref5_Read.j0]
    rw [p3, p4]
    by_cases h8 : w % 8 = 5
    · rw [if_neg (by simp [h8]), good_f]; simp only [Option.bind_some]
      by_cases g : Hd.good a (w / 8 % 32) (w / 256 % 2048) = true
      · rw [if_pos g, rmake_f k (by omega)]; simp only [Option.bind_some]
        rw [← Hd.read_go a w]
        by_cases w0 : w = 0
        · subst w0; exact absurd h8 (by decide)
        · rw [if_neg w0]
      · rw [if_neg g, Hd.rd_none_of_bad (by simpa using g)]
    · rw [if_pos (by simp [h8]), Hd.rd_none_of (.inr h8)]

theorem lread_f (k : Nat) (hk : 65 ≤ k) (a w : Int) (hw : Hd.Fits w) : hearthlaw5_read.f k a w = some true := by
  unfold hearthlaw5_read.f
  rw [read_f, rread_f k hk a w hw]; simp only [Option.bind_some, if_true, BEq.rfl]
end HeaderReadsOf
open HeaderReadsOf

theorem HeaderReads : hearthlaw5_HeaderReads.Pure := by
  intro a w c d h0 h1 _ _
  have hw := Hd.fits_of_wf h1
  refine ⟨65, ?_⟩
  unfold hearthlaw5_HeaderReads.f
  rw [rmake_f 65 (by omega), alive_f 65 (by omega)]; simp only [Option.bind_some, if_true]
  rw [lread_f 65 (by omega) a w hw, lread_f 65 (by omega) a _ (Hd.mk_fits _ _ _), lread_f 65 (by omega) (wrap64 (a + 1)) _ (Hd.mk_fits _ _ _),
    lread_f 65 (by omega) a (wrap64 _) (Hd.fits_wrap _), lread_f 65 (by omega) w _ (Hd.mk_fits _ _ _)]
  simp only [Option.bind_some, if_true]

end Go.Proofs.Ytmnhhcjonephkaa.Pure
