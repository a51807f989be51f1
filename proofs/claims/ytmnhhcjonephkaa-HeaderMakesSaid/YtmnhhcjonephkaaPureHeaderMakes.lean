/- Proves: for every input, the header that package header makes of any place, kind and size is the reference's. No condition beyond the statement's own. -/
import Derived.Test.YtmnhhcjonephkaaPHeaderMakesx1
import Derived.Test.YtmnhhcjonephkaaHead
namespace Go.Proofs.Ytmnhhcjonephkaa.Pure
open Go.RowKit Go.Proofs.Ytmnhhcjonephkaa.PHeaderMakes Go.Proofs.YtmnhhcjonephkaaW.PrintWords Go.Proofs.YtmnhhcjonephkaaW.PrintLast Go.Proofs.YtmnhhcjonephkaaW.PrintMore
namespace HeaderMakesOf

theorem make_f (a b c : Int) : header_Make.f a b c = some (Hd.mk a b c) := Hd.make_go a b c

theorem read_f (a w : Int) : header_Read.f a w = some (Hd.rd a w) := by
  unfold header_Read.f
  rw [Hd.and31, Hd.and2047]
  rw [show w / 8 % 32 = w / 8 % 32 from rfl, make_f]
  simp only [Option.bind_some]
  exact Hd.read_go a w

theorem good_f (a b c : Int) : hearthref5_good.f a b c = some (Hd.good a b c) := Hd.good_go a b c

theorem sign_f (k : Nat) (hk : 64 ≤ k) (x : Int) (h0 : 0 ≤ x) (h1 : x < 9223372036854775808) : hearthref5_sign.f k x = some (Hd.sg x) :=
  Hd.sign_of hearthref5_sign.l0 (fun _ _ _ _ => rfl) k x hk h0 h1
theorem rmake_f (k : Nat) (hk : 64 ≤ k) (a b c : Int) : hearthref5_Make.f k a b c = some (Hd.mk a b c) := by
  unfold hearthref5_Make.f
  rw [good_f]
  simp only [Option.bind_some]
  by_cases h : Hd.good a b c = true
  · have hn := Hd.num_bd h
    obtain ⟨e1, e2⟩ := Hd.rmake_arith h
    rw [if_pos h, e1, sign_f k hk _ hn.1 (by omega)]
    simp only [Option.bind_some]
    rw [e2]
  · rw [if_neg h, Hd.mk_bad (by simpa using h)]

theorem alive_f (k : Nat) (hk : 64 ≤ k) : hearthlaw5_alive.f k = some true := by
  unfold hearthlaw5_alive.f
  rw [make_f]; simp only [Option.bind_some]
  rw [read_f, Hd.rd_mk (by decide), rmake_f k hk]; simp only [Option.bind_some, if_true]
  rfl

theorem makes_f (k : Nat) (hk : 64 ≤ k) (a b c : Int) : hearthlaw5_HeaderMakes.f k a b c = some true := by
  unfold hearthlaw5_HeaderMakes.f
  rw [alive_f k hk, make_f, rmake_f k hk]; simp only [Option.bind_some, if_true, BEq.rfl]
end HeaderMakesOf
open HeaderMakesOf

theorem HeaderMakes : hearthlaw5_HeaderMakes.Pure := by
  intro a b c _ _ _
  exact ⟨64, makes_f 64 (Nat.le_refl _) a b c⟩

end Go.Proofs.Ytmnhhcjonephkaa.Pure
