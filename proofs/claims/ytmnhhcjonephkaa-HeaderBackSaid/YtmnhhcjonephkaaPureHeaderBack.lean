/- Proves: for every input, a header comes back as the kind and size of which it was made, at its place and at no other one. No condition beyond the statement's own. -/
import Derived.Test.YtmnhhcjonephkaaPHeaderBackx1
import Derived.Test.YtmnhhcjonephkaaHead
namespace Go.Proofs.Ytmnhhcjonephkaa.Pure
open Go.RowKit Go.Proofs.Ytmnhhcjonephkaa.PHeaderBack Go.Proofs.YtmnhhcjonephkaaW.PrintWords Go.Proofs.YtmnhhcjonephkaaW.PrintLast Go.Proofs.YtmnhhcjonephkaaW.PrintMore
namespace HeaderBackOf

theorem make_f (a b c : Int) : header_Make.f a b c = some (Hd.mk a b c) := Hd.make_go a b c

theorem read_f (a w : Int) : header_Read.f a w = some (Hd.rd a w) := by
  unfold header_Read.f
  rw [Hd.and31, Hd.and2047]
  rw [show w / 8 % 32 = w / 8 % 32 from rfl, make_f]
  simp only [Option.bind_some]
  exact Hd.read_go a w

theorem good_f (a b c : Int) : hearthref5_good.f a b c = some (Hd.good a b c) := Hd.good_go a b c

theorem sign_f (k : Nat) (hk : 64 ≤ k) (x : Int) (h0 : 0 ≤ x) (h1 : x < 9223372036854775808) : hearthref5_sign.f k x = some (Hd.sg x) :=
  Hd.sign_of hearthref5_sign.l0 (fun _ _ _ _ => rfl) k x hk h0 h1
theorem rmake_f (k : Nat) (hk : 64 ≤ k) (a b c : Int) : hearthref5_Make.f k a b c = some (Hd.mk a b c) := by
  unfold hearthref5_Make.f
  rw [good_f]
  simp only [Option.bind_some]
  by_cases h : Hd.good a b c = true
  · have hn := Hd.num_bd h
    obtain ⟨e1, e2⟩ := Hd.rmake_arith h
    rw [if_pos h, e1, sign_f k hk _ hn.1 (by omega)]
    simp only [Option.bind_some]
    rw [e2]
  · rw [if_neg h, Hd.mk_bad (by simpa using h)]

theorem alive_f (k : Nat) (hk : 64 ≤ k) : hearthlaw5_alive.f k = some true := by
  unfold hearthlaw5_alive.f
  rw [make_f]; simp only [Option.bind_some]
  rw [read_f, Hd.rd_mk (by decide), rmake_f k hk]; simp only [Option.bind_some, if_true]
  rfl

theorem lgood_f (a b c : Int) : hearthlaw5_good.f a b c = some (Hd.good a b c) := Hd.good_go a b c
end HeaderBackOf
open HeaderBackOf

theorem HeaderBack : hearthlaw5_HeaderBack.Pure := by
  intro a b c d _ _ _ _
  refine ⟨65, ?_⟩
  unfold hearthlaw5_HeaderBack.f
  rw [make_f]; simp only [Option.bind_some]
  rw [read_f, alive_f 65 (by omega), lgood_f]; simp only [Option.bind_some, if_true]
  by_cases g : Hd.good a b c = true
  · have hp := Hd.mk_pos g
    have hne : (Hd.mk a b c != 0) = true := by simp; omega
    rw [Hd.rd_mk g, hne, g]
    rw [if_neg (by simp)]
    simp only [hearthlaw5_HeaderBack.j0]
    rw [if_neg (by simp), if_neg (by omega), read_f]; simp only [Option.bind_some]
    rw [if_pos hp.1, Hd.and7, if_pos (Hd.mk_parts g).1]
    simp only [if_true]
    rw [Hd.rd_other g]; simp
  · have g' : Hd.good a b c = false := by simpa using g
    rw [Hd.mk_bad g', g']
    have : Hd.rd a 0 = (0, 0, false) := Hd.rd_none_of (.inr (by decide))
    rw [this]
    rfl

end Go.Proofs.Ytmnhhcjonephkaa.Pure
