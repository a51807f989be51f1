/- Proves: for every input, calls of package header in any order answer as the reference does. No condition beyond the statement's own. -/
import Derived.Test.YtmnhhcjonephkaaPHeaderAllx2
import Derived.Test.YtmnhhcjonephkaaHead
namespace Go.Proofs.Ytmnhhcjonephkaa.Pure
open Go.RowKit Go.Proofs.Ytmnhhcjonephkaa.PHeaderAll Go.Proofs.YtmnhhcjonephkaaW.PrintWords Go.Proofs.YtmnhhcjonephkaaW.PrintLast Go.Proofs.YtmnhhcjonephkaaW.PrintMore
namespace HeaderAllOf

theorem make_f (a b c : Int) : header_Make.f a b c = some (Hd.mk a b c) := Hd.make_go a b c

theorem read_f (a w : Int) : header_Read.f a w = some (Hd.rd a w) := by
  unfold header_Read.f
  rw [Hd.and31, Hd.and2047]
  rw [show w / 8 % 32 = w / 8 % 32 from rfl, make_f]
  simp only [Option.bind_some]
  exact Hd.read_go a w

theorem good_f (a b c : Int) : hearthref5_good.f a b c = some (Hd.good a b c) := Hd.good_go a b c

theorem sign_f (k : Nat) (hk : 64 ≤ k) (x : Int) (h0 : 0 ≤ x) (h1 : x < 9223372036854775808) : hearthref5_sign.f k x = some (Hd.sg x) :=
  Hd.sign_of hearthref5_sign.l0 (fun _ _ _ _ => rfl) k x hk h0 h1
theorem rmake_f (k : Nat) (hk : 64 ≤ k) (a b c : Int) : hearthref5_Make.f k a b c = some (Hd.mk a b c) := by
  unfold hearthref5_Make.f
  rw [good_f]
  simp only [Option.bind_some]
  by_cases h : Hd.good a b c = true
  · have hn := Hd.num_bd h
    obtain ⟨e1, e2⟩ := Hd.rmake_arith h
    rw [if_pos h, e1, sign_f k hk _ hn.1 (by omega)]
    simp only [Option.bind_some]
    rw [e2]
  · rw [if_neg h, Hd.mk_bad (by simpa using h)]

theorem alive_f (k : Nat) (hk : 64 ≤ k) : hearthlaw5_alive.f k = some true := by
  unfold hearthlaw5_alive.f
  rw [make_f]; simp only [Option.bind_some]
  rw [read_f, Hd.rd_mk (by decide), rmake_f k hk]; simp only [Option.bind_some, if_true]
  rfl

theorem rread_f (k : Nat) (hk : 65 ≤ k) (a w : Int) (hw : Hd.Fits w) : hearthref5_Read.f k a w = some (Hd.rd a w) := by
  obtain ⟨k, rfl⟩ : ∃ m, k = m + 1 := ⟨k - 1, by omega⟩
  unfold hearthref5_Read.f
  by_cases h : w < 0
  · rw [if_pos h, Hd.rd_none_of (.inl h)]; rfl
  · obtain ⟨p1, _, p3, p4⟩ := Hd.rparts (w := w) (by omega) hw
    rw [if_neg h, p1]
    simp only [hearthref5_Read.j0]
    rw [p3, p4]
    by_cases h8 : w % 8 = 5
    · rw [if_neg (by simp [h8]), good_f]; simp only [Option.bind_some]
      by_cases g : Hd.good a (w / 8 % 32) (w / 256 % 2048) = true
      · rw [if_pos g, rmake_f k (by omega)]; simp only [Option.bind_some]
        rw [← Hd.read_go a w]
        by_cases w0 : w = 0
        · subst w0; exact absurd h8 (by decide)
        · rw [if_neg w0]
      · rw [if_neg g, Hd.rd_none_of_bad (by simpa using g)]
    · rw [if_pos (by simp [h8]), Hd.rd_none_of (.inr h8)]

theorem lread_f (k : Nat) (hk : 65 ≤ k) (a w : Int) (hw : Hd.Fits w) : hearthlaw5_read.f k a w = some true := by
  unfold hearthlaw5_read.f
  rw [read_f, rread_f k hk a w hw]; simp only [Option.bind_some, if_true, BEq.rfl]

theorem makes_f (k : Nat) (hk : 64 ≤ k) (a b c : Int) : hearthlaw5_HeaderMakes.f k a b c = some true := by
  unfold hearthlaw5_HeaderMakes.f
  rw [alive_f k hk, make_f, rmake_f k hk]; simp only [Option.bind_some, if_true, BEq.rfl]
end HeaderAllOf
open HeaderAllOf

theorem asked_f (k : Nat) (hk : 65 ≤ k) (a b c d : Int) (hc : Hd.Fits c) : hearthlaw5_asked.f k a b c d = some true := by
  unfold hearthlaw5_asked.f
  rw [makes_f k (by omega), lread_f k hk b c hc, make_f]; simp only [Option.bind_some]
  rw [lread_f k hk b _ (Hd.mk_fits _ _ _)]; simp only [Option.bind_some]
  repeat' split
  all_goals rfl
theorem loop_f (l : List S30) (hl : l.length ≤ 5000) (hw : ∀ x ∈ l, Hd.Fits x.f2) (d : Nat) : ∀ (k : Nat) (i : Int), 65 ≤ k → 0 ≤ i → i ≤ l.length → (l.length : Int) - i = d →
    hearthlaw5_HeaderAll.l0 (k + 2 * d + 2) l true i = some true := by
  have el : ∀ i : Int, 0 ≤ i → i < l.length → Hd.Fits (rd_T30 l i).f2 := by
    intro i h0 h1
    apply hw
    unfold rd_T30
    rw [List.getD_eq_getElem?_getD, List.getElem?_eq_getElem (show i.toNat < l.length by omega), Option.getD_some]
    exact List.getElem_mem _
  induction d with
  | zero =>
    intro k i hk h0 h1 hd
    rw [show k + 2 * 0 + 2 = (k + 1) + 1 by omega, hearthlaw5_HeaderAll.l0, if_neg (by omega), hearthlaw5_HeaderAll.j1, if_neg (by decide)]
  | succ d ih =>
    intro k i hk h0 h1 hd
    rw [show k + 2 * (d + 1) + 2 = ((k + 2 * d + 2) + 1) + 1 by omega, hearthlaw5_HeaderAll.l0, if_pos (by omega), hearthlaw5_HeaderAll.j1, if_pos rfl, if_pos h0, if_pos (by omega),
      asked_f _ (by omega) _ _ _ _ (el i h0 (by omega))]; simp only [Option.bind_some, if_true]
    rw [if_pos (by omega), asked_f _ (by omega) _ _ _ _ (el 0 (by omega) (by omega))]; simp only [Option.bind_some]
    rw [Hd.wrap_id (by unfold Hd.Fits; omega)]
    exact ih k (i + 1) hk (by omega) (by omega) (by omega)
theorem HeaderAll (l : List S30) (_ : l.length ≤ 9223372036854775807) (hw : ∀ x ∈ l, (Lit.int .i64 x.f0).wf = true ∧ (Lit.int .i64 x.f1).wf = true ∧ (Lit.int .i64 x.f2).wf = true ∧ (Lit.int .i64 x.f3).wf = true) :
    ∃ k, hearthlaw5_HeaderAll.f k l = some true := by
  refine ⟨65 + 2 * l.length + 2, ?_⟩
  unfold hearthlaw5_HeaderAll.f
  by_cases h : (l.length : Int) > 5000
  · rw [if_pos h]
  · rw [if_neg h, alive_f _ (by omega)]; simp only [Option.bind_some]
    exact loop_f l (by omega) (fun x hx => Hd.fits_of_wf (hw x hx).2.2.1) l.length 65 0 (by omega) (by omega) (by omega) (by omega)

end Go.Proofs.Ytmnhhcjonephkaa.Pure
