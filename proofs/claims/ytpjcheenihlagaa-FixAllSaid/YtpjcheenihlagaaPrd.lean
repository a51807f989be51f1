/- What the reference's FloMul and FloDiv come to: the product, the quotient of the two words. No conditions beyond those in each lemma. -/
import Derived.Test.YtpjcheenihlagaaAdd
import Derived.Test.YtpjcheenihlagaaME
import Derived.Test.YtpjcheenihlagaaRx8
import Derived.Test.YtpjcheenihlagaaRx6
namespace Go.Proofs.Ytpjcheenihlagaa.Fl
open Go.RowKit Hf Ieee
open Go.Proofs.Ytpjcheenihlagaa.PFixAll Go.Proofs.YtpjcheenihlagaaW.PrintWords Go.Proofs.YtpjcheenihlagaaW.PrintLast Go.Proofs.YtpjcheenihlagaaW.PrintMore

set_option exponentiation.threshold 2000

theorem bne_xor (s t : Bool) : (s != t) = (s ^^ t) := by cases s <;> cases t <;> rfl

/-! ### FloMul -/
theorem mul_l {p : List Int} (hp : Bits p) (hlp : p.length ≤ 63) (neg : Bool) (w : Nat) (hw : w < 9007199254740992) (sx ix nx : Bool) (wx : Int) (e f : Nat) (he : e ≤ 2045) (hf : f ≤ 2045) (sy iy ny : Bool) (K : Nat) (hK : 150000 ≤ K) (d : Nat) :
    ∀ (k : Nat) (sum : List Int) (i : Nat), d + K ≤ k → i + d = p.length → Bits sum → sum.length ≤ 64 + i → val sum = val p % 2 ^ i * w →
      ∃ r, hearthref1_FloMul.l0 k neg sum p i sx ix nx wx ((e : Int) - 1074) sy iy ny w ((f : Int) - 1074) = some (pat neg r) ∧ Near (val p * 2 ^ e * (w * 2 ^ f)) (2 ^ 1074) r := by
  induction d with
  | zero =>
    intro k sum i hk hi hs hl hv
    obtain ⟨k, rfl⟩ : ∃ m, k = m + 1 := ⟨k - 1, by omega⟩
    simp only [hearthref1_FloMul.l0]
    rw [if_neg (by omega)]
    have hlt := val_lt hp
    have hi' : p.length = i := by omega
    rw [hi'] at hlt
    rw [Nat.mod_eq_of_lt hlt] at hv
    have hexp : wrap64 ((e : Int) - 1074 + ((f : Int) - 1074)) = (e : Int) + f - 2148 := by rw [wrap_id (by unfold Fits; omega)]; omega
    rw [hexp]
    by_cases c : val sum = 0
    · refine ⟨0, ?_, ?_⟩
      · rw [rounded_zero hs (by omega) c neg _ false k (by omega)]; rfl
      · have : val p * 2 ^ e * (w * 2 ^ f) = 0 := by
          rw [show val p * 2 ^ e * (w * 2 ^ f) = val p * w * (2 ^ e * 2 ^ f) by simp only [Nat.mul_left_comm, Nat.mul_assoc], ← hv, c, Nat.zero_mul]
        rw [this]; exact near_zero _ (Nat.two_pow_pos _)
    · obtain ⟨r, r1, r2⟩ := rounded_f hs (by omega) (by omega) neg ((e : Int) + f - 2148) (by omega) false k (by omega) (c := 1) (t := 0) (N := val p * 2 ^ e * (w * 2 ^ f)) (D := 2 ^ 1074) (Nat.two_pow_pos _) (by omega) rfl (by omega) (by
        intro u d hud
        have h1 : e + f + d = u + 1074 := by omega
        have h2 : 2 ^ e * 2 ^ f * 2 ^ d = 2 ^ u * 2 ^ 1074 := by rw [← Nat.pow_add, ← Nat.pow_add, ← Nat.pow_add, h1]
        rw [Nat.mul_one, Nat.mul_one, Nat.add_zero, hv]
        calc val p * 2 ^ e * (w * 2 ^ f) * 2 ^ d = val p * w * (2 ^ e * 2 ^ f * 2 ^ d) := by simp only [Nat.mul_comm, Nat.mul_left_comm, Nat.mul_assoc]
          _ = val p * w * (2 ^ u * 2 ^ 1074) := by rw [h2]
          _ = val p * w * 2 ^ u * 2 ^ 1074 := by rw [Nat.mul_assoc (val p * w)])
      exact ⟨r, by rw [r1]; rfl, r2⟩
  | succ d ih =>
    intro k sum i hk hi hs hl hv
    obtain ⟨k, rfl⟩ : ∃ m, k = m + 1 := ⟨k - 1, by omega⟩
    simp only [hearthref1_FloMul.l0]
    have hwi : wrap64 ((i : Int) + 1) = ((i + 1 : Nat) : Int) := by rw [wrap_id (by unfold Fits; omega)]; omega
    have g1 : (i : Int) < (p.length : Int) := by clear hv ih; omega
    have g2 : i ≤ 62 := by clear hv ih; omega
    have g3 : i + 1 + d = p.length := by clear hv ih; omega
    have g4 : d + K ≤ k := by clear hv ih; omega
    have g5 : 50000 ≤ k := by clear hv ih; omega
    have hrd : rd p (i : Int) = ((val p / 2 ^ i % 2 : Nat) : Int) := by unfold rd; rw [Int.toNat_natCast, val_bit hp]
    rw [if_pos g1, if_pos (Int.natCast_nonneg i), hrd, hwi]
    clear hrd
    by_cases c : ((val p / 2 ^ i % 2 : Nat) : Int) = 1
    · have c1 : val p / 2 ^ i % 2 = 1 := Int.ofNat.inj c
      rw [if_pos c]
      obtain ⟨q, q1, q2, q3, q4⟩ := list_f k (Nat.le_trans (by decide) g5) w (Nat.lt_trans hw (by decide)) i (Nat.le_trans g2 (by decide))
      rw [q1]; simp only [Option.bind_some]
      have g6 : sum.length ≤ 20000 := by clear hv q3 c c1 ih; omega
      have g7 : q.length ≤ 20000 := by clear hv q3 c c1 ih; omega
      obtain ⟨l, l1, l2, l3, l4⟩ := summed_f hs q2 false g6 g7 (fun h => by cases h) k g5
      rw [l1]; simp only [Option.bind_some]
      have g8 : l.length ≤ 64 + (i + 1) := by clear hv q3 c c1 ih l4; omega
      refine ih k l (i + 1) g4 g3 l2 g8 ?_
      unfold sg at l4; simp only [Bool.false_eq_true, if_false] at l4
      have : val l = val sum + val q := Int.ofNat.inj (l4.trans (Int.natCast_add _ _).symm)
      rw [this, hv, q3, Nat.pow_succ, Nat.mod_mul, c1, Nat.mul_one, Nat.add_mul, Nat.mul_comm w]
    · have c1 : val p / 2 ^ i % 2 = 0 := by
        rcases Nat.mod_two_eq_zero_or_one (val p / 2 ^ i) with h | h
        · exact h
        · exact absurd (congrArg Int.ofNat h) c
      rw [if_neg c]
      have g8 : sum.length ≤ 64 + (i + 1) := by clear hv c c1 ih; omega
      refine ih k sum (i + 1) g4 g3 hs g8 ?_
      rw [hv, Nat.pow_succ, Nat.mod_mul, c1, Nat.mul_zero, Nat.add_zero]

theorem infinity_out (s : Bool) : (hearthref1_infinity.f s).bind (fun t => some t) = some (out (some (double.word s INF))) := by
  rw [infinity_f, out_word (by decide)]; rfl

theorem refmul_f (k : Nat) (hk : 200000 ≤ k) {a b : Int} (ha : Fits a) (hb : Fits b) :
    hearthref1_FloMul.f k a b = some (out (double.mul (u a) (u b))) := by
  have pa := parts_f k (by omega) ha
  have pb := parts_f k (by omega) hb
  obtain ⟨k, rfl⟩ : ∃ m, k = m + 2 := ⟨k - 2, by omega⟩
  unfold hearthref1_FloMul.f
  rw [pa, pb]; simp only [Option.bind_some]
  -- a finite one: its parts
  by_cases na : INF < rung (u a)
  · rw [mul_nan _ _ (.inl na), parts_nan na]
    simp only [Bool.false_eq_true, if_false, if_true, hearthref1_FloMul.j0, hearthref1_FloMul.j1]; rfl
  by_cases nb : INF < rung (u b)
  · rw [mul_nan _ _ (.inr nb), parts_nan nb]
    simp only [Bool.false_eq_true, if_false, if_true, hearthref1_FloMul.j0, hearthref1_FloMul.j1]
    split <;> split <;> first | rfl | (split <;> rfl)
  by_cases ia : rung (u a) = INF
  · rw [parts_inf ia]; simp only [if_true]
    by_cases ib : rung (u b) = INF
    · rw [parts_inf ib, mul_inf_inf _ _ ia ib]
      simp only [Bool.false_eq_true, if_false, if_true, hearthref1_FloMul.j0, hearthref1_FloMul.j1]
      rw [infinity_out, bne_xor]
    · obtain ⟨n, f, hn, _, _, _, hn0⟩ := parts_fin (sgn (u b)) (r := rung (u b)) (by omega)
      rw [hn, mul_inf_fin _ _ ia (by omega)]
      simp only [Bool.false_eq_true, if_false, if_true, hearthref1_FloMul.j0, hearthref1_FloMul.j1]
      by_cases c : n = 0
      · rw [if_pos (hn0.1 c), if_pos (by subst c; rfl)]; rfl
      · rw [if_neg (fun h => c (hn0.2 h)), if_neg (by rw [beq_iff_eq]; omega), infinity_out, bne_xor]
  obtain ⟨m, e, hm, hV, hm53, he, hm0⟩ := parts_fin (sgn (u a)) (r := rung (u a)) (by omega)
  rw [hm]; simp only [Bool.false_eq_true, if_false]
  by_cases ib : rung (u b) = INF
  · rw [parts_inf ib, mul_fin_inf _ _ (by omega) ib]
    simp only [Bool.false_eq_true, if_false, if_true, hearthref1_FloMul.j0, hearthref1_FloMul.j1]
    by_cases c : m = 0
    · rw [if_pos (by omega), if_pos (hm0.1 c)]; rfl
    · rw [if_neg (by omega), if_neg (fun h => c (hm0.2 h)), infinity_out, bne_xor]
  obtain ⟨n, f, hn, hW, hn53, hf, hn0⟩ := parts_fin (sgn (u b)) (r := rung (u b)) (by omega)
  rw [hn]
  simp only [Bool.false_eq_true, if_false, hearthref1_FloMul.j0, hearthref1_FloMul.j1, ite_self]
  obtain ⟨p, p1, p2, p3, p4⟩ := list_f k (by omega) m (by omega) 0 (by omega)
  rw [show ((0 : Nat) : Int) = 0 from rfl] at p1
  rw [p1]; simp only [Option.bind_some]
  obtain ⟨r', r1, r2⟩ := mul_l p2 (by omega) (sgn (u a) != sgn (u b)) n hn53 (sgn (u a)) false false m e f he hf (sgn (u b)) false false 150000 (Nat.le_refl _) p.length k [0] 0 (by omega) (by omega) (Bits.one (.inl rfl)) (by simp) (by
    rw [Nat.pow_zero, Nat.mod_one, Nat.zero_mul]; rfl)
  rw [show ((0 : Nat) : Int) = 0 from rfl] at r1
  obtain ⟨r, hr, hN⟩ := mul_spec (u a) (u b) (by omega) (by omega)
  rw [p3, Nat.pow_zero, Nat.mul_one, hV, hW] at r2
  have hlt := near_le hN
  rw [hr, out_word hlt, r1, bne_xor, Near.unique (Nat.two_pow_pos _) (Nat.two_pow_pos _) r2 hN rfl]

end Go.Proofs.Ytpjcheenihlagaa.Fl
