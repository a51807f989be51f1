/- What the reference's FloDiv comes to: the quotient of the two words. No conditions beyond those in each lemma. -/
import Derived.Test.YtpjcheenihlagaaPrd
namespace Go.Proofs.Ytpjcheenihlagaa.Fl
open Go.RowKit Hf Ieee
open Go.Proofs.Ytpjcheenihlagaa.PFixAll Go.Proofs.YtpjcheenihlagaaW.PrintWords Go.Proofs.YtpjcheenihlagaaW.PrintLast Go.Proofs.YtpjcheenihlagaaW.PrintMore

set_option exponentiation.threshold 2000

/-- One step of the long division. -/
theorem long_step {n w i Q r : Nat} (hw : 0 < w) (hQ : Q = n / 2 ^ (i + 1) / w) (hr : r = n / 2 ^ (i + 1) % w) :
    (w ≤ 2 * r + n / 2 ^ i % 2 → n / 2 ^ i / w = 2 * Q + 1 ∧ n / 2 ^ i % w = 2 * r + n / 2 ^ i % 2 - w) ∧
    (2 * r + n / 2 ^ i % 2 < w → n / 2 ^ i / w = 2 * Q ∧ n / 2 ^ i % w = 2 * r + n / 2 ^ i % 2) := by
  have h1 := bit_step n i
  have h2 := Nat.div_add_mod (n / 2 ^ (i + 1)) w
  have h3 := Nat.mod_lt (n / 2 ^ (i + 1)) hw
  rw [← hQ, ← hr] at h2
  rw [← hr] at h3
  have hb2 : n / 2 ^ i % 2 < 2 := Nat.mod_lt _ (by omega)
  generalize n / 2 ^ i % 2 = b at *
  have hb : n / 2 ^ i = 2 * (w * Q) + (2 * r + b) := by omega
  have hx : 2 * (w * Q) = w * (2 * Q) := Nat.mul_left_comm ..
  constructor
  · intro h
    have e : n / 2 ^ i = (2 * r + b - w) + w * (2 * Q + 1) := by rw [hb, hx, Nat.mul_add, Nat.mul_one]; omega
    have hlt : 2 * r + b - w < w := by omega
    rw [e, Nat.add_mul_div_left _ _ hw, Nat.add_mul_mod_self_left, Nat.div_eq_of_lt hlt, Nat.mod_eq_of_lt hlt]
    exact ⟨Nat.zero_add _, rfl⟩
  · intro h
    have e : n / 2 ^ i = (2 * r + b) + w * (2 * Q) := by rw [hb, hx]; omega
    rw [e, Nat.add_mul_div_left _ _ hw, Nat.add_mul_mod_self_left, Nat.div_eq_of_lt h, Nat.mod_eq_of_lt h]
    exact ⟨Nat.zero_add _, rfl⟩

theorem getD_high {l : List Int} {i Q : Nat} (hl : Bits l) (h : val l = 2 ^ (i + 1) * Q) : l.getD i 0 = 0 := by
  rw [val_bit hl, h, Nat.pow_succ, Nat.mul_assoc, Nat.mul_div_cancel_left _ (Nat.two_pow_pos i)]; omega

theorem div_l {n : List Int} (hn : Bits n) (hln : n.length ≤ 1000) (neg : Bool) (w : Nat) (hw0 : 0 < w) (hw : w < 9007199254740992) (sx ix nx : Bool) (wx : Int) (E F : Int) (sy iy ny : Bool) (j : Nat) :
    ∀ (k : Nat) (l : List Int) (rest : Nat) (i : Int), j < k → i + 1 = j → j ≤ n.length → Bits l → l.length = n.length →
      val l = 2 ^ j * (val n / 2 ^ j / w) → rest = val n / 2 ^ j % w →
      ∃ k' l', k = k' + j + 1 ∧ Bits l' ∧ l'.length = n.length ∧ val l' = val n / w ∧
        hearthref1_FloDiv.l0 k neg n l rest i sx ix nx wx E sy iy ny w F =
          (hearthref1_rounded.f k' neg l' (wrap64 (wrap64 (E - F) - 120)) (decide (((val n % w : Nat) : Int) > 0))).bind fun t => some t := by
  induction j with
  | zero =>
    intro k l rest i hk hi hj hl hll hv hr
    obtain ⟨k, rfl⟩ : ∃ m, k = m + 1 := ⟨k - 1, by omega⟩
    rw [Nat.pow_zero, Nat.div_one] at hr
    rw [Nat.pow_zero, Nat.div_one, Nat.one_mul] at hv
    refine ⟨k, l, rfl, hl, hll, hv, ?_⟩
    simp only [hearthref1_FloDiv.l0]
    rw [if_neg (by omega), hr]
  | succ j ih =>
    intro k l rest i hk hi hj hl hll hv hr
    obtain ⟨k, rfl⟩ : ∃ m, k = m + 1 := ⟨k - 1, by omega⟩
    obtain rfl : i = (j : Int) := by clear hv hr ih; omega
    have g1 : (j : Int) < (n.length : Int) := by clear hv hr ih; omega
    have g2 : (j : Int) < (l.length : Int) := by clear hv hr ih; omega
    have g3 : wrap64 ((j : Int) - 1) + 1 = (j : Int) := by clear hv hr ih; rw [wrap_id (by unfold Fits; omega)]; omega
    have g4 : j < k := by clear hv hr ih; omega
    have g5 : j ≤ n.length := by clear hv hr ih; omega
    have g6 : j < l.length := by clear hv hr ih; omega
    have hrw : rest < w := by rw [hr]; exact Nat.mod_lt _ hw0
    have hrd : rd n (j : Int) = ((val n / 2 ^ j % 2 : Nat) : Int) := by unfold rd; rw [Int.toNat_natCast, val_bit hn]
    have hb2 : val n / 2 ^ j % 2 < 2 := Nat.mod_lt _ (by omega)
    obtain ⟨s1, s2⟩ := long_step (n := val n) (i := j) hw0 rfl rfl
    rw [← hr] at s1 s2
    have hz := getD_high hl hv
    simp only [hearthref1_FloDiv.l0]
    rw [if_pos (Int.natCast_nonneg j), if_pos (Int.natCast_nonneg j), if_pos g1, hrd]
    generalize hb : val n / 2 ^ j % 2 = b at *
    have w1 : wrap64 (wrap64 ((rest : Int) + rest) + (b : Int)) = ((2 * rest + b : Nat) : Int) := by
      clear hv hr ih s1 s2 hb hz hrd
      rw [wrap_id (a := (rest : Int) + rest) (by unfold Fits; omega), wrap_id (by unfold Fits; omega)]; omega
    rw [w1]
    -- the value when the bit is set, or is not
    have hv2 : val l = 2 ^ j * (2 * (val n / 2 ^ (j + 1) / w)) := by rw [hv, Nat.pow_succ, Nat.mul_assoc]
    by_cases c : ((2 * rest + b : Nat) : Int) ≥ (w : Int)
    · obtain ⟨e1, e2⟩ := s1 (by clear hv hr ih s1 s2 hb hv2 hz hrd; omega)
      have w2 : wrap64 (((2 * rest + b : Nat) : Int) - (w : Int)) = ((2 * rest + b - w : Nat) : Int) := by
        clear hv hr ih s1 s2 e1 e2 hv2 hb hz hrd
        rw [wrap_id (by unfold Fits; omega)]; omega
      rw [if_pos c, if_pos g2, Int.toNat_natCast, w2]
      obtain ⟨k', l', h1, h2, h3, h4, h5⟩ := ih k (l.set j 1) (2 * rest + b - w) (wrap64 ((j : Int) - 1)) g4 g3 g5 (hl.set j) (by rw [List.length_set]; exact hll) (by
        rw [val_set j g6 hz, hv2, e1, Nat.mul_add, Nat.mul_one]) (by rw [e2])
      exact ⟨k', l', by rw [h1]; rfl, h2, h3, h4, h5⟩
    · obtain ⟨e1, e2⟩ := s2 (by clear hv hr ih s1 s2 hb hv2 hz hrd; omega)
      rw [if_neg c]
      obtain ⟨k', l', h1, h2, h3, h4, h5⟩ := ih k l (2 * rest + b) (wrap64 ((j : Int) - 1)) g4 g3 g5 hl hll (by rw [hv2, e1]) (by rw [e2])
      exact ⟨k', l', by rw [h1]; rfl, h2, h3, h4, h5⟩

theorem refdiv_f (k : Nat) (hk : 200000 ≤ k) {a b : Int} (ha : Fits a) (hb : Fits b) :
    hearthref1_FloDiv.f k a b = some (out (double.div (u a) (u b))) := by
  have pa := parts_f k (by omega) ha
  have pb := parts_f k (by omega) hb
  have hI : INF = 9218868437227405312 := rfl
  obtain ⟨k, rfl⟩ : ∃ m, k = m + 2 := ⟨k - 2, by omega⟩
  unfold hearthref1_FloDiv.f
  rw [pa, pb]; simp only [Option.bind_some]
  by_cases na : INF < rung (u a)
  · rw [div_nan _ _ (.inl na), parts_nan na]
    simp only [if_true, hearthref1_FloDiv.j0]; rfl
  rw [parts_none (sgn (u a)), decide_eq_false na]
  simp only [Bool.false_eq_true, if_false]
  by_cases nb : INF < rung (u b)
  · rw [div_nan _ _ (.inr nb), parts_nan nb]
    simp only [if_true, hearthref1_FloDiv.j0]; rfl
  rw [parts_none (sgn (u b)), decide_eq_false nb]
  simp only [Bool.false_eq_true, if_false]
  by_cases ia : rung (u a) = INF
  · rw [parts_inf ia]; simp only [if_true]
    by_cases ib : rung (u b) = INF
    · rw [parts_inf ib, div_inf_inf _ _ ia ib]
      simp only [if_true, hearthref1_FloDiv.j0]; rfl
    · obtain ⟨n, f, hn, _, _, _, hn0⟩ := parts_fin (sgn (u b)) (r := rung (u b)) (by omega)
      rw [hn, div_inf_fin _ _ ia (by omega)]
      simp only [Bool.false_eq_true, if_false, if_true, hearthref1_FloDiv.j0, hearthref1_FloDiv.j1]
      rw [infinity_out, bne_xor]
  obtain ⟨m, e, hm, hV, hm53, he, hm0⟩ := parts_fin (sgn (u a)) (r := rung (u a)) (by omega)
  rw [hm]; simp only [Bool.false_eq_true, if_false]
  by_cases ib : rung (u b) = INF
  · rw [parts_inf ib, div_fin_inf _ _ (by omega) ib]
    simp only [Bool.false_eq_true, if_false, if_true, hearthref1_FloDiv.j0, hearthref1_FloDiv.j1]
    have := signed_f (sgn (u a) != sgn (u b)) 0 (by omega)
    rw [show ((0 : Nat) : Int) = 0 from rfl] at this
    rw [this, out_word (by omega), bne_xor]; rfl
  obtain ⟨n, f, hn, hW, hn53, hf, hn0⟩ := parts_fin (sgn (u b)) (r := rung (u b)) (by omega)
  rw [hn]
  simp only [Bool.false_eq_true, if_false]
  by_cases c0 : n = 0
  · rw [div_fin_zero _ _ (by omega) (hn0.1 c0), c0]
    by_cases c1 : m = 0
    · rw [if_pos (hm0.1 c1), c1, if_pos (show ((0 : Nat) : Int) = 0 from rfl)]
      simp only [hearthref1_FloDiv.j0]; rfl
    · rw [if_neg (fun h => c1 (hm0.2 h)), if_neg (by omega)]
      simp only [Bool.false_eq_true, if_false, hearthref1_FloDiv.j0, hearthref1_FloDiv.j1]
      rw [if_pos (show (((0 : Nat) : Int) == 0) = true from rfl), infinity_out, bne_xor]
  have hn1 : 0 < n := by omega
  have hnz : ((n : Int) == 0) = false := by rw [beq_eq_false_iff_ne]; omega
  rw [hnz]
  simp only [ite_self, Bool.false_eq_true, if_false, hearthref1_FloDiv.j0, hearthref1_FloDiv.j1]
  rw [hnz]
  simp only [Bool.false_eq_true, if_false]
  obtain ⟨p, p1, p2, p3, p4⟩ := list_f k (by omega) m (by omega) 120 (by omega)
  rw [show ((120 : Nat) : Int) = 120 from rfl] at p1
  rw [p1]; simp only [Option.bind_some]
  have hlp : p.length ≤ 1000 := by clear p3; omega
  rw [if_pos (Int.natCast_nonneg _), Int.toNat_natCast, if_pos (Nat.le_trans hlp (by decide))]
  obtain ⟨k', l, h1, h2, h3, h4, h5⟩ := div_l p2 hlp (sgn (u a) != sgn (u b)) n hn1 hn53 (sgn (u a)) false false m ((e : Int) - 1074) ((f : Int) - 1074) (sgn (u b)) false false p.length k (List.replicate p.length 0) 0 (wrap64 ((p.length : Int) - 1)) (by clear p3; omega) (by clear p3; rw [wrap_id (by unfold Fits; omega)]; omega) (Nat.le_refl _) (Bits.rep _) (by rw [List.length_replicate]) (by
    rw [val_rep, Nat.div_eq_of_lt (val_lt p2), Nat.zero_div, Nat.mul_zero]) (by rw [Nat.div_eq_of_lt (val_lt p2), Nat.zero_mod])
  rw [show ((0 : Nat) : Int) = 0 from rfl] at h5
  rw [h5]
  have hexp : wrap64 (wrap64 ((e : Int) - 1074 - ((f : Int) - 1074)) - 120) = (e : Int) - f - 120 := by
    clear p3 h4
    rw [wrap_id (a := (e : Int) - 1074 - ((f : Int) - 1074)) (by unfold Fits; omega), wrap_id (by unfold Fits; omega)]; omega
  rw [hexp]
  have hk' : 100000 ≤ k' := by clear p3 h4; omega
  have hll : l.length ≤ 20000 := by clear p3 h4; omega
  have hrz : rung (u b) ≠ 0 := fun h => c0 (hn0.2 h)
  obtain ⟨r, hr, hN⟩ := div_spec (u a) (u b) (by omega) (by omega) hrz
  have hlt := near_le hN
  rw [hr, out_word hlt, ← bne_xor]
  have hD : 0 < V (rung (u b)) := by rw [← hW]; exact Nat.mul_pos hn1 (Nat.two_pow_pos _)
  by_cases cm : m = 0
  · have hv0 : val l = 0 := by rw [h4, p3, cm, Nat.zero_mul, Nat.zero_div]
    rw [rounded_zero h2 hll hv0 _ _ _ k' hk']
    have hN0 : Near (V (rung (u a)) * 2 ^ 1074) (V (rung (u b))) 0 := by
      rw [← hV, cm, Nat.zero_mul, Nat.zero_mul]; exact near_zero _ hD
    rw [Near.unique hD hD hN0 hN rfl]; rfl
  · have hbig : 9007199254740992 ≤ val l := by
      rw [h4, p3, Nat.le_div_iff_mul_le hn1]
      have a1 : 9007199254740992 * n ≤ 9007199254740992 * 9007199254740992 := Nat.mul_le_mul_left _ (Nat.le_of_lt hn53)
      have a2 : 1 * 2 ^ 120 ≤ m * 2 ^ 120 := Nat.mul_le_mul_right _ (Nat.pos_of_ne_zero cm)
      exact Nat.le_trans a1 (Nat.le_trans (by decide) a2)
    have hdm := Nat.div_add_mod (val p) n
    have hmod := Nat.mod_lt (val p) hn1
    rw [← h4] at hdm
    obtain ⟨r', r1, r2⟩ := rounded_f h2 hll (Nat.lt_of_lt_of_le (by decide) hbig) (sgn (u a) != sgn (u b)) ((e : Int) - f - 120) (by clear p3 h4 hdm; omega) (decide (((val p % n : Nat) : Int) > 0)) k' hk' (c := n) (t := val p % n) (N := V (rung (u a)) * 2 ^ 1074) (D := V (rung (u b))) hD hmod (by
        rw [Bool.eq_iff_iff, decide_eq_true_eq, decide_eq_true_eq]
        generalize val p % n = t
        omega) (by
        intro _
        apply Decidable.byContradiction; intro hc
        have x1 : val l < 2 ^ ((val l).log2 + 1) := Nat.lt_log2_self
        have x2 : 2 ^ ((val l).log2 + 1) ≤ 2 ^ 53 := Nat.pow_le_pow_right (by decide) (by generalize (val l).log2 = q at *; clear p3 h4 hdm x1; omega)
        exact absurd (Nat.lt_of_le_of_lt hbig (Nat.lt_of_lt_of_le x1 x2)) (by decide)) (by
        intro x d hxd
        have hexp : e + 1074 + d = 120 + x + f := by clear p3 h4 hdm; omega
        have hpw : 2 ^ e * 2 ^ 1074 * 2 ^ d = 2 ^ 120 * 2 ^ x * 2 ^ f := by
          rw [← Nat.pow_add, ← Nat.pow_add, ← Nat.pow_add, ← Nat.pow_add, hexp]
        rw [Nat.mul_comm (val l) n, hdm, p3, ← hV, ← hW]
        calc m * 2 ^ e * 2 ^ 1074 * 2 ^ d * n = m * n * (2 ^ e * 2 ^ 1074 * 2 ^ d) := by simp only [Nat.mul_comm, Nat.mul_left_comm, Nat.mul_assoc]
          _ = m * n * (2 ^ 120 * 2 ^ x * 2 ^ f) := by rw [hpw]
          _ = m * 2 ^ 120 * 2 ^ x * (n * 2 ^ f) := by simp only [Nat.mul_comm, Nat.mul_left_comm, Nat.mul_assoc])
    rw [r1, Near.unique hD hD r2 hN rfl]; rfl

end Go.Proofs.Ytpjcheenihlagaa.Fl
