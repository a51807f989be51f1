/- What the reference's sums, comparisons, FloAdd and FloSub come to. No conditions beyond those in each lemma. -/
import Derived.Test.YtpjcheenihlagaaRnd
import Derived.Test.YtpjcheenihlagaaRx5
import Derived.Test.YtpjcheenihlagaaBts
import Derived.Test.YtpjcheenihlagaaMD
namespace Go.Proofs.Ytpjcheenihlagaa.Fl
open Go.RowKit Hf Ieee
open Go.Proofs.Ytpjcheenihlagaa.PFixAll Go.Proofs.YtpjcheenihlagaaW.PrintWords Go.Proofs.YtpjcheenihlagaaW.PrintLast Go.Proofs.YtpjcheenihlagaaW.PrintMore

def sg (less : Bool) (x y : Int) : Int := if less then x - y else x + y

theorem mx_nat (a b : Nat) : mx (a : Int) (b : Int) = ((max a b : Nat) : Int) := by unfold mx; split <;> omega

theorem bit_step (n i : Nat) : n / 2 ^ i = 2 * (n / 2 ^ (i + 1)) + n / 2 ^ i % 2 := by
  rw [Nat.pow_succ, ← Nat.div_div_eq_div_mul]; omega

theorem summed_l {a b : List Int} (ha : Bits a) (hb : Bits b) (less : Bool) (hla : a.length ≤ 20000) (hlb : b.length ≤ 20000) (d : Nat) :
    ∀ (k : Nat) (l : List Int) (c : Int), 2 * d + 1 ≤ k → l.length + d = max a.length b.length + 1 → Bits l → (c = 0 ∨ c = if less then -1 else 1) →
      (val l : Int) + (2 ^ l.length : Nat) * (sg less ((val a / 2 ^ l.length : Nat) : Int) ((val b / 2 ^ l.length : Nat) : Int) + c) = sg less (val a) (val b) →
      ∃ l' c', hearthref1_summed.l0 k a b less l c l.length = some l' ∧ Bits l' ∧ l'.length = max a.length b.length + 1 ∧ (c' = 0 ∨ c' = if less then -1 else 1) ∧
        (val l' : Int) + (2 ^ l'.length : Nat) * (sg less ((val a / 2 ^ l'.length : Nat) : Int) ((val b / 2 ^ l'.length : Nat) : Int) + c') = sg less (val a) (val b) := by
  induction d with
  | zero =>
    intro k l c hk hd hl hc hv
    obtain ⟨k, rfl⟩ : ∃ m, k = m + 1 := ⟨k - 1, by omega⟩
    refine ⟨l, c, ?_, hl, by omega, hc, hv⟩
    simp only [hearthref1_summed.l0]
    rw [mx_nat, if_neg (by omega)]
  | succ d ih =>
    intro k l c hk hd hl hc hv
    obtain ⟨k, rfl⟩ : ∃ m, k = m + 2 := ⟨k - 2, by omega⟩
    have hw : wrap64 ((l.length : Int) + 1) = ((l.length + 1 : Nat) : Int) := by rw [wrap_id (by unfold Fits; omega)]; omega
    have ba : bitAt (val a) (l.length : Int) = ((val a / 2 ^ l.length % 2 : Nat) : Int) := by unfold bitAt; rw [if_neg (by omega), Int.toNat_natCast]
    have bb : bitAt (val b) (l.length : Int) = ((val b / 2 ^ l.length % 2 : Nat) : Int) := by unfold bitAt; rw [if_neg (by omega), Int.toNat_natCast]
    have sa := bit_step (val a) l.length
    have sb := bit_step (val b) l.length
    -- one bit more
    have next : ∀ (x c' : Int), (x = 0 ∨ x = 1) → (c' = 0 ∨ c' = if less then -1 else 1) →
        sg less ((val a / 2 ^ l.length % 2 : Nat) : Int) ((val b / 2 ^ l.length % 2 : Nat) : Int) + c = x + 2 * c' →
        ∃ l' c'', (if l.length < 17592186044416 then hearthref1_summed.l0 k a b less (l ++ [x]) c' (wrap64 ((l.length : Int) + 1)) else none) = some l' ∧ Bits l' ∧ l'.length = max a.length b.length + 1 ∧ (c'' = 0 ∨ c'' = if less then -1 else 1) ∧
        (val l' : Int) + (2 ^ l'.length : Nat) * (sg less ((val a / 2 ^ l'.length : Nat) : Int) ((val b / 2 ^ l'.length : Nat) : Int) + c'') = sg less (val a) (val b) := by
      intro x c' hx hc' he
      rw [if_pos (by omega), hw]
      have hl1 : (l ++ [x]).length = l.length + 1 := by simp
      have := ih k (l ++ [x]) c' (by omega) (by omega) (hl.append (Bits.one hx)) hc' (by
        rw [hl1, ← hv, val_snoc]
        have e1 : ((2 ^ (l.length + 1) : Nat) : Int) = 2 * ((2 ^ l.length : Nat) : Int) := by rw [Nat.pow_succ]; omega
        have e2 : ((val l + 2 ^ l.length * x.toNat : Nat) : Int) = val l + ((2 ^ l.length : Nat) : Int) * x := by
          rw [Int.natCast_add, Int.natCast_mul, Int.toNat_of_nonneg (by omega)]
        rw [e1, e2, Int.add_assoc, Int.mul_assoc, Int.mul_left_comm, ← Int.mul_add]
        congr 2
        unfold sg at *
        cases less
        · simp only [Bool.false_eq_true, if_false] at *; omega
        · simp only [if_true] at *; omega)
      rw [hl1] at this; exact this
    simp only [hearthref1_summed.l0]
    rw [mx_nat, if_pos (by omega), at_f ha, at_f hb]; simp only [Option.bind_some]
    rw [ba, bb]
    have hp : val a / 2 ^ l.length % 2 < 2 := Nat.mod_lt _ (by omega)
    have hq : val b / 2 ^ l.length % 2 < 2 := Nat.mod_lt _ (by omega)
    clear hv ih ba bb sa sb
    generalize val a / 2 ^ l.length % 2 = p at *
    generalize val b / 2 ^ l.length % 2 = q at *
    cases less
    · simp only [Bool.false_eq_true, if_false, sg] at *
      have hs : wrap64 (wrap64 ((p : Int) + q) + c) = (p : Int) + q + c := by
        rw [wrap_id (a := (p : Int) + q) (by unfold Fits; omega), wrap_id (by unfold Fits; omega)]
      rw [hs]
      simp only [hearthref1_summed.j1]
      rw [if_neg (by omega)]
      by_cases c1 : (p : Int) + q + c > 1
      · rw [if_pos c1, wrap_id (a := (p : Int) + q + c - 2) (by unfold Fits; omega)]
        exact next _ 1 (by omega) (by omega) (by omega)
      · rw [if_neg c1]
        exact next _ 0 (by omega) (by omega) (by omega)
    · simp only [if_true, sg] at *
      have hs : wrap64 (wrap64 ((p : Int) - q) + c) = (p : Int) - q + c := by
        rw [wrap_id (a := (p : Int) - q) (by unfold Fits; omega), wrap_id (by unfold Fits; omega)]
      rw [hs]
      simp only [hearthref1_summed.j1]
      by_cases c0 : (p : Int) - q + c < 0
      · rw [if_pos c0, wrap_id (a := (p : Int) - q + c + 2) (by unfold Fits; omega), if_neg (by omega)]
        exact next _ (-1) (by omega) (by omega) (by omega)
      · rw [if_neg c0, if_neg (by omega)]
        exact next _ 0 (by omega) (by omega) (by omega)

theorem summed_f {a b : List Int} (ha : Bits a) (hb : Bits b) (less : Bool) (hla : a.length ≤ 20000) (hlb : b.length ≤ 20000) (hle : less = true → val b ≤ val a) (k : Nat) (hk : 50000 ≤ k) :
    ∃ l, hearthref1_summed.f k a b less = some l ∧ Bits l ∧ l.length = max a.length b.length + 1 ∧ (val l : Int) = sg less (val a) (val b) := by
  have h0 : (val ([] : List Int) : Int) + (2 ^ ([] : List Int).length : Nat) * (sg less ((val a / 2 ^ ([] : List Int).length : Nat) : Int) ((val b / 2 ^ ([] : List Int).length : Nat) : Int) + 0) = sg less (val a) (val b) := by
    rw [List.length_nil, Nat.pow_zero, Nat.div_one, Nat.div_one]
    show ((0 : Nat) : Int) + _ = _
    omega
  obtain ⟨l, c, h1, h2, h3, h4, h5⟩ := summed_l ha hb less hla hlb (max a.length b.length + 1) k [] 0 (by omega) (by simp) Bits.nil (.inl rfl) h0
  refine ⟨l, h1, h2, h3, ?_⟩
  have pa : val a < 2 ^ (max a.length b.length) := Nat.lt_of_lt_of_le (val_lt ha) (Nat.pow_le_pow_right (by omega) (by omega))
  have pb : val b < 2 ^ (max a.length b.length) := Nat.lt_of_lt_of_le (val_lt hb) (Nat.pow_le_pow_right (by omega) (by omega))
  have pl := val_lt h2
  have pP : 2 ^ l.length = 2 * 2 ^ (max a.length b.length) := by rw [h3, Nat.pow_succ]; omega
  rw [Nat.div_eq_of_lt (by omega), Nat.div_eq_of_lt (by omega)] at h5
  generalize 2 ^ l.length = P at *
  generalize 2 ^ (max a.length b.length) = Q at *
  unfold sg at *
  cases less
  · simp only [Bool.false_eq_true, if_false] at *
    rcases h4 with rfl | rfl
    · omega
    · exfalso; omega
  · simp only [if_true] at *
    have := hle trivial
    rcases h4 with rfl | rfl
    · omega
    · exfalso; omega

/-! ### compared -/
theorem compared_l {a b : List Int} (ha : Bits a) (hb : Bits b) (j : Nat) : ∀ (k : Nat) (i : Int), j < k → i + 1 = j → j < 1000000 → val a / 2 ^ j = val b / 2 ^ j →
    ∃ r, hearthref1_compared.l0 k a b i = some r ∧ (r = 0 ↔ val a = val b) ∧ (r > 0 ↔ val b < val a) := by
  induction j with
  | zero =>
    intro k i hk hi _ he
    obtain ⟨k, rfl⟩ : ∃ m, k = m + 1 := ⟨k - 1, by omega⟩
    rw [Nat.pow_zero, Nat.div_one, Nat.div_one] at he
    refine ⟨0, ?_, by omega, by omega⟩
    simp only [hearthref1_compared.l0]; rw [if_neg (by omega)]
  | succ j ih =>
    intro k i hk hi hj he
    obtain ⟨k, rfl⟩ : ∃ m, k = m + 1 := ⟨k - 1, by omega⟩
    obtain rfl : i = (j : Int) := by omega
    have ba : bitAt (val a) (j : Int) = ((val a / 2 ^ j % 2 : Nat) : Int) := by unfold bitAt; rw [if_neg (by omega), Int.toNat_natCast]
    have bb : bitAt (val b) (j : Int) = ((val b / 2 ^ j % 2 : Nat) : Int) := by unfold bitAt; rw [if_neg (by omega), Int.toNat_natCast]
    have sa := bit_step (val a) j
    have sb := bit_step (val b) j
    simp only [hearthref1_compared.l0]
    rw [if_pos (by omega), at_f ha, at_f hb]; simp only [Option.bind_some]
    rw [ba, bb]
    by_cases c : ((val a / 2 ^ j % 2 : Nat) : Int) = ((val b / 2 ^ j % 2 : Nat) : Int)
    · rw [if_pos c]
      obtain ⟨r, h1, h2⟩ := ih k (wrap64 ((j : Int) - 1)) (by omega) (by rw [wrap_id (by unfold Fits; omega)]; omega) (by omega) (by omega)
      exact ⟨r, h1, h2⟩
    · rw [if_neg c]
      refine ⟨_, rfl, ?_⟩
      rw [wrap_id (by unfold Fits; omega)]
      have lt1 : val a / 2 ^ j < val b / 2 ^ j → val a < val b := fun h => Nat.lt_of_div_lt_div h
      have lt2 : val b / 2 ^ j < val a / 2 ^ j → val b < val a := fun h => Nat.lt_of_div_lt_div h
      omega

theorem compared_f {a b : List Int} (ha : Bits a) (hb : Bits b) (hla : a.length ≤ 20000) (hlb : b.length ≤ 20000) (k : Nat) (hk : 50000 ≤ k) :
    ∃ r, hearthref1_compared.f k a b = some r ∧ (r = 0 ↔ val a = val b) ∧ (r > 0 ↔ val b < val a) := by
  unfold hearthref1_compared.f
  rw [mx_nat, wrap_id (by unfold Fits; omega)]
  have pa : val a < 2 ^ (max a.length b.length) := Nat.lt_of_lt_of_le (val_lt ha) (Nat.pow_le_pow_right (by omega) (by omega))
  have pb : val b < 2 ^ (max a.length b.length) := Nat.lt_of_lt_of_le (val_lt hb) (Nat.pow_le_pow_right (by omega) (by omega))
  exact compared_l ha hb (max a.length b.length) k _ (by omega) (by omega) (by omega) (by rw [Nat.div_eq_of_lt pa, Nat.div_eq_of_lt pb])

/-! ### finite floats -/
theorem parts_fin (s : Bool) {r : Nat} (h : r < INF) : ∃ m e : Nat, partsOf s r = (s, false, false, (m : Int), (e : Int) - 1074) ∧ m * 2 ^ e = V r ∧ m < 9007199254740992 ∧ e ≤ 2045 ∧ (m = 0 ↔ r = 0) := by
  have hI : INF = 9218868437227405312 := rfl
  by_cases c : r < 4503599627370496
  · exact ⟨r, 0, by rw [parts_small c]; rfl, by rw [V_small c]; omega, by omega, by omega, Iff.rfl⟩
  · refine ⟨4503599627370496 + r % 4503599627370496, r / 4503599627370496 - 1, ?_, ?_, by omega, by omega, by omega⟩
    · rw [parts_big c h, Int.natCast_add]; rfl
    · unfold V; rw [if_neg c]

theorem rounded_zero {l : List Int} (hl : Bits l) (hlen : l.length ≤ 20000) (h : val l = 0) (s : Bool) (exp : Int) (more : Bool) (k : Nat) (hk : 100000 ≤ k) :
    hearthref1_rounded.f k s l exp more = some (pat s 0) := by
  have htop := top_f hl (by omega) k (by omega)
  unfold topOf at htop
  rw [if_pos h] at htop
  unfold hearthref1_rounded.f
  rw [htop]; simp only [Option.bind_some]
  rw [if_pos (by omega)]
  have := signed_f s 0 (by omega)
  rw [show ((0 : Nat) : Int) = 0 from rfl] at this
  rw [this]; rfl

/-- Rounded without a rest: the nearest rung to the row's number. -/
theorem rounded_at {l : List Int} (hl : Bits l) (hlen : l.length ≤ 20000) (s : Bool) (e : Nat) (exp : Int) (hexp : exp = (e : Int) - 1074) (he : e ≤ 5000) (k : Nat) (hk : 100000 ≤ k) :
    ∃ r, hearthref1_rounded.f k s l exp false = some (pat s r) ∧ Near (val l * 2 ^ e) 1 r := by
  by_cases c : val l = 0
  · exact ⟨0, rounded_zero hl hlen c s exp false k hk, by rw [c, Nat.zero_mul]; exact near_zero 1 (by omega)⟩
  · exact rounded_f hl hlen (by omega) s exp (by omega) false k hk (c := 1) (t := 0) (N := val l * 2 ^ e) (D := 1) (by omega) (by omega) rfl (by omega) (by
      intro u d hud
      obtain rfl : u = e + d := by omega
      rw [Nat.mul_one, Nat.mul_one, Nat.mul_one, Nat.add_zero, Nat.pow_add, Nat.mul_assoc])

theorem near_le {N D r : Nat} (h : Near N D r) : r < 9223372036854775808 := by
  have hI : INF = 9218868437227405312 := rfl
  have := h.1; omega

theorem out_word {s : Bool} {r : Nat} (h : r < 9223372036854775808) : out (some (double.word s r)) = pat s r := pat_word h

end Go.Proofs.Ytpjcheenihlagaa.Fl
