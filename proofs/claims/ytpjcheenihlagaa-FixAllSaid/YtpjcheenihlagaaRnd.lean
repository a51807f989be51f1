/- What the reference's rows of bits come to: list, at, top, summed, compared, rounded (plain arithmetic). No conditions beyond those in each lemma. -/
import Derived.Test.YtpjcheenihlagaaRfa
import Derived.Test.YtpjcheenihlagaaRx3
import Derived.Test.YtpjcheenihlagaaML
namespace Go.Proofs.Ytpjcheenihlagaa.Fl
open Go.RowKit Hf
open Go.Proofs.Ytpjcheenihlagaa.PFixAll Go.Proofs.YtpjcheenihlagaaW.PrintWords Go.Proofs.YtpjcheenihlagaaW.PrintLast Go.Proofs.YtpjcheenihlagaaW.PrintMore

/-- The bit of a number at a place that may lie below it. -/
def bitAt (n : Nat) (i : Int) : Int := if i < 0 then 0 else ((n / 2 ^ i.toNat % 2 : Nat) : Int)
theorem bitAt_bd (n : Nat) (i : Int) : bitAt n i = 0 ∨ bitAt n i = 1 := by unfold bitAt; split <;> omega

theorem at_f {l : List Int} (hl : Bits l) (i : Int) : hearthref1_at.f l i = some (bitAt (val l) i) := by
  unfold hearthref1_at.f bitAt
  by_cases h0 : i < 0
  · rw [if_pos h0, if_pos h0]
  · rw [if_neg h0, if_neg h0]
    by_cases h1 : i ≥ (l.length : Int)
    · rw [if_pos h1]
      have h2 := val_lt hl
      have h3 : 2 ^ l.length ≤ 2 ^ i.toNat := Nat.pow_le_pow_right (by omega) (by omega)
      rw [Nat.div_eq_of_lt (by omega)]; rfl
    · rw [if_neg h1, if_pos (by omega), if_pos (by omega)]
      unfold rd
      rw [val_bit hl]

/-! ### list -/
theorem list_l (j : Nat) : ∀ (k : Nat) (n : Nat) (l : List Int), j < k → n < 2 ^ j → n < 9223372036854775808 → Bits l → l.length + j < 17592186044416 →
    ∃ r, hearthref1_list.l0 k n l = some r ∧ Bits r ∧ val r = val l + 2 ^ l.length * n ∧ l.length ≤ r.length ∧ r.length ≤ l.length + j := by
  induction j with
  | zero =>
    intro k n l hk hn _ hl _
    obtain ⟨k, rfl⟩ : ∃ m, k = m + 1 := ⟨k - 1, by omega⟩
    obtain rfl : n = 0 := by omega
    exact ⟨l, by simp only [hearthref1_list.l0]; rw [if_neg (by omega)], hl, by simp, Nat.le_refl _, Nat.le_refl _⟩
  | succ j ih =>
    intro k n l hk hn h63 hl hlen
    obtain ⟨k, rfl⟩ : ∃ m, k = m + 1 := ⟨k - 1, by omega⟩
    by_cases h0 : n = 0
    · subst h0
      exact ⟨l, by simp only [hearthref1_list.l0]; rw [if_neg (by omega)], hl, by simp, Nat.le_refl _, by omega⟩
    · have t1 : wrap64 (Int.tdiv (n : Int) 2) = ((n / 2 : Nat) : Int) := by
        rw [Int.tdiv_eq_ediv_of_nonneg (by omega), wrap_id (by unfold Fits; omega)]; omega
      have t2 : Int.tmod (n : Int) 2 = ((n % 2 : Nat) : Int) := by
        rw [Int.tmod_eq_emod_of_nonneg (by omega)]; omega
      rw [Nat.pow_succ] at hn
      obtain ⟨r, h1, h2, h3, h4, h5⟩ := ih k (n / 2) (l ++ [((n % 2 : Nat) : Int)]) (by omega) (by omega) (by omega) (hl.append (Bits.one (by omega))) (by simp; omega)
      refine ⟨r, ?_, h2, ?_, ?_, ?_⟩
      · simp only [hearthref1_list.l0]
        rw [if_pos (by omega), if_pos (by omega), t1, t2]; exact h1
      · rw [h3, val_snoc, List.length_append, List.length_singleton, Nat.pow_succ, Int.toNat_natCast, Nat.mul_assoc, Nat.add_assoc, ← Nat.mul_add]
        congr 2; omega
      · simp at h4; omega
      · simp at h5; omega

theorem list_f (k : Nat) (hk : 64 ≤ k) (n : Nat) (hn : n < 9223372036854775808) (z : Nat) (hz : z ≤ 100000) :
    ∃ r, hearthref1_list.f k n z = some r ∧ Bits r ∧ val r = n * 2 ^ z ∧ r.length ≤ z + 63 := by
  unfold hearthref1_list.f
  rw [if_pos (by omega), Int.toNat_natCast, if_pos (by omega)]
  obtain ⟨r, h1, h2, h3, _, h5⟩ := list_l 63 k n (List.replicate z 0) (by omega) (by omega) hn (Bits.rep z) (by simp; omega)
  refine ⟨r, h1, h2, ?_, by simpa using h5⟩
  rw [h3, val_rep, List.length_replicate, Nat.zero_add, Nat.mul_comm]

/-! ### top -/
def topOf (n : Nat) : Int := if n = 0 then -1 else (n.log2 : Int)

theorem top_l {l : List Int} (hl : Bits l) (hlen : l.length < 1000000) (j : Nat) : ∀ (k : Nat) (i : Int), j < k → i + 1 = j → j ≤ l.length → val l < 2 ^ j →
    hearthref1_top.l0 k l i = some (topOf (val l)) := by
  unfold topOf
  induction j with
  | zero =>
    intro k i hk hi _ hv
    obtain ⟨k, rfl⟩ : ∃ m, k = m + 1 := ⟨k - 1, by omega⟩
    have : val l = 0 := by omega
    simp only [hearthref1_top.l0]
    rw [if_neg (by omega), if_pos this]; congr 1; omega
  | succ j ih =>
    intro k i hk hi hjl hv
    obtain ⟨k, rfl⟩ : ∃ m, k = m + 1 := ⟨k - 1, by omega⟩
    obtain rfl : i = (j : Int) := by omega
    simp only [hearthref1_top.l0]
    rw [if_pos (by omega), if_pos (by omega), if_pos (by omega)]
    have hb : rd l (j : Int) = ((val l / 2 ^ j % 2 : Nat) : Int) := by
      unfold rd; rw [val_bit hl, Int.toNat_natCast]
    rw [Nat.pow_succ] at hv
    have hdiv : val l / 2 ^ j < 2 := by rw [Nat.div_lt_iff_lt_mul (Nat.two_pow_pos j)]; omega
    rw [hb]
    by_cases c : val l / 2 ^ j = 0
    · have hlt : val l < 2 ^ j := by
        rcases Nat.div_eq_zero_iff.1 c with h | h
        · have := Nat.two_pow_pos j; omega
        · exact h
      rw [c, if_pos (by rfl), wrap_id (by unfold Fits; omega)]
      exact ih k ((j : Int) - 1) (by omega) (by omega) (by omega) hlt
    · have h1 : val l / 2 ^ j = 1 := Nat.le_antisymm (Nat.lt_succ_iff.1 hdiv) (Nat.pos_of_ne_zero c)
      have hge : 2 ^ j ≤ val l := by
        have := Nat.div_add_mod (val l) (2 ^ j); rw [h1] at this; omega
      have := Nat.two_pow_pos j
      have hne : ¬ val l = 0 := by omega
      rw [h1, if_neg (by decide), if_neg hne, log2_eq hge (by rw [Nat.pow_succ]; omega)]

theorem top_f {l : List Int} (hl : Bits l) (hlen : l.length < 1000000) (k : Nat) (hk : l.length < k) :
    hearthref1_top.f k l = some (topOf (val l)) := by
  unfold hearthref1_top.f
  rw [wrap_id (by unfold Fits; omega)]
  exact top_l hl hlen l.length k _ hk (by omega) (Nat.le_refl _) (val_lt hl)

/-! ### rounded -/
/-- What is left when the row has been rounded: a sign and a rung. -/
def roundRung (m half rest : Nat) (L : Nat) : Nat := min (L * 4503599627370496 + (m + if half = 1 ∧ (rest = 1 ∨ m % 2 = 1) then 1 else 0)) INF

theorem signed_f (s : Bool) (r : Nat) (hr : r < 9223372036854775808) : hearthref1_signed.f s r = some (pat s r) := by
  unfold hearthref1_signed.f pat
  cases s
  · rw [if_neg (by decide), if_neg (by decide)]
  · rw [if_pos rfl, if_pos rfl, wrap_id (by unfold Fits; omega)]; congr 1
theorem infinity_f (s : Bool) : hearthref1_infinity.f s = some (pat s INF) := by
  have h : hearthref1_signed.f s 9218868437227405312 = some (pat s INF) := signed_f s INF (by decide)
  unfold hearthref1_infinity.f
  rw [h]; rfl

theorem tail4_f (k : Nat) (s : Bool) (m : Nat) (mi : Int) (hmi : mi = (m : Int)) (L : Nat) (hm : m < 9007199254740992) (hL : L ≤ 1000000) (h1 : 0 < L → 4503599627370496 ≤ m) :
    hearthref1_rounded.j4 (k + 1) s mi ((L : Int) - 1074) = some (pat s (min (L * 4503599627370496 + m) INF)) := by
  subst hmi
  have hI : INF = 9218868437227405312 := rfl
  simp only [hearthref1_rounded.j4]
  by_cases c : (m : Int) < 4503599627370496
  · rw [if_pos c, signed_f s m (by omega)]; simp only [Option.bind_some]
    have : min (L * 4503599627370496 + m) INF = m := by omega
    rw [this]
  · rw [if_neg c]
    have e1 : wrap64 (((L : Int) - 1074) - -1074) = L := by rw [wrap_id (by unfold Fits; omega)]; omega
    have e2 : wrap64 ((L : Int) + 1) = L + 1 := wrap_id (by unfold Fits; omega)
    rw [e1, e2]
    by_cases c2 : (L : Int) + 1 ≥ 2047
    · rw [if_pos c2, infinity_f]; simp only [Option.bind_some]
      have : min (L * 4503599627370496 + m) INF = INF := by omega
      rw [this]
    · rw [if_neg c2]
      have e3 : wrap64 (((L : Int) + 1) * 4503599627370496) = ((L : Int) + 1) * 4503599627370496 := wrap_id (by unfold Fits; omega)
      have e4 : wrap64 (((L : Int) + 1) * 4503599627370496 + m) = ((L : Int) + 1) * 4503599627370496 + m := wrap_id (by unfold Fits; omega)
      have e5 : wrap64 (((L : Int) + 1) * 4503599627370496 + m - 4503599627370496) = ((L * 4503599627370496 + m : Nat) : Int) := by
        rw [wrap_id (by unfold Fits; omega)]; omega
      rw [e3, e4, e5, signed_f s _ (by omega)]; simp only [Option.bind_some]
      have : min (L * 4503599627370496 + m) INF = L * 4503599627370496 + m := by omega
      rw [this]

theorem tail3_f (k : Nat) (s : Bool) (low exp : Int) (m : Nat) (L : Nat) (hLe : low + exp = (L : Int) - 1074) (hlow : -100000 ≤ low ∧ low ≤ 100000) (hexp : -100000 ≤ exp ∧ exp ≤ 100000)
    (hm : m ≤ 9007199254740992) (h1 : 0 < L → 4503599627370496 ≤ m) :
    hearthref1_rounded.j3 (k + 2) s exp low m = some (pat s (min (L * 4503599627370496 + m) INF)) := by
  simp only [hearthref1_rounded.j3]
  have e1 : wrap64 (low + exp) = (L : Int) - 1074 := by rw [wrap_id (by unfold Fits; omega), hLe]
  rw [e1]
  by_cases c : (m : Int) = 9007199254740992
  · have e2 : wrap64 ((L : Int) - 1074 + 1) = ((L + 1 : Nat) : Int) - 1074 := by rw [wrap_id (a := (L : Int) - 1074 + 1) (by unfold Fits; omega)]; omega
    rw [if_pos c, e2]
    rw [tail4_f k s 4503599627370496 4503599627370496 (by omega) (L + 1) (by omega) (by omega) (by omega)]
    rw [show (L + 1) * 4503599627370496 + 4503599627370496 = L * 4503599627370496 + m by omega]
  · rw [if_neg c]
    exact tail4_f k s m m rfl L (by omega) (by omega) h1

/-- The reading of the bits that are kept. -/
theorem keep_l {l : List Int} (hl : Bits l) (s : Bool) (exp low : Int) (more : Bool) (d : Nat) : ∀ (k : Nat) (i : Int) (m : Nat), d < k → i - low + 1 = d ∨ (i < low ∧ d = 0) → -100000 ≤ low → i ≤ 100000 →
    (low ≤ i → m = sh (val l) (i + 1)) → (∀ j, low ≤ j → j ≤ i → sh (val l) j < 9007199254740992) →
    ∃ k', k = k' + d + 1 ∧ hearthref1_rounded.l0 k s l exp more low m i = (hearthref1_at.f l (wrap64 (low - 1))).bind fun t => hearthref1_rounded.l1 k' s l exp low (if low ≤ i then sh (val l) low else m : Nat) (t == 1) more 0 := by
  induction d with
  | zero =>
    intro k i m hk hd _ _ _ _
    obtain ⟨k, rfl⟩ : ∃ m, k = m + 1 := ⟨k - 1, by omega⟩
    refine ⟨k, rfl, ?_⟩
    simp only [hearthref1_rounded.l0]
    rw [if_neg (by omega), if_neg (by omega)]
  | succ d ih =>
    intro k i m hk hd hlow hi hm hb
    obtain ⟨k, rfl⟩ : ∃ m, k = m + 1 := ⟨k - 1, by omega⟩
    have hle : low ≤ i := by omega
    have hmi := hm hle
    have hstep := sh_step (val l) i
    have hsm := hb i hle (Int.le_refl _)
    have e1 : wrap64 (wrap64 ((m : Int) + m) + bitAt (val l) i) = (sh (val l) i : Nat) := by
      have hbit : bitAt (val l) i = ((if i < 0 then 0 else val l / 2 ^ i.toNat % 2 : Nat) : Int) := by
        unfold bitAt; split <;> rfl
      rw [hbit, wrap_id (a := (m : Int) + m) (by unfold Fits; omega), wrap_id (by unfold Fits; omega)]
      omega
    obtain ⟨k', h1, h2⟩ := ih k (i - 1) (sh (val l) i) (by omega) (by omega) hlow (by omega) (fun _ => by rw [show i - 1 + 1 = i by omega]) (fun j h1 h2 => hb j h1 (by omega))
    refine ⟨k', by omega, ?_⟩
    simp only [hearthref1_rounded.l0]
    rw [if_pos (by omega), at_f hl]; simp only [Option.bind_some]
    rw [e1, wrap_id (a := i - 1) (by unfold Fits; omega), h2, if_pos hle]
    by_cases c : low ≤ i - 1
    · rw [if_pos c]
    · rw [if_neg c, show i = low by omega]

/-- Is there a bit below a place? -/
theorem rest_l {l : List Int} (hl : Bits l) (s : Bool) (exp low : Int) (m : Int) (half : Bool) (d : Nat) : ∀ (k : Nat) (i : Int) (more : Bool), d < k → low - 1 - i = d ∨ (low - 1 ≤ i ∧ d = 0) → 0 ≤ i → low ≤ 100000 → -100000 ≤ low → i ≤ 100000 →
    ∃ k', k = k' + d + 1 ∧ hearthref1_rounded.l1 k s l exp low m half more i =
      (if half = true then (if (more || (decide (i < low - 1) && decide (val l / 2 ^ i.toNat % 2 ^ (low - 1 - i).toNat ≠ 0))) = true then (hearthref1_rounded.j2 k' s exp low m true) else (hearthref1_rounded.j2 k' s exp low m ((Int.tmod m 2) == 1))) else (hearthref1_rounded.j2 k' s exp low m false)) := by
  induction d with
  | zero =>
    intro k i more hk hd h0 _ _ _
    obtain ⟨k, rfl⟩ : ∃ m, k = m + 1 := ⟨k - 1, by omega⟩
    refine ⟨k, rfl, ?_⟩
    simp only [hearthref1_rounded.l1]
    rw [wrap_id (a := low - 1) (by unfold Fits; omega), if_neg (by omega)]
    have : (more || (decide (i < low - 1) && decide (val l / 2 ^ i.toNat % 2 ^ (low - 1 - i).toNat ≠ 0))) = more := by
      rw [decide_eq_false (show ¬ i < low - 1 by omega)]; simp
    rw [this]
  | succ d ih =>
    intro k i more hk hd h0 hlow1 hlow2 hi
    obtain ⟨k, rfl⟩ : ∃ m, k = m + 1 := ⟨k - 1, by omega⟩
    have hlt : i < low - 1 := by omega
    have hw : wrap64 (low - 1) = low - 1 := wrap_id (by unfold Fits; omega)
    have hwi : wrap64 (i + 1) = i + 1 := wrap_id (by unfold Fits; omega)
    -- the bits from i on, and those from i + 1 on
    obtain ⟨n, rfl⟩ := Int.eq_ofNat_of_zero_le h0
    have hq : (low - 1 - (n : Int)).toNat = (low - 1 - ((n : Int) + 1)).toNat + 1 := by omega
    have key : (decide (val l / 2 ^ n % 2 ^ (low - 1 - (n : Int)).toNat ≠ 0)) = (decide (val l / 2 ^ n % 2 = 1) || decide (val l / 2 ^ (n + 1) % 2 ^ (low - 1 - ((n : Int) + 1)).toNat ≠ 0)) := by
      rw [hq]
      generalize (low - 1 - ((n : Int) + 1)).toNat = z
      have e1 : val l / 2 ^ (n + 1) = val l / 2 ^ n / 2 := by rw [Nat.pow_succ, ← Nat.div_div_eq_div_mul]
      rw [e1]
      generalize val l / 2 ^ n = x
      have e2 : x % 2 ^ (z + 1) = x % 2 + 2 * (x / 2 % 2 ^ z) := by
        rw [Nat.pow_succ, Nat.mul_comm (2 ^ z) 2, Nat.mod_mul]
      rw [e2, Bool.eq_iff_iff, Bool.or_eq_true, decide_eq_true_eq, decide_eq_true_eq, decide_eq_true_eq]
      omega
    have keep : ∀ more' : Bool, (more' || (decide ((n : Int) + 1 < low - 1) && decide (val l / 2 ^ (n + 1) % 2 ^ (low - 1 - ((n : Int) + 1)).toNat ≠ 0))) = (more' || decide (val l / 2 ^ (n + 1) % 2 ^ (low - 1 - ((n : Int) + 1)).toNat ≠ 0)) := by
      intro more'
      by_cases c : (n : Int) + 1 < low - 1
      · rw [decide_eq_true c]; rfl
      · have : (low - 1 - ((n : Int) + 1)).toNat = 0 := by omega
        rw [this, Nat.pow_zero, Nat.mod_one]; simp
    simp only [hearthref1_rounded.l1]
    rw [hw, if_pos hlt, hwi, decide_eq_true hlt, Bool.true_and, Int.toNat_natCast, key]
    have next : ∀ more' : Bool, ∃ k', k = k' + d + 1 ∧ hearthref1_rounded.l1 k s l exp low m half more' ((n : Int) + 1) =
        (if half = true then (if (more' || decide (val l / 2 ^ (n + 1) % 2 ^ (low - 1 - ((n : Int) + 1)).toNat ≠ 0)) = true then (hearthref1_rounded.j2 k' s exp low m true) else (hearthref1_rounded.j2 k' s exp low m ((Int.tmod m 2) == 1))) else (hearthref1_rounded.j2 k' s exp low m false)) := by
      intro more'
      obtain ⟨k', h1, h2⟩ := ih k ((n : Int) + 1) more' (by omega) (by omega) (by omega) hlow1 hlow2 (by omega)
      refine ⟨k', h1, ?_⟩
      rw [h2, show ((n : Int) + 1).toNat = n + 1 by omega, keep]
    cases more with
    | true =>
      obtain ⟨k', h1, h2⟩ := next true
      refine ⟨k', by omega, ?_⟩
      rw [if_pos rfl, h2, Bool.true_or, Bool.true_or]
    | false =>
      obtain ⟨k', h1, h2⟩ := next (decide (val l / 2 ^ n % 2 = 1))
      refine ⟨k', by omega, ?_⟩
      rw [if_neg (by decide), at_f hl]; simp only [Option.bind_some]
      have hb : (bitAt (val l) (n : Int) == 1) = decide (val l / 2 ^ n % 2 = 1) := by
        unfold bitAt
        rw [if_neg (by omega), Int.toNat_natCast, Bool.eq_iff_iff, beq_iff_eq, decide_eq_true_eq]; omega
      rw [hb, h2, Bool.false_or]

theorem rhe_bits {m hb r g c t : Nat} (hhb : hb = 0 ∨ hb = 1) (hr : r < g) (ht : t < c) :
    Rhe (((m * 2 + hb) * g + r) * c + t) (c * (2 * g)) (m + if hb = 1 ∧ ((r ≠ 0 ∨ t ≠ 0) ∨ m % 2 = 1) then 1 else 0) := by
  have h1 : c * (r + 1) ≤ c * g := Nat.mul_le_mul_left _ hr
  rw [Nat.mul_add, Nat.mul_one] at h1
  have hR : c * r = 0 ↔ r = 0 := by rw [Nat.mul_eq_zero]; omega
  have eA : ((m * 2 + hb) * g + r) * c + t = 2 * (m * (c * g)) + hb * (c * g) + c * r + t := by
    rw [Nat.add_mul, Nat.add_mul, Nat.add_mul, Nat.mul_comm r c]
    have e1 : m * 2 * g * c = 2 * (m * (c * g)) := by simp only [Nat.mul_comm, Nat.mul_left_comm, Nat.mul_assoc]
    have e2 : hb * g * c = hb * (c * g) := by rw [Nat.mul_assoc, Nat.mul_comm g c]
    rw [e1, e2]
  have eB : c * (2 * g) = 2 * (c * g) := Nat.mul_left_comm ..
  rw [eA, eB]
  have eK : ∀ k, 2 * (c * g) * (2 * k) = 4 * (k * (c * g)) := fun k => by
    rw [Nat.mul_mul_mul_comm, Nat.mul_comm (c * g) k]
  generalize c * g = G at *
  generalize c * r = R at *
  unfold Rhe
  have eK1 : ∀ k, 2 * G * (2 * k + 1) = 4 * (k * G) + 2 * G := fun k => by rw [Nat.mul_add, Nat.mul_one, eK]
  rw [eK1, eK]
  rcases hhb with rfl | rfl
  · rw [if_neg (by omega), Nat.add_zero, Nat.zero_mul]
    generalize m * G = M at *
    refine ⟨by omega, by omega, by omega, by omega⟩
  · rw [Nat.one_mul]
    by_cases c1 : (r ≠ 0 ∨ t ≠ 0) ∨ m % 2 = 1
    · rw [if_pos ⟨rfl, c1⟩, Nat.add_mul, Nat.one_mul]
      generalize m * G = M at *
      refine ⟨by omega, by omega, by omega, by omega⟩
    · rw [if_neg (fun q => c1 q.2), Nat.add_zero]
      generalize m * G = M at *
      refine ⟨by omega, by omega, by omega, by omega⟩

theorem rhe_exact (m c : Nat) (hc : 0 < c) : Rhe (m * c) c m := by
  unfold Rhe
  have e1 : c * (2 * m + 1) = 2 * (m * c) + c := by rw [Nat.mul_add, Nat.mul_one, Nat.mul_left_comm, Nat.mul_comm c m]
  have e2 : c * (2 * m) = 2 * (m * c) := by rw [Nat.mul_left_comm, Nat.mul_comm c m]
  rw [e1, e2]
  refine ⟨by omega, by omega, by omega, by omega⟩

/-- The row of a number that is not nought, rounded: its nearest rung. -/
theorem rounded_f {l : List Int} (hl : Bits l) (hlen : l.length ≤ 20000) (hn : 0 < val l) (s : Bool) (exp : Int) (hexp : -10000 ≤ exp ∧ exp ≤ 10000) (more : Bool) (k : Nat) (hk : 100000 ≤ k)
    {c t N D : Nat} (hD : 0 < D) (ht : t < c) (hmore : more = decide (t ≠ 0)) (hlow : t ≠ 0 → 52 < (val l).log2)
    (hval : ∀ u d : Nat, (u : Int) - d = exp + 1074 → N * 2 ^ d * c = (val l * c + t) * 2 ^ u * D) :
    ∃ r, hearthref1_rounded.f k s l exp more = some (pat s r) ∧ Near N D r := by
  have hlo : 2 ^ (val l).log2 ≤ val l := Nat.log2_self_le (by omega)
  have hhi : val l < 2 ^ ((val l).log2 + 1) := Nat.lt_log2_self
  have hh : (val l).log2 < l.length := by
    have := val_lt hl
    exact (Nat.pow_lt_pow_iff_right (by omega : 1 < 2)).1 (Nat.lt_of_le_of_lt hlo this)
  have htop := top_f hl (by omega) k (by omega)
  unfold topOf at htop
  rw [if_neg (by omega)] at htop
  generalize hg : (val l).log2 = h at *
  generalize hnn : val l = n at *
  obtain ⟨low, hlow1⟩ : ∃ low : Int, low = max ((h : Int) - 52) (-1074 - exp) := ⟨_, rfl⟩
  have hmx : mx (wrap64 ((h : Int) - 52)) (wrap64 (-1074 - exp)) = low := by
    rw [wrap_id (by unfold Fits; omega), wrap_id (by unfold Fits; omega)]; unfold mx; split <;> omega
  unfold hearthref1_rounded.f
  rw [htop]; simp only [Option.bind_some]
  rw [if_neg (by omega), hmx]
  -- the numbers in between are small
  have small : ∀ j : Int, low ≤ j → j ≤ h → sh n j < 9007199254740992 := by
    intro j h1 h2
    by_cases c0 : 0 ≤ j
    · rw [sh_nonneg c0, Nat.div_lt_iff_lt_mul (Nat.two_pow_pos _)]
      have : 2 ^ (h + 1) ≤ 9007199254740992 * 2 ^ j.toNat := by
        rw [show (9007199254740992 : Nat) = 2 ^ 53 by decide, ← Nat.pow_add]; exact Nat.pow_le_pow_right (by omega) (by omega)
      omega
    · rw [sh_nonpos (by omega)]
      have h3 : n * 2 ^ (-j).toNat < 2 ^ (h + 1) * 2 ^ (-j).toNat := Nat.mul_lt_mul_of_pos_right hhi (Nat.two_pow_pos _)
      have h4 : 2 ^ (h + 1) * 2 ^ (-j).toNat ≤ 2 ^ 53 := by rw [← Nat.pow_add]; exact Nat.pow_le_pow_right (by omega) (by omega)
      omega
  have hm0 : low ≤ (h : Int) → (0 : Nat) = sh n ((h : Int) + 1) := by
    intro _; rw [sh_nonneg (by omega), show ((h : Int) + 1).toNat = h + 1 by omega, Nat.div_eq_of_lt hhi]
  obtain ⟨d1, hd1⟩ : ∃ d1 : Nat, ((h : Int) - low + 1 = d1 ∨ ((h : Int) < low ∧ d1 = 0)) ∧ d1 ≤ 53 := by
    by_cases c1 : low ≤ (h : Int)
    · exact ⟨((h : Int) - low + 1).toNat, by omega, by omega⟩
    · exact ⟨0, by omega, by omega⟩
  obtain ⟨k1, hk1, hkeep⟩ := keep_l hl s exp low more d1 k h 0 (by omega) hd1.1 (by omega) (by omega) (by rw [hnn]; exact hm0) (by rw [hnn]; exact small)
  rw [show ((0 : Nat) : Int) = 0 by omega] at hkeep
  rw [hkeep, hnn, at_f hl, hnn]; simp only [Option.bind_some]
  have hkept : (if low ≤ (h : Int) then sh n low else 0) = sh n low := by
    split
    · rfl
    · rw [sh_nonneg (by omega), Nat.div_eq_of_lt]
      exact Nat.lt_of_lt_of_le hhi (Nat.pow_le_pow_right (by omega) (by omega))
  rw [hkept, wrap_id (a := low - 1) (by unfold Fits; omega)]
  obtain ⟨d2, hd2⟩ : ∃ d2 : Nat, (low - 1 - 0 = d2 ∨ (low - 1 ≤ 0 ∧ d2 = 0)) ∧ d2 ≤ 30000 := by
    by_cases c1 : low - 1 ≤ 0
    · exact ⟨0, by omega, by omega⟩
    · exact ⟨(low - 1).toNat, by omega, by omega⟩
  obtain ⟨k2, hk2, hrest⟩ := rest_l hl s exp low (sh n low : Nat) (bitAt n (low - 1) == 1) d2 k1 0 more (by omega) hd2.1 (by omega) (by omega) (by omega) (by omega)
  rw [hrest, hnn]
  -- the end: with whatever is added
  obtain ⟨L, hL⟩ : ∃ L : Nat, low + exp = (L : Int) - 1074 := ⟨(low + exp + 1074).toNat, by omega⟩
  have hL0 : 0 < L → low = (h : Int) - 52 := by omega
  have hkeptL : 0 < L → 4503599627370496 ≤ sh n low := by
    intro h0
    have e := hL0 h0
    by_cases c0 : 0 ≤ low
    · rw [sh_nonneg c0, Nat.le_div_iff_mul_le (Nat.two_pow_pos _), show (4503599627370496 : Nat) = 2 ^ 52 by decide, ← Nat.pow_add, show 52 + low.toNat = h by omega]
      exact hlo
    · rw [sh_nonpos (by omega)]
      have h3 : 2 ^ h * 2 ^ (-low).toNat ≤ n * 2 ^ (-low).toNat := Nat.mul_le_mul_right _ hlo
      rw [← Nat.pow_add, show h + (-low).toNat = 52 by omega] at h3
      exact h3
  have hsmall : sh n low < 9007199254740992 := by
    by_cases c1 : low ≤ (h : Int)
    · exact small low (Int.le_refl _) c1
    · rw [sh_nonneg (by omega), Nat.div_eq_of_lt]
      · omega
      · exact Nat.lt_of_lt_of_le hhi (Nat.pow_le_pow_right (by omega) (by omega))
  have fin : ∀ (x : Bool) (q : Nat), q = sh n low + x.toNat → Rhe ((n * c + t) * 2 ^ (-low).toNat) (c * 2 ^ low.toNat) q →
      ∃ r, hearthref1_rounded.j2 k2 s exp low (sh n low : Nat) x = some (pat s r) ∧ Near N D r := by
    intro x q hq hrhe
    obtain ⟨k3, rfl⟩ : ∃ m, k2 = m + 3 := ⟨k2 - 3, by omega⟩
    refine ⟨min (L * 4503599627370496 + q) INF, ?_, ?_⟩
    · simp only [hearthref1_rounded.j2]
      cases x with
      | true =>
        rw [if_pos rfl, wrap_id (by unfold Fits; omega), show ((sh n low : Nat) : Int) + 1 = (q : Int) by rw [hq]; simp]
        exact tail3_f k3 s low exp q L hL (by omega) (by omega) (by rw [hq]; simp; omega) (fun h0 => by have := hkeptL h0; rw [hq]; omega)
      | false =>
        rw [if_neg (by decide)]
        have hq' : q = sh n low := by rw [hq]; rfl
        rw [hq']
        exact tail3_f k3 s low exp (sh n low) L hL (by omega) (by omega) (by omega) hkeptL
    · have hc : 0 < c := by omega
      refine near_of_rhe (Nat.mul_pos hc (Nat.two_pow_pos _)) hD ?_ hrhe ?_ ?_
      · have := hval (L + (-low).toNat) low.toNat (by omega)
        rw [Nat.pow_add] at this
        have e1 : N * (c * 2 ^ low.toNat) = N * 2 ^ low.toNat * c := by rw [Nat.mul_comm c, Nat.mul_assoc]
        rw [e1, this]
        simp only [Nat.mul_comm, Nat.mul_left_comm]
      · intro h0
        have e := hL0 h0
        have h3 : 2 ^ h * c ≤ n * c + t := Nat.le_trans (Nat.mul_le_mul_right c hlo) (Nat.le_add_right _ _)
        have h4 : 2 ^ h * c * 2 ^ (-low).toNat ≤ (n * c + t) * 2 ^ (-low).toNat := Nat.mul_le_mul_right _ h3
        have e2 : 4503599627370496 * (c * 2 ^ low.toNat) = 2 ^ h * c * 2 ^ (-low).toNat := by
          rw [show (4503599627370496 : Nat) = 2 ^ 52 by decide, Nat.mul_left_comm, ← Nat.pow_add, Nat.mul_comm (2 ^ h) c, Nat.mul_assoc, ← Nat.pow_add]
          congr 2; omega
        rw [e2]; exact h4
      · have h3 : n * c + t < 2 ^ (h + 1) * c := by
          have : (n + 1) * c ≤ 2 ^ (h + 1) * c := Nat.mul_le_mul_right _ hhi
          rw [Nat.add_mul, Nat.one_mul] at this; omega
        have h4 : (n * c + t) * 2 ^ (-low).toNat < 2 ^ (h + 1) * c * 2 ^ (-low).toNat := Nat.mul_lt_mul_of_pos_right h3 (Nat.two_pow_pos _)
        have h5 : 2 ^ (h + 1) * c * 2 ^ (-low).toNat ≤ c * 2 ^ low.toNat * 9007199254740992 := by
          rw [show (9007199254740992 : Nat) = 2 ^ 53 by decide, Nat.mul_comm (2 ^ (h + 1)) c, Nat.mul_assoc, Nat.mul_assoc, ← Nat.pow_add, ← Nat.pow_add]
          exact Nat.mul_le_mul_left _ (Nat.pow_le_pow_right (by omega) (by omega))
        omega
  by_cases c0 : low ≤ 0
  · -- nothing is cut
    have t0 : t = 0 := by
      apply Decidable.byContradiction; intro hc
      have := hlow hc; omega
    have hbz : (bitAt n (low - 1) == 1) = false := by unfold bitAt; rw [if_pos (by omega)]; rfl
    rw [hbz, if_neg (by decide)]
    apply fin false (sh n low) rfl
    rw [t0, Nat.add_zero, sh_nonpos c0, show low.toNat = 0 by omega, Nat.pow_zero, Nat.mul_one, Nat.mul_right_comm]
    exact rhe_exact _ _ (by omega)
  · obtain ⟨q, hq⟩ : ∃ q : Nat, low = (q : Int) + 1 := ⟨(low - 1).toNat, by omega⟩
    have e0 : (-low).toNat = 0 := by omega
    have e1 : low.toNat = q + 1 := by omega
    have e2 : low - 1 = (q : Int) := by omega
    have hsh : sh n low = n / 2 ^ q / 2 := by rw [sh_nonneg (by omega), e1, Nat.pow_succ, ← Nat.div_div_eq_div_mul]
    have hbit : bitAt n (low - 1) = ((n / 2 ^ q % 2 : Nat) : Int) := by unfold bitAt; rw [e2, if_neg (by omega), Int.toNat_natCast]
    have hrem : (decide ((0 : Int) < low - 1) && decide (n / 2 ^ (0 : Int).toNat % 2 ^ (low - 1 - 0).toNat ≠ 0)) = decide (n % 2 ^ q ≠ 0) := by
      rw [show (0 : Int).toNat = 0 from rfl, Nat.pow_zero, Nat.div_one, show (low - 1 - 0).toNat = q by omega]
      by_cases cq : q = 0
      · subst cq; rw [Nat.pow_zero, Nat.mod_one]; simp
      · rw [decide_eq_true (show (0 : Int) < low - 1 by omega), Bool.true_and]
    rw [hrem, hmore]
    have hbd : n / 2 ^ q % 2 = 0 ∨ n / 2 ^ q % 2 = 1 := by omega
    have hgood := rhe_bits (m := sh n low) (hb := n / 2 ^ q % 2) (r := n % 2 ^ q) (g := 2 ^ q) (c := c) (t := t) hbd (Nat.mod_lt _ (Nat.two_pow_pos _)) ht
    have eN : (sh n low * 2 + n / 2 ^ q % 2) * 2 ^ q + n % 2 ^ q = n := by
      rw [hsh, show n / 2 ^ q / 2 * 2 + n / 2 ^ q % 2 = n / 2 ^ q by omega, Nat.mul_comm]
      exact Nat.div_add_mod n (2 ^ q)
    rw [eN, show c * (2 * 2 ^ q) = c * 2 ^ (q + 1) by rw [Nat.pow_succ, Nat.mul_comm 2]] at hgood
    have hgood' : Rhe ((n * c + t) * 2 ^ (-low).toNat) (c * 2 ^ low.toNat) (sh n low + if n / 2 ^ q % 2 = 1 ∧ ((n % 2 ^ q ≠ 0 ∨ t ≠ 0) ∨ sh n low % 2 = 1) then 1 else 0) := by
      rw [e0, e1, Nat.pow_zero, Nat.mul_one]; exact hgood
    have tm : (Int.tmod ((sh n low : Nat) : Int) 2 == 1) = decide (sh n low % 2 = 1) := by
      rw [Int.tmod_eq_emod_of_nonneg (by omega), Bool.eq_iff_iff, beq_iff_eq, decide_eq_true_eq]; omega
    rw [hbit, tm]
    by_cases c1 : n / 2 ^ q % 2 = 1
    · rw [if_pos (by rw [c1]; rfl)]
      by_cases c2 : n % 2 ^ q ≠ 0 ∨ t ≠ 0
      · rw [if_pos (by rw [Bool.or_eq_true, decide_eq_true_eq, decide_eq_true_eq]; omega)]
        apply fin true _ rfl
        rw [if_pos ⟨c1, .inl c2⟩] at hgood'
        exact hgood'
      · rw [if_neg (by rw [Bool.or_eq_true, decide_eq_true_eq, decide_eq_true_eq]; omega)]
        apply fin _ _ rfl
        by_cases c3 : sh n low % 2 = 1
        · rw [if_pos ⟨c1, .inr c3⟩] at hgood'
          rw [decide_eq_true c3]; exact hgood'
        · rw [if_neg (fun z => c3 (z.2.resolve_left c2))] at hgood'
          rw [decide_eq_false c3]; exact hgood'
    · rw [if_neg (by rw [beq_iff_eq]; omega)]
      apply fin false _ rfl
      rw [if_neg (fun z => c1 z.1)] at hgood'
      exact hgood'

end Go.Proofs.Ytpjcheenihlagaa.Fl
