/- Plain arithmetic of hashes, heads and growth (no Go in it): what package hash and its reference come to. No conditions beyond those in each lemma. -/
import Derived.Test.YtmnhhcjonephkaaHead
namespace Go.Proofs.Ytmnhhcjonephkaa.Hh
open Go.RowKit Go.Proofs.Ytmnhhcjonephkaa.Hd

/-! ### The hash -/
def hx (X : Int) : Int := (((X / 4294967296).toNat ^^^ (X % 4294967296).toNat : Nat) : Int)

theorem hx_bd {X : Int} (h0 : 0 ≤ X) (h1 : X < 18446744073709551616) : 0 ≤ hx X ∧ hx X < 4294967296 := by
  have : (X / 4294967296).toNat ^^^ (X % 4294967296).toNat < 2 ^ 32 := Nat.xor_lt_two_pow (by omega) (by omega)
  unfold hx; omega

theorem hx_u32 {X : Int} (h0 : 0 ≤ X) (h1 : X < 18446744073709551616) : wrap64 (Go.bits .xor .u32 ((X / 4294967296) % 4294967296) (X % 4294967296)) = hx X := by
  have hb := hx_bd h0 h1
  rw [u32_xor _ _ (by omega) (by omega) (by omega) (by omega)]
  have e : (X / 4294967296) % 4294967296 = X / 4294967296 := by omega
  rw [e]
  exact wrap_id (a := hx X) (by unfold Fits; omega)

theorem hx_i64 {X : Int} (h0 : 0 ≤ X) (h1 : X < 18446744073709551616) : Go.bits .xor .i64 (wrap64 (IntKind.u64.wrap (Int.tdiv X 4294967296))) (wrap64 (Int.tmod X 4294967296)) = hx X := by
  have hb := hx_bd h0 h1
  have e1 : Int.tdiv X 4294967296 = X / 4294967296 := Int.tdiv_eq_ediv_of_nonneg h0
  have e2 : Int.tmod X 4294967296 = X % 4294967296 := Int.tmod_eq_emod_of_nonneg h0
  have e3 : IntKind.u64.wrap (X / 4294967296) = X / 4294967296 := by rw [IntKind.wrap_u64]; omega
  rw [e1, e2, e3, wrap_id (by unfold Fits; omega), wrap_id (by unfold Fits; omega), xor_i64]
  have e4 : (X / 4294967296 % 18446744073709551616) = X / 4294967296 := by omega
  have e5 : (X % 4294967296 % 18446744073709551616) = X % 4294967296 := by omega
  rw [e4, e5]
  show IntKind.i64.wrap (hx X) = hx X
  rw [IntKind.wrap_i64]; omega

/-- The number under the hash. -/
def xof (n k : Int) : Int := IntKind.u64.wrap ((IntKind.u64.wrap ((IntKind.u64.wrap n) * 11400714819323198485)) + (IntKind.u64.wrap ((IntKind.u64.wrap k) * 14029467366897019727)))
theorem xof_bd (n k : Int) : 0 ≤ xof n k ∧ xof n k < 18446744073709551616 := by
  unfold xof
  generalize IntKind.u64.wrap ((IntKind.u64.wrap n) * 11400714819323198485) + (IntKind.u64.wrap ((IntKind.u64.wrap k) * 14029467366897019727)) = z
  rw [IntKind.wrap_u64]; omega
def hof (kind n serial : Int) : Int := if kind = 2 then hx (xof serial kind) else hx (xof n kind)

theorem of_go (a0_0 a0_1 a1 : Int) : (if a0_0 = 2 then (some (wrap64 (Go.bits .xor .u32 ((xof a1 a0_0 / 4294967296) % 4294967296) (xof a1 a0_0 % 4294967296)))) else (some (wrap64 (Go.bits .xor .u32 ((xof a0_1 a0_0 / 4294967296) % 4294967296) (xof a0_1 a0_0 % 4294967296)))) : Option Int) = some (hof a0_0 a0_1 a1) := by
  unfold hof
  have b1 := xof_bd a1 a0_0
  have b2 := xof_bd a0_1 a0_0
  rw [hx_u32 b1.1 b1.2, hx_u32 b2.1 b2.2]
  split <;> rfl

theorem of_ref (a0_0 a0_1 a1 : Int) : (if a0_0 = 2 then (some (Go.bits .xor .i64 (wrap64 (IntKind.u64.wrap (Int.tdiv (xof a1 a0_0) 4294967296))) (wrap64 (Int.tmod (xof a1 a0_0) 4294967296)))) else (some (Go.bits .xor .i64 (wrap64 (IntKind.u64.wrap (Int.tdiv (xof a0_1 a0_0) 4294967296))) (wrap64 (Int.tmod (xof a0_1 a0_0) 4294967296)))) : Option Int) = some (hof a0_0 a0_1 a1) := by
  unfold hof
  have b1 := xof_bd a1 a0_0
  have b2 := xof_bd a0_1 a0_0
  rw [hx_i64 b1.1 b1.2, hx_i64 b2.1 b2.2]
  split <;> rfl

theorem xof_comm (n k : Int) : IntKind.u64.wrap ((IntKind.u64.wrap (11400714819323198485 * (IntKind.u64.wrap n))) + (IntKind.u64.wrap (14029467366897019727 * (IntKind.u64.wrap k)))) = xof n k := by
  unfold xof
  rw [Int.mul_comm 11400714819323198485, Int.mul_comm 14029467366897019727]

theorem hof_bd (a b c : Int) : 0 ≤ hof a b c ∧ hof a b c < 4294967296 := by
  unfold hof
  have b1 := xof_bd c a
  have b2 := xof_bd b a
  split
  · exact hx_bd b1.1 b1.2
  · exact hx_bd b2.1 b2.2

/-! ### Spines -/
def Cap (a : Int) : Prop := a = 4 ∨ a = 8 ∨ a = 16 ∨ a = 32 ∨ a = 64 ∨ a = 128 ∨ a = 256 ∨ a = 512
instance (a : Int) : Decidable (Cap a) := by unfold Cap; infer_instance
def cap (a : Int) : Bool := decide (Cap a)
theorem cap_iff {a : Int} : cap a = true ↔ Cap a := decide_eq_true_iff

theorem cap_bits : ∀ n : Fin 513, (Go.bits .and .i64 ((n.val : Nat) : Int) (((n.val : Nat) : Int) - 1) == 0) = (decide (n.val < 4) && decide (n.val ≤ 1) || cap ((n.val : Nat) : Int) || decide (n.val = 2)) := by decide +kernel

theorem spine_go (a : Int) : (if a ≥ 4 then (if a ≤ 512 then (some ((Go.bits .and .i64 a (wrap64 (a - 1))) == 0)) else (some false)) else (some false) : Option Bool) = some (cap a) := by
  by_cases h4 : a ≥ 4
  · by_cases h5 : a ≤ 512
    · rw [if_pos h4, if_pos h5, wrap_id (by unfold Fits; omega)]
      obtain ⟨n, rfl⟩ := Int.eq_ofNat_of_zero_le (show 0 ≤ a by omega)
      have := cap_bits ⟨n, by omega⟩
      simp only at this
      rw [this]
      congr 1
      have e1 : decide (n < 4) = false := by simp; omega
      have e2 : decide (n = 2) = false := by simp; omega
      rw [e1, e2]; simp
    · rw [if_pos h4, if_neg h5]
      congr 1
      symm; rw [← Bool.not_eq_true, cap_iff]; unfold Cap; omega
  · rw [if_neg h4]
    congr 1
    symm; rw [← Bool.not_eq_true, cap_iff]; unfold Cap; omega

theorem spine_ref (g : Nat → Int → Int → Option Bool)
    (hg : ∀ k x0 x3, g (k + 1) x0 x3 = (if x3 ≤ 512 then (if x0 = x3 then (some true) else (g k x0 (wrap64 (2 * x3)))) else (some false)))
    (k : Nat) (hk : 9 ≤ k) (a : Int) : g k a 4 = some (cap a) := by
  obtain ⟨k, rfl⟩ : ∃ m, k = m + 9 := ⟨k - 9, by omega⟩
  have step : ∀ (j : Nat) (x : Int) (b : Bool), 0 < x → x ≤ 512 → g j a (2 * x) = some b → g (j + 1) a x = some (decide (a = x) || b) := by
    intro j x b h0 h1 h2
    rw [hg, if_pos h1, wrap_id (by unfold Fits; omega), h2]
    by_cases c : a = x
    · rw [if_pos c]; simp [c]
    · rw [if_neg c]; simp [c]
  have e : g (k + 1) a 1024 = some false := by rw [hg, if_neg (by omega)]
  have := step _ 4 _ (by omega) (by omega) (step _ 8 _ (by omega) (by omega) (step _ 16 _ (by omega) (by omega) (step _ 32 _ (by omega) (by omega) (step _ 64 _ (by omega) (by omega) (step _ 128 _ (by omega) (by omega) (step _ 256 _ (by omega) (by omega) (step _ 512 _ (by omega) (by omega) e)))))))
  rw [this]
  congr 1
  rw [Bool.eq_iff_iff, cap_iff]
  simp [Cap, Bool.or_eq_true, decide_eq_true_eq]

/-- Of a capacity: it is a power of two. -/
theorem cap_pow {c : Int} (h : cap c = true) : ∃ i : Nat, 2 ≤ i ∧ i ≤ 9 ∧ c = ((2 ^ i : Nat) : Int) := by
  rcases cap_iff.1 h with h | h | h | h | h | h | h | h
  · exact ⟨2, by omega, by omega, h⟩
  · exact ⟨3, by omega, by omega, h⟩
  · exact ⟨4, by omega, by omega, h⟩
  · exact ⟨5, by omega, by omega, h⟩
  · exact ⟨6, by omega, by omega, h⟩
  · exact ⟨7, by omega, by omega, h⟩
  · exact ⟨8, by omega, by omega, h⟩
  · exact ⟨9, by omega, by omega, h⟩

theorem cap_bd {c : Int} (h : cap c = true) : 4 ≤ c ∧ c ≤ 512 := by
  have := cap_iff.1 h; unfold Cap at this; omega

def slot (h c : Int) : Int := if cap c then h % c else -1

theorem slot_go {h c : Int} (hc : cap c = true) : Go.bits .and .i64 h (wrap64 (c - 1)) = h % c := by
  have := cap_bd hc
  rw [wrap_id (by unfold Fits; omega)]
  obtain ⟨i, h2, h9, rfl⟩ := cap_pow hc
  have hp : 0 < 2 ^ i := Nat.two_pow_pos i
  exact and_mask i (by omega) h _ (by omega)

theorem slot_ref {h c : Int} (hc : cap c = true) :
    (if (Int.tmod h c) < 0 then (some (wrap64 ((Int.tmod h c) + c))) else (some (Int.tmod h c)) : Option Int) = some (h % c) := by
  have hb := cap_bd hc
  have e1 : 0 ≤ h % c := Int.emod_nonneg _ (by omega)
  have e2 : h % c < c := Int.emod_lt_of_pos _ (by omega)
  by_cases h0 : 0 ≤ h
  · have : Int.tmod h c = h % c := Int.tmod_eq_emod_of_nonneg h0
    rw [this, if_neg (by omega)]
  · have hn : Int.tmod h c = -((-h) % c) := by
      have := Int.neg_tmod (a := -h) (b := c)
      rw [Int.neg_neg] at this
      rw [this, Int.tmod_eq_emod_of_nonneg (by omega)]
    have e3 : 0 ≤ (-h) % c := Int.emod_nonneg _ (by omega)
    have e4 : (-h) % c < c := Int.emod_lt_of_pos _ (by omega)
    have e5 : (h % c + (-h) % c) % c = 0 := by rw [← Int.add_emod, Int.add_right_neg, Int.zero_emod]
    have e6 : c ∣ (h % c + (-h) % c) := Int.dvd_of_emod_eq_zero e5
    obtain ⟨q, hq⟩ := e6
    have q2 : q < 2 := by
      apply Decidable.byContradiction; intro hq2
      have := Int.mul_le_mul_of_nonneg_left (show (2 : Int) ≤ q by omega) (show 0 ≤ c by omega)
      omega
    have q0 : 0 ≤ q := by
      apply Decidable.byContradiction; intro hq2
      have := Int.mul_le_mul_of_nonneg_left (show q ≤ (-1 : Int) by omega) (show 0 ≤ c by omega)
      omega
    have q01 : q = 0 ∨ q = 1 := by omega
    rw [hn]
    rcases q01 with rfl | rfl
    · rw [if_neg (by omega)]; congr 1; omega
    · rw [Int.mul_one] at hq
      rw [if_pos (by omega), wrap_id (by unfold Fits; omega)]; congr 1; omega

theorem slot_bd {h c : Int} (hc : cap c = true) : 0 ≤ h % c ∧ h % c < c := by
  have hb := cap_bd hc
  exact ⟨Int.emod_nonneg _ (by omega), Int.emod_lt_of_pos _ (by omega)⟩

theorem slot_xor {h c : Int} (hc : cap c = true) : (Go.bits .xor .i64 h c) % c = h % c := by
  obtain ⟨i, h2, h9, rfl⟩ := cap_pow hc
  have hp : 2 ^ i ≤ 2 ^ 9 := Nat.pow_le_pow_right (by omega) h9
  have hp0 : 0 < 2 ^ i := Nat.two_pow_pos i
  have hd : 2 ^ i ∣ 2 ^ 64 := Nat.pow_dvd_pow 2 (by omega)
  have hdI : ((2 ^ i : Nat) : Int) ∣ ((2 ^ 64 : Nat) : Int) := Int.natCast_dvd_natCast.2 hd
  have hd64 : ((2 ^ i : Nat) : Int) ∣ 18446744073709551616 := hdI
  rw [xor_i64]
  have e1 : (((2 ^ i : Nat) : Int) % 18446744073709551616).toNat = 2 ^ i := by omega
  rw [e1, IntKind.wrap_i64]
  generalize hX : (h % 18446744073709551616).toNat = X
  have hX2 : (X : Int) = h % 18446744073709551616 := by have := Int.emod_nonneg h (b := 18446744073709551616) (by omega); omega
  -- the wrapped number differs by a multiple of 2^64
  have e2 : ∀ z : Int, ((z + 9223372036854775808) % 18446744073709551616 - 9223372036854775808) % ((2 ^ i : Nat) : Int) = z % ((2 ^ i : Nat) : Int) := by
    intro z
    obtain ⟨q, hq⟩ : ∃ q : Int, (z + 9223372036854775808) % 18446744073709551616 - 9223372036854775808 = z + 18446744073709551616 * q := ⟨-((z + 9223372036854775808) / 18446744073709551616), by omega⟩
    rw [hq]
    obtain ⟨m, hm⟩ := hd64
    rw [hm, Int.mul_assoc, Int.add_mul_emod_self_left]
  rw [e2, ← Int.natCast_emod, Nat.xor_mod_two_pow, Nat.mod_self, Nat.xor_zero, Int.natCast_emod, hX2]
  exact Int.emod_emod_of_dvd _ hd64

theorem cap_double {c : Int} (h : cap c = true) (h5 : c < 512) : cap (2 * c) = true := by
  have := cap_iff.1 h
  rw [cap_iff]; unfold Cap at this ⊢; omega

def heads (c : Int) : Int := if c = 0 then 4 else if cap c = true ∧ c < 512 then 2 * c else 0
def grows (n c : Int) : Bool := decide (c = 0 ∨ (cap c = true ∧ c < 512 ∧ n ≥ 2 * c))

theorem two_mod {h c : Int} (hc : cap c = true) : h % (2 * c) = h % c ∨ h % (2 * c) = h % c + c := by
  have hb := cap_bd hc
  have e1 : 0 ≤ h % (2 * c) := Int.emod_nonneg _ (by omega)
  have e2 : h % (2 * c) < 2 * c := Int.emod_lt_of_pos _ (by omega)
  have e3 : h % (2 * c) % c = h % c := Int.emod_emod_of_dvd _ ⟨2, by omega⟩
  by_cases hlt : h % (2 * c) < c
  · left; rw [← e3, Int.emod_eq_of_lt e1 hlt]
  · right
    have : (h % (2 * c) - c) % c = h % c := by rw [← e3, ← Int.emod_emod_of_dvd (h % (2 * c) - c) (Int.dvd_refl c), Int.sub_emod_right, Int.emod_emod]
    rw [Int.emod_eq_of_lt (by omega) (by omega)] at this
    omega

end Go.Proofs.Ytmnhhcjonephkaa.Hh
