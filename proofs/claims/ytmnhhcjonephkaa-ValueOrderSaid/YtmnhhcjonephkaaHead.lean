/- Plain arithmetic of object headers (no Go in it): the words that header.Make and its reference come to, what is read of them, that unlike ones are unlike, that a turned bit is found. No conditions beyond those in each lemma. -/
import Derived.Laws.BitsAllLaws
import Derived.Laws.Bits64
import Derived.Laws.BitsLemmas
import Derived.RowKit
namespace Go.Proofs.Ytmnhhcjonephkaa.Hd
open Go.RowKit

def Fits (a : Int) : Prop := -9223372036854775808 ≤ a ∧ a ≤ 9223372036854775807

theorem fits_of_wf {a : Int} (h : (Lit.int .i64 a).wf = true) : Fits a := by
  simp only [Lit.wf, IntKind.min, IntKind.max, IntKind.signed, IntKind.bits, Bool.and_eq_true, decide_eq_true_eq, if_true] at h
  unfold Fits; omega

theorem wrap_id {a : Int} (h : Fits a) : wrap64 a = a := by unfold Fits at h; unfold wrap64; omega

theorem fits_wrap (a : Int) : Fits (wrap64 a) := by unfold Fits wrap64; omega

/-! ### Bits -/
theorem ofInt_mod (x : Int) : (BitVec.ofInt 64 x).toNat = (x % 18446744073709551616).toNat := by
  rw [BitVec.toNat_ofInt]; rfl

theorem and_mask (i : Nat) (hi : i < 63) (x m : Int) (hm : m = ((2 ^ i - 1 : Nat) : Int)) : bits .and .i64 x m = x % ((2 ^ i : Nat) : Int) := by
  subst hm
  have hp : 2 ^ i ≤ 2 ^ 62 := Nat.pow_le_pow_right (by omega) (by omega)
  have hp0 : 0 < 2 ^ i := Nat.two_pow_pos i
  have hd : 2 ^ i ∣ 2 ^ 64 := Nat.pow_dvd_pow 2 (by omega)
  simp only [bits, BitVec.toNat_and]
  show IntKind.i64.wrap (((BitVec.ofInt 64 x).toNat &&& (BitVec.ofInt 64 ((2 ^ i - 1 : Nat) : Int)).toNat : Nat) : Int) = _
  rw [ofInt_mod, ofInt_mod]
  have e : (((2 ^ i - 1 : Nat) : Int) % 18446744073709551616).toNat = 2 ^ i - 1 := by omega
  rw [e, Nat.and_two_pow_sub_one_eq_mod, IntKind.wrap_i64]
  have h0 : 0 ≤ x % 18446744073709551616 := Int.emod_nonneg _ (by omega)
  have e2 : (((x % 18446744073709551616).toNat % 2 ^ i : Nat) : Int) = x % ((2 ^ i : Nat) : Int) := by
    rw [Int.natCast_emod, Int.toNat_of_nonneg h0]
    apply Int.emod_emod_of_dvd
    have : ((2 ^ i : Nat) : Int) ∣ ((2 ^ 64 : Nat) : Int) := Int.natCast_dvd_natCast.2 hd
    exact this
  rw [e2]
  have h1 : 0 ≤ x % ((2 ^ i : Nat) : Int) := Int.emod_nonneg _ (by omega)
  have h2 : x % ((2 ^ i : Nat) : Int) < ((2 ^ i : Nat) : Int) := Int.emod_lt_of_pos _ (by omega)
  omega

theorem and31 (x : Int) : bits .and .i64 x 31 = x % 32 := and_mask 5 (by omega) x 31 rfl
theorem and2047 (x : Int) : bits .and .i64 x 2047 = x % 2048 := and_mask 11 (by omega) x 2047 rfl
theorem and7 (x : Int) : bits .and .i64 x 7 = x % 8 := and_mask 3 (by omega) x 7 rfl
theorem and63 (x : Int) : bits .and .i64 x 63 = x % 64 := and_mask 6 (by omega) x 63 rfl

theorem or_join (i : Nat) (x y : Int) (hx0 : 0 ≤ x) (hx1 : x < 18446744073709551616) (hx : x % ((2 ^ i : Nat) : Int) = 0) (hy0 : 0 ≤ y) (hy1 : y < ((2 ^ i : Nat) : Int)) (hi : i ≤ 64) :
    bits .or .u64 x y = x + y := by
  have hp : 2 ^ i ≤ 2 ^ 64 := Nat.pow_le_pow_right (by omega) hi
  rw [u64_or x y hx0 hx1 hy0 (by omega), nat_join i _ _ ?_ (by omega)]
  · omega
  · have : ((x.toNat % 2 ^ i : Nat) : Int) = 0 := by rw [Int.natCast_emod, Int.toNat_of_nonneg hx0]; exact hx
    omega

theorem and_mask44 (x : Int) (h0 : 0 ≤ x) (h1 : x < 18446744073709551616) : bits .and .u64 x 17592186044415 = x % 17592186044416 := by
  rw [u64_and x 17592186044415 h0 h1 (by omega) (by omega)]
  have : (17592186044415 : Int).toNat = 2 ^ 44 - 1 := rfl
  rw [this, Nat.and_two_pow_sub_one_eq_mod]
  have : (2 : Nat) ^ 44 = 17592186044416 := rfl
  omega

/-! ### Headers as numbers -/
def good (a k s : Int) : Bool := decide (0 ≤ a ∧ a ≤ 262143 ∧ 1 ≤ k ∧ k ≤ 31 ∧ 1 ≤ s ∧ s ≤ 1024)
def num (a k s : Int) : Int := a * 65536 + k * 2048 + s
def sg (x : Int) : Int := x * 10872568911861 % 17592186044416
def mk (a k s : Int) : Int := if good a k s then (k + s * 32 + sg (num a k s) * 65536) * 8 + 5 else 0

theorem good_iff {a k s : Int} : good a k s = true ↔ 0 ≤ a ∧ a ≤ 262143 ∧ 1 ≤ k ∧ k ≤ 31 ∧ 1 ≤ s ∧ s ≤ 1024 := by
  unfold good; exact decide_eq_true_iff

theorem sg_bd (x : Int) : 0 ≤ sg x ∧ sg x < 17592186044416 := by unfold sg; omega


theorem sg_inj {x y : Int} (hx : 0 ≤ x) (hx1 : x < 17592186044416) (hy : 0 ≤ y) (hy1 : y < 17592186044416) (h : sg x = sg y) : x = y := by
  have key : ∀ z : Int, 0 ≤ z → z < 17592186044416 → (z * 10872568911861 % 17592186044416) * 1693535116381 % 17592186044416 = z := by
    intro z h0 h1
    have e1 : (z * 10872568911861 % 17592186044416) * 1693535116381 % 17592186044416 = z * 10872568911861 * 1693535116381 % 17592186044416 := by
      rw [Int.mul_emod (z * 10872568911861 % 17592186044416), Int.emod_emod, ← Int.mul_emod]
    have e2 : z * 10872568911861 * 1693535116381 = z + 17592186044416 * (z * 1046662263065) := by omega
    rw [e1, e2, Int.add_mul_emod_self_left]
    exact Int.emod_eq_of_lt h0 h1
  have h1 := key x hx hx1
  have h2 := key y hy hy1
  unfold sg at h
  rw [h] at h1; exact h1.symm.trans h2

theorem num_bd {a k s : Int} (h : good a k s = true) : 0 ≤ num a k s ∧ num a k s < 17592186044416 := by
  have := good_iff.1 h; unfold num; omega

theorem mk_pos {a k s : Int} (h : good a k s = true) : 0 < mk a k s ∧ mk a k s < 9223372036854775808 := by
  have hb := sg_bd (num a k s)
  have := good_iff.1 h
  unfold mk; rw [if_pos h]; omega

theorem mk_bad {a k s : Int} (h : good a k s = false) : mk a k s = 0 := by unfold mk; rw [h]; rfl

theorem mk_fits (a k s : Int) : Fits (mk a k s) := by
  by_cases h : good a k s = true
  · have := mk_pos h; unfold Fits; omega
  · rw [mk_bad (by simpa using h)]; unfold Fits; omega

theorem mk_parts {a k s : Int} (h : good a k s = true) : mk a k s % 8 = 5 ∧ mk a k s / 8 % 32 = k ∧ mk a k s / 256 % 2048 = s ∧ mk a k s / 524288 = sg (num a k s) := by
  have hb := sg_bd (num a k s)
  have := good_iff.1 h
  unfold mk; rw [if_pos h]; omega

/-- What is read of a word at a place. -/
def rd (a w : Int) : Int × Int × Bool :=
  if w ≠ 0 ∧ mk a (w / 8 % 32) (w / 256 % 2048) = w then (w / 8 % 32, w / 256 % 2048, true) else (0, 0, false)

theorem rd_ok {a w : Int} : (rd a w).2.2 = true ↔ w ≠ 0 ∧ mk a (w / 8 % 32) (w / 256 % 2048) = w := by
  unfold rd; split <;> simp [*]

theorem rd_mk {a k s : Int} (h : good a k s = true) : rd a (mk a k s) = (k, s, true) := by
  obtain ⟨_, h2, h3, _⟩ := mk_parts h
  have := mk_pos h
  unfold rd
  rw [h2, h3, if_pos ⟨by omega, rfl⟩]

/-- A word is a header at one place alone, and of one kind and size. -/
theorem mk_inj {a k s a' k' s' : Int} (h : good a k s = true) (e : mk a' k' s' = mk a k s) : a' = a ∧ k' = k ∧ s' = s := by
  have h' : good a' k' s' = true := by
    cases c : good a' k' s' with
    | true => rfl
    | false => have := mk_pos h; rw [mk_bad c] at e; omega
  obtain ⟨_, p2, p3, p4⟩ := mk_parts h
  obtain ⟨_, q2, q3, q4⟩ := mk_parts h'
  rw [e] at q2 q3 q4
  obtain ⟨n1, n2⟩ := num_bd h
  obtain ⟨n3, n4⟩ := num_bd h'
  have := sg_inj n3 n4 n1 n2 (by omega)
  unfold num at this
  omega

theorem rd_other {a k s o : Int} (h : good a k s = true) : (rd o (mk a k s)).2.2 = (o == a) := by
  rw [Bool.eq_iff_iff, rd_ok]
  constructor
  · rintro ⟨_, h2⟩
    have := mk_inj h h2
    simpa using this.1
  · intro h2
    have : o = a := by simpa using h2
    subst this
    rw [← rd_ok, rd_mk h]

/-! ### The printed texts come to these numbers -/
theorem make_go (a0 a1 a2 : Int) :
    (if a0 < 0 then (some 0) else (if a0 ≥ 262144 then (some 0) else (if a1 < 1 then (some 0) else (if a1 > 31 then (some 0) else (if a2 < 1 then (some 0) else (if a2 > 1024 then (some 0) else (some (wrap64 (Go.bits .or .u64 (IntKind.u64.wrap ((Go.bits .or .u64 (Go.bits .or .u64 (IntKind.u64.wrap ((Go.bits .and .u64 (IntKind.u64.wrap ((IntKind.u64.wrap ((Go.bits .or .u64 (IntKind.u64.wrap ((IntKind.u64.wrap (a0)) * 65536)) (IntKind.u64.wrap ((IntKind.u64.wrap (a1)) * 2048))) + (IntKind.u64.wrap (a2)))) * 10872568911861)) 17592186044415) * 65536)) (IntKind.u64.wrap ((IntKind.u64.wrap (a2)) * 32))) (IntKind.u64.wrap (a1))) * 8)) 5)))))))) : Option Int) = some (mk a0 a1 a2) := by
  by_cases h : good a0 a1 a2 = true
  · have hg := good_iff.1 h
    have hb := sg_bd (num a0 a1 a2)
    rw [if_neg (by omega), if_neg (by omega), if_neg (by omega), if_neg (by omega), if_neg (by omega), if_neg (by omega)]
    simp only [IntKind.wrap_u64]
    have e0 : a0 % 18446744073709551616 = a0 := by omega
    have e1 : a1 % 18446744073709551616 = a1 := by omega
    have e2 : a2 % 18446744073709551616 = a2 := by omega
    rw [e0, e1, e2]
    have e3 : a0 * 65536 % 18446744073709551616 = a0 * 65536 := by omega
    have e4 : a1 * 2048 % 18446744073709551616 = a1 * 2048 := by omega
    have e5 : a2 * 32 % 18446744073709551616 = a2 * 32 := by omega
    rw [e3, e4, e5, or_join 16 (a0 * 65536) (a1 * 2048) (by omega) (by omega) (by simp only [Nat.reducePow]; omega) (by omega) (by simp only [Nat.reducePow]; omega) (by omega)]
    have e6 : (a0 * 65536 + a1 * 2048 + a2) % 18446744073709551616 = num a0 a1 a2 := by unfold num; omega
    rw [e6, and_mask44 _ (by omega) (by omega)]
    have e7 : num a0 a1 a2 * 10872568911861 % 18446744073709551616 % 17592186044416 = sg (num a0 a1 a2) := by unfold sg; omega
    rw [e7]
    have e10 : mk a0 a1 a2 = (sg (num a0 a1 a2) * 65536 + a2 * 32 + a1) * 8 + 5 := by unfold mk; rw [if_pos h]; omega
    generalize sg (num a0 a1 a2) = g at *
    have e8 : g * 65536 % 18446744073709551616 = g * 65536 := by omega
    rw [e8, or_join 16 (g * 65536) (a2 * 32) (by omega) (by omega) (by simp only [Nat.reducePow]; omega) (by omega) (by simp only [Nat.reducePow]; omega) (by omega)]
    rw [or_join 5 (g * 65536 + a2 * 32) a1 (by omega) (by omega) (by simp only [Nat.reducePow]; omega) (by omega) (by simp only [Nat.reducePow]; omega) (by omega)]
    have e9 : (g * 65536 + a2 * 32 + a1) * 8 % 18446744073709551616 = (g * 65536 + a2 * 32 + a1) * 8 := by omega
    rw [e9, or_join 3 _ 5 (by omega) (by omega) (by simp only [Nat.reducePow]; omega) (by omega) (by simp only [Nat.reducePow]; omega) (by omega)]
    rw [e10, wrap_id]
    unfold Fits; omega
  · have hg : ¬ (0 ≤ a0 ∧ a0 ≤ 262143 ∧ 1 ≤ a1 ∧ a1 ≤ 31 ∧ 1 ≤ a2 ∧ a2 ≤ 1024) := fun c => h (good_iff.2 c)
    rw [mk_bad (by simpa using h)]
    repeat' split
    all_goals first | (exfalso; omega) | rfl

theorem good_go (a0 a1 a2 : Int) : (if a0 ≥ 0 then (if a0 ≤ 262143 then (if a1 ≥ 1 then (if a1 ≤ 31 then (if a2 ≥ 1 then (some (decide (a2 ≤ 1024))) else (some false)) else (some false)) else (some false)) else (some false)) else (some false) : Option Bool) = some (good a0 a1 a2) := by
  repeat' split
  all_goals (congr 1; rw [Bool.eq_iff_iff, good_iff]; simp only [decide_eq_true_eq, Bool.false_eq_true, false_iff]; omega)

/-- The loop of the reference's sign, in whatever namespace it was printed. -/
theorem sign_go (g : Nat → Int → Int → Int → Option Int)
    (hg : ∀ k x0 x3 x4, g (k + 1) x0 x3 x4 = (if x0 > 0 then (if (Int.tmod x0 2) = 1 then (g k (wrap64 (Int.tdiv x0 2)) (Int.tmod (wrap64 (x3 + x4)) 17592186044416) (Int.tmod (wrap64 (x4 + x4)) 17592186044416)) else (g k (wrap64 (Int.tdiv x0 2)) x3 (Int.tmod (wrap64 (x4 + x4)) 17592186044416))) else (some x3)))
    (j : Nat) : ∀ (k : Nat) (x s d : Int), j < k → 0 ≤ x → x < ((2 ^ j : Nat) : Int) → x < 9223372036854775808 → 0 ≤ s → s < 17592186044416 → 0 ≤ d → d < 17592186044416 →
      g k x s d = some ((s + x * d) % 17592186044416) := by
  induction j with
  | zero =>
    intro k x s d hk h0 h1 _ s0 s1 _ _
    obtain ⟨k, rfl⟩ : ∃ m, k = m + 1 := ⟨k - 1, by omega⟩
    obtain rfl : x = 0 := by simp at h1; omega
    rw [hg, if_neg (by omega)]; congr 1; omega
  | succ j ih =>
    intro k x s d hk h0 h1 h2 s0 s1 d0 d1
    obtain ⟨k, rfl⟩ : ∃ m, k = m + 1 := ⟨k - 1, by omega⟩
    by_cases hx : x > 0
    · have hp : ((2 ^ (j + 1) : Nat) : Int) = 2 * ((2 ^ j : Nat) : Int) := by rw [Nat.pow_succ]; omega
      rw [hg, if_pos hx]
      have t1 : Int.tdiv x 2 = x / 2 := Int.tdiv_eq_ediv_of_nonneg h0
      have t2 : Int.tmod x 2 = x % 2 := Int.tmod_eq_emod_of_nonneg h0
      have t3 : Int.tmod (wrap64 (d + d)) 17592186044416 = (d + d) % 17592186044416 := by
        rw [wrap_id (by unfold Fits; omega)]; exact Int.tmod_eq_emod_of_nonneg (by omega)
      have t4 : Int.tmod (wrap64 (s + d)) 17592186044416 = (s + d) % 17592186044416 := by
        rw [wrap_id (by unfold Fits; omega)]; exact Int.tmod_eq_emod_of_nonneg (by omega)
      rw [t1, t2, t3, t4, wrap_id (by unfold Fits; omega)]
      have key : ∀ z : Int, (z + x / 2 * ((d + d) % 17592186044416)) % 17592186044416 = (z + x / 2 * (d + d)) % 17592186044416 := by
        intro z
        rw [Int.add_emod z (x / 2 * (d + d)), Int.mul_emod (x / 2) (d + d), Int.add_emod z, Int.mul_emod (x / 2) ((d + d) % 17592186044416), Int.emod_emod]
      have e2 : x / 2 * (d + d) = (2 * (x / 2)) * d := by rw [Int.mul_comm 2, Int.mul_assoc, Int.two_mul]
      split
      · rw [ih k (x / 2) _ _ (by omega) (by omega) (by omega) (by omega) (by omega) (by omega) (by omega) (by omega)]
        congr 1
        rw [key, e2, Int.emod_add_emod]
        have : x * d = 2 * (x / 2) * d + d := by
          have : x = 2 * (x / 2) + 1 := by omega
          conv => lhs; rw [this, Int.add_mul, Int.one_mul]
        rw [this]; congr 1; omega
      · rw [ih k (x / 2) _ _ (by omega) (by omega) (by omega) (by omega) (by omega) (by omega) (by omega) (by omega)]
        congr 1
        rw [key, e2]
        have : 2 * (x / 2) = x := by omega
        rw [this]
    · obtain rfl : x = 0 := by omega
      rw [hg, if_neg (by omega)]; congr 1; omega

theorem sign_of (g : Nat → Int → Int → Int → Option Int)
    (hg : ∀ k x0 x3 x4, g (k + 1) x0 x3 x4 = (if x0 > 0 then (if (Int.tmod x0 2) = 1 then (g k (wrap64 (Int.tdiv x0 2)) (Int.tmod (wrap64 (x3 + x4)) 17592186044416) (Int.tmod (wrap64 (x4 + x4)) 17592186044416)) else (g k (wrap64 (Int.tdiv x0 2)) x3 (Int.tmod (wrap64 (x4 + x4)) 17592186044416))) else (some x3)))
    (k : Nat) (x : Int) (hk : 64 ≤ k) (h0 : 0 ≤ x) (h1 : x < 9223372036854775808) : g k x 0 10872568911861 = some (sg x) := by
  rw [sign_go g hg 63 k x 0 10872568911861 (by omega) h0 (by simp only [Nat.reducePow]; omega) h1 (by omega) (by omega) (by omega) (by omega)]
  unfold sg; congr 1; omega

/-- The reference's header of good numbers. -/
theorem rmake_arith {a k s : Int} (h : good a k s = true) :
    wrap64 ((wrap64 ((wrap64 (a * 65536)) + (wrap64 (k * 2048)))) + s) = num a k s ∧
    wrap64 ((wrap64 ((wrap64 ((wrap64 (k + (wrap64 (s * 32)))) + (wrap64 (sg (num a k s) * 65536)))) * 8)) + 5) = mk a k s := by
  have hg := good_iff.1 h
  have hb := sg_bd (num a k s)
  constructor
  · unfold num wrap64; omega
  · unfold mk; rw [if_pos h]
    generalize sg (num a k s) = g at *
    unfold wrap64; omega

theorem read_go (a w : Int) : (if w = 0 then (some (0, 0, false)) else (if mk a (w / 8 % 32) (w / 256 % 2048) = w then (some (w / 8 % 32, w / 256 % 2048, true)) else (some (0, 0, false))) : Option (Int × Int × Bool)) = some (rd a w) := by
  unfold rd
  by_cases h : w = 0
  · rw [if_pos h, if_neg (by simp [h])]
  · rw [if_neg h]
    by_cases h2 : mk a (w / 8 % 32) (w / 256 % 2048) = w
    · rw [if_pos h2, if_pos ⟨h, h2⟩]
    · rw [if_neg h2, if_neg (fun c => h2 c.2)]

theorem rd_none_of {a w : Int} (h : w < 0 ∨ w % 8 ≠ 5) : rd a w = (0, 0, false) := by
  unfold rd; rw [if_neg]
  rintro ⟨h1, h2⟩
  cases c : good a (w / 8 % 32) (w / 256 % 2048) with
  | true => have := mk_pos c; have := (mk_parts c).1; rw [h2] at this; omega
  | false => rw [mk_bad c] at h2; omega

theorem rd_none_of_bad {a w : Int} (h : good a (w / 8 % 32) (w / 256 % 2048) = false) : rd a w = (0, 0, false) := by
  unfold rd; rw [if_neg]
  rintro ⟨h1, h2⟩
  rw [mk_bad h] at h2; omega

/-- The reference's parts of a word from 0 on. -/
theorem rparts {w : Int} (h : 0 ≤ w) (hf : Fits w) : Int.tmod w 8 = w % 8 ∧ wrap64 (Int.tdiv w 8) = w / 8 ∧ Int.tmod (wrap64 (Int.tdiv w 8)) 32 = w / 8 % 32 ∧ Int.tmod (wrap64 (Int.tdiv (wrap64 (Int.tdiv w 8)) 32)) 2048 = w / 256 % 2048 := by
  unfold Fits at hf
  have e1 : Int.tdiv w 8 = w / 8 := Int.tdiv_eq_ediv_of_nonneg h
  have e2 : wrap64 (w / 8) = w / 8 := wrap_id (by unfold Fits; omega)
  have e3 : Int.tdiv (w / 8) 32 = w / 8 / 32 := Int.tdiv_eq_ediv_of_nonneg (by omega)
  have e4 : wrap64 (w / 8 / 32) = w / 256 := by rw [wrap_id (by unfold Fits; omega)]; omega
  rw [e1, e2, e3, e4]
  exact ⟨Int.tmod_eq_emod_of_nonneg h, rfl, Int.tmod_eq_emod_of_nonneg (by omega), Int.tmod_eq_emod_of_nonneg (by omega)⟩

/-! ### A turned bit -/
/-- Two headers at one place that are alike in all but one field are one. -/
theorem rd_unlike {a w w' : Int} (h : (rd a w).2.2 = true) (h' : (rd a w').2.2 = true) (hw : w / 524288 = w' / 524288 ∨ (w / 8 % 32 = w' / 8 % 32 ∧ w / 256 % 2048 = w' / 256 % 2048)) : w = w' := by
  obtain ⟨h0, h1⟩ := rd_ok.1 h
  obtain ⟨h0', h1'⟩ := rd_ok.1 h'
  rcases hw with e | ⟨e1, e2⟩
  · have g : good a (w / 8 % 32) (w / 256 % 2048) = true := by
      cases c : good a (w / 8 % 32) (w / 256 % 2048) with
      | true => rfl
      | false => rw [mk_bad c] at h1; omega
    have g' : good a (w' / 8 % 32) (w' / 256 % 2048) = true := by
      cases c : good a (w' / 8 % 32) (w' / 256 % 2048) with
      | true => rfl
      | false => rw [mk_bad c] at h1'; omega
    have p := (mk_parts g).2.2.2
    have p' := (mk_parts g').2.2.2
    rw [h1] at p
    rw [h1'] at p'
    obtain ⟨n1, n2⟩ := num_bd g
    obtain ⟨n3, n4⟩ := num_bd g'
    have := sg_inj n1 n2 n3 n4 (by omega)
    have gi := good_iff.1 g
    have gi' := good_iff.1 g'
    unfold num at this
    have e1 : w / 8 % 32 = w' / 8 % 32 := by omega
    have e2 : w / 256 % 2048 = w' / 256 % 2048 := by omega
    rw [← h1, ← h1', e1, e2]
  · rw [← h1, ← h1', e1, e2]

theorem xor_i64 (a b : Int) : bits .xor .i64 a b = IntKind.i64.wrap ((((a % 18446744073709551616).toNat ^^^ (b % 18446744073709551616).toNat : Nat) : Int)) := by
  simp only [bits, BitVec.toNat_xor]
  show IntKind.i64.wrap (((BitVec.ofInt 64 a).toNat ^^^ (BitVec.ofInt 64 b).toNat : Nat) : Int) = _
  rw [ofInt_mod, ofInt_mod]

theorem turned {a w b : Int} (hb0 : 0 ≤ b) (hb : b < 64) (h0 : 0 ≤ w) (hw : w < 9223372036854775808) (h : (rd a w).2.2 = true) :
    (rd a (bits .xor .i64 w (IntKind.i64.wrap (1 * 2 ^ min b.toNat 64)))).2.2 = false := by
  obtain ⟨n, rfl⟩ := Int.eq_ofNat_of_zero_le hb0
  obtain ⟨x, rfl⟩ := Int.eq_ofNat_of_zero_le h0
  rw [xor_i64, Int.toNat_natCast, Nat.min_eq_left (by omega), Int.one_mul]
  have ex : ((x : Int) % 18446744073709551616).toNat = x := by omega
  rw [ex]
  by_cases hn : n = 63
  · subst hn
    have e1 : (IntKind.i64.wrap ((2 : Int) ^ 63) % 18446744073709551616).toNat = 2 ^ 63 := by
      rw [IntKind.wrap_i64]; rfl
    rw [e1]
    have e2 : x ^^^ 2 ^ 63 = x + 2 ^ 63 := by
      have h2 := Nat.two_pow_add_eq_or_of_lt (i := 63) (b := x) (by omega) 1
      have h3 : 2 ^ 63 * 1 ||| x = 2 ^ 63 * 1 ^^^ x := by
        apply Nat.eq_of_testBit_eq
        intro i
        rw [Nat.testBit_or, Nat.testBit_xor, Nat.mul_one, Nat.testBit_two_pow]
        by_cases c : 63 = i
        · subst c
          rw [Nat.testBit_lt_two_pow (by omega)]; rfl
        · simp [c]
      rw [Nat.mul_one] at h2 h3
      rw [Nat.xor_comm, ← h3, ← h2]; omega
    rw [e2, rd_none_of]
    left
    rw [IntKind.wrap_i64]; omega
  · have hp : 2 ^ n ≤ 2 ^ 62 := Nat.pow_le_pow_right (by omega) (by omega)
    have hc : ((2 : Int) ^ n) = ((2 ^ n : Nat) : Int) := by simp
    have e1 : (IntKind.i64.wrap ((2 : Int) ^ n) % 18446744073709551616).toNat = 2 ^ n := by
      have := Nat.two_pow_pos n
      rw [hc, IntKind.wrap_i64]; omega
    rw [e1]
    have hlt : x ^^^ 2 ^ n < 2 ^ 63 := Nat.xor_lt_two_pow (by omega) (by omega)
    have e3 : IntKind.i64.wrap (((x ^^^ 2 ^ n : Nat) : Int)) = ((x ^^^ 2 ^ n : Nat) : Int) := by
      rw [IntKind.wrap_i64]; omega
    rw [e3]
    cases c : (rd a ((x ^^^ 2 ^ n : Nat) : Int)).2.2 with
    | false => rfl
    | true =>
      exfalso
      have hne : (x : Int) ≠ ((x ^^^ 2 ^ n : Nat) : Int) := by
        intro e
        have e : x = x ^^^ 2 ^ n := by omega
        have e5 : x ^^^ x = x ^^^ (x ^^^ 2 ^ n) := by rw [← e]
        rw [← Nat.xor_assoc, Nat.xor_self, Nat.zero_xor] at e5
        have := Nat.two_pow_pos n
        omega
      apply hne
      refine rd_unlike h c ?_
      by_cases c19 : n < 19
      · left
        have : (x ^^^ 2 ^ n) / 2 ^ 19 = x / 2 ^ 19 := by
          rw [← Nat.shiftRight_eq_div_pow, Nat.shiftRight_xor_distrib, Nat.shiftRight_eq_div_pow, Nat.shiftRight_eq_div_pow]
          have hq : 2 ^ n < 2 ^ 19 := Nat.pow_lt_pow_right (by omega) c19
          rw [Nat.div_eq_of_lt hq, Nat.xor_zero]
        omega
      · right
        have : (x ^^^ 2 ^ n) % 2 ^ 19 = x % 2 ^ 19 := by
          rw [Nat.xor_mod_two_pow]
          have hq : 2 ^ 19 ∣ 2 ^ n := Nat.pow_dvd_pow 2 (by omega)
          rw [Nat.mod_eq_zero_of_dvd hq, Nat.xor_zero]
        omega

end Go.Proofs.Ytmnhhcjonephkaa.Hd
