/- Floats as rungs and what is nearest to a number (plain arithmetic, no Go in it). No conditions beyond those in each lemma. -/
import Ieee.Arith
import Derived.Laws.FloatBits
namespace Hf

/-- The value of a rung, times 2^1074 (infinity's: as if the binades went on). -/
def V (r : Nat) : Nat :=
  if r < 4503599627370496 then r else (4503599627370496 + r % 4503599627370496) * 2 ^ (r / 4503599627370496 - 1)

def INF : Nat := 9218868437227405312

theorem V_small {r : Nat} (h : r < 4503599627370496) : V r = r := by unfold V; rw [if_pos h]

theorem V_big {r e f : Nat} (hf : f < 4503599627370496) (h : r = (e + 1) * 4503599627370496 + f) :
    V r = (4503599627370496 + f) * 2 ^ e := by
  unfold V
  rw [if_neg (by omega), show r % 4503599627370496 = f by omega, show r / 4503599627370496 - 1 = e by omega]

theorem split_rung (r : Nat) (h : ¬ r < 4503599627370496) : ∃ e f, f < 4503599627370496 ∧ r = (e + 1) * 4503599627370496 + f :=
  ⟨r / 4503599627370496 - 1, r % 4503599627370496, by omega, by omega⟩

theorem V_succ (r : Nat) : V (r + 1) = V r + 2 ^ (r / 4503599627370496 - 1) := by
  by_cases h : r + 1 < 4503599627370496
  · rw [V_small h, V_small (by omega), show r / 4503599627370496 - 1 = 0 by omega]
  · by_cases h2 : r + 1 = 4503599627370496
    · rw [V_big (e := 0) (f := 0) (by omega) (by omega), V_small (by omega), show r / 4503599627370496 - 1 = 0 by omega]
      omega
    · obtain ⟨e, f, hf, hr⟩ := split_rung r (by omega)
      rw [V_big hf hr, show r / 4503599627370496 - 1 = e by omega]
      by_cases h3 : f + 1 < 4503599627370496
      · rw [V_big (e := e) (f := f + 1) h3 (by omega)]
        rw [show 4503599627370496 + (f + 1) = (4503599627370496 + f) + 1 by omega, Nat.add_mul, Nat.one_mul]
      · rw [V_big (e := e + 1) (f := 0) (by omega) (by omega), Nat.pow_succ, show f = 4503599627370495 by omega]
        omega

theorem V_lt_succ (r : Nat) : V r < V (r + 1) := by
  rw [V_succ]; have := Nat.two_pow_pos (r / 4503599627370496 - 1); omega

theorem V_mono {a b : Nat} (h : a ≤ b) : V a ≤ V b := by
  induction b with
  | zero => rw [show a = 0 by omega]; exact Nat.le_refl _
  | succ b ih =>
    by_cases e : a = b + 1
    · rw [e]; exact Nat.le_refl _
    · exact Nat.le_trans (ih (by omega)) (Nat.le_of_lt (V_lt_succ b))

theorem V_lt {a b : Nat} (h : a < b) : V a < V b := Nat.lt_of_lt_of_le (V_lt_succ a) (V_mono h)

theorem V_lt_iff {a b : Nat} : V a < V b ↔ a < b := by
  constructor
  · intro h; apply Decidable.byContradiction; intro h2; have := V_mono (a := b) (b := a) (by omega); omega
  · exact V_lt

theorem V_le_iff {a b : Nat} : V a ≤ V b ↔ a ≤ b := by
  have := V_lt_iff (a := b) (b := a); omega

theorem V_inj {a b : Nat} (h : V a = V b) : a = b := by
  have h1 := V_le_iff (a := a) (b := b); have h2 := V_le_iff (a := b) (b := a); omega

theorem V_zero : V 0 = 0 := rfl

/-- The rung r is nearest to the number N / D (in units of 2^-1074), the even one of two. -/
def Near (N D r : Nat) : Prop :=
  r ≤ INF ∧ (r < INF → 2 * N ≤ D * (V r + V (r + 1)) ∧ (2 * N = D * (V r + V (r + 1)) → r % 2 = 0)) ∧
    ∀ q, r = q + 1 → D * (V q + V r) ≤ 2 * N ∧ (2 * N = D * (V q + V r) → r % 2 = 0)

theorem Near.mono {N D r N' D' r' : Nat} (hD : 0 < D) (hD' : 0 < D') (h : Near N D r) (h' : Near N' D' r') (hle : N * D' ≤ N' * D) : r ≤ r' := by
  apply Decidable.byContradiction
  intro hc
  obtain ⟨q, rfl⟩ : ∃ q, r = q + 1 := ⟨r - 1, by omega⟩
  obtain ⟨h1, _, h3⟩ := h
  obtain ⟨h4, h5⟩ := h3 q rfl
  obtain ⟨h6, h7⟩ := h'.2.1 (by omega)
  have m1 : V r' ≤ V q := V_mono (by omega)
  have m2 : V (r' + 1) ≤ V (q + 1) := V_mono (by omega)
  -- D*D' times the two sums
  have e1 : D' * (D * (V q + V (q + 1))) ≤ D' * (2 * N) := Nat.mul_le_mul_left _ h4
  have e2 : D * (2 * N') ≤ D * (D' * (V r' + V (r' + 1))) := Nat.mul_le_mul_left _ h6
  have e3 : D' * (2 * N) ≤ D * (2 * N') := by
    rw [Nat.mul_left_comm, Nat.mul_left_comm D, Nat.mul_comm D', Nat.mul_comm D]; exact Nat.mul_le_mul_left _ hle
  have e4 : D' * (D * (V q + V (q + 1))) ≤ D' * (D * (V r' + V (r' + 1))) := by
    rw [Nat.mul_left_comm D' D (V r' + V (r' + 1))]; exact Nat.le_trans e1 (Nat.le_trans e3 e2)
  have e5 : V q + V (q + 1) ≤ V r' + V (r' + 1) := Nat.le_of_mul_le_mul_left (Nat.le_of_mul_le_mul_left e4 hD') hD
  have e6 : r' = q := V_inj (by omega)
  subst e6
  have e7 : D * (2 * N') = D * (D' * (V r' + V (r' + 1))) := by
    apply Nat.le_antisymm e2
    rw [Nat.mul_left_comm D D']; exact Nat.le_trans e1 e3
  have e8 : 2 * N' = D' * (V r' + V (r' + 1)) := Nat.eq_of_mul_eq_mul_left hD e7
  have e9 : D' * (D * (V r' + V (r' + 1))) = D' * (2 * N) := by
    apply Nat.le_antisymm e1
    rw [Nat.mul_left_comm D' D]; exact Nat.le_trans e3 e2
  have e10 := Nat.eq_of_mul_eq_mul_left hD' e9
  have := h7 e8
  have := h5 e10.symm
  omega

theorem Near.unique {N D r N' D' r' : Nat} (hD : 0 < D) (hD' : 0 < D') (h : Near N D r) (h' : Near N' D' r') (he : N * D' = N' * D) : r = r' :=
  Nat.le_antisymm (h.mono hD hD' h' (Nat.le_of_eq he)) (h'.mono hD' hD h (Nat.le_of_eq he.symm))

/-- What is a rung's value is nearest to that rung. -/
theorem Near.self {r : Nat} (D : Nat) (hD : 0 < D) (h : r ≤ INF) : Near (D * V r) D r := by
  refine ⟨h, fun _ => ?_, fun q hq => ?_⟩
  · have := V_lt_succ r
    have h1 : D * (V r + V r) < D * (V r + V (r + 1)) := Nat.mul_lt_mul_of_pos_left (by omega) hD
    rw [Nat.mul_add] at h1
    exact ⟨by omega, by omega⟩
  · subst hq
    have := V_lt_succ q
    have h1 : D * (V q + V (q + 1)) < D * (V (q + 1) + V (q + 1)) := Nat.mul_lt_mul_of_pos_left (by omega) hD
    rw [Nat.mul_add D (V (q + 1))] at h1
    exact ⟨by omega, by omega⟩

/-- k is A / B made whole, to the nearest, the even one of two. -/
def Rhe (A B k : Nat) : Prop :=
  2 * A ≤ B * (2 * k + 1) ∧ (2 * A = B * (2 * k + 1) → k % 2 = 0) ∧
    B * (2 * k) ≤ 2 * A + B ∧ (B * (2 * k) = 2 * A + B → k % 2 = 0)

theorem V_of {L k : Nat} (h1 : 0 < L → 4503599627370496 ≤ k) (h2 : k ≤ 9007199254740992) :
    V (L * 4503599627370496 + k) = k * 2 ^ L := by
  by_cases h3 : k < 4503599627370496
  · obtain rfl : L = 0 := by omega
    rw [V_small (by omega)]; omega
  · by_cases h4 : k = 9007199254740992
    · subst h4
      rw [V_big (e := L + 1) (f := 0) (by omega) (by omega), Nat.pow_succ]; omega
    · rw [V_big (e := L) (f := k - 4503599627370496) (by omega) (by omega), show 4503599627370496 + (k - 4503599627370496) = k by omega]

theorem V_up {L k : Nat} (h1 : 0 < L → 4503599627370496 ≤ k) (h2 : k ≤ 9007199254740992) :
    k * 2 ^ L + 2 ^ L ≤ V (L * 4503599627370496 + k + 1) ∧ (k < 9007199254740992 → V (L * 4503599627370496 + k + 1) = k * 2 ^ L + 2 ^ L) := by
  rw [V_succ, V_of h1 h2]
  by_cases h4 : k = 9007199254740992
  · subst h4
    refine ⟨Nat.add_le_add_left (Nat.pow_le_pow_right (by omega) (by omega)) _, fun h => by omega⟩
  · have : (L * 4503599627370496 + k) / 4503599627370496 - 1 = L := by
      by_cases h3 : k < 4503599627370496
      · omega
      · omega
    rw [this]
    exact ⟨Nat.le_refl _, fun _ => rfl⟩

/-- A number A / B in units of 2^(L - 1074), made whole, is the nearest rung. -/
theorem near_of_rhe {N D A B L k : Nat} (hB : 0 < B) (hD : 0 < D) (hval : N * B = A * D * 2 ^ L) (hr : Rhe A B k)
    (h1 : 0 < L → 4503599627370496 * B ≤ A) (h2 : A < B * 9007199254740992) : Near N D (min (L * 4503599627370496 + k) INF) := by
  obtain ⟨r1, r2, r3, r4⟩ := hr
  have P := Nat.two_pow_pos L
  have hk2 : k ≤ 9007199254740992 := by
    apply Decidable.byContradiction; intro hc
    have : B * 18014398509481986 ≤ B * (2 * k) := Nat.mul_le_mul_left _ (by omega)
    omega
  have hk1 : 0 < L → 4503599627370496 ≤ k := by
    intro hL
    apply Decidable.byContradiction; intro hc
    have : B * (2 * k + 1) ≤ B * 9007199254740991 := Nat.mul_le_mul_left _ (by omega)
    have := h1 hL
    omega
  have hV := V_of hk1 hk2
  obtain ⟨hu1, hu2⟩ := V_up hk1 hk2
  -- the two sides, times B
  have up : ∀ S, 2 * (k * 2 ^ L) + 2 ^ L ≤ S → 2 * N ≤ D * S ∧ (2 * N = D * S → k % 2 = 0) := by
    intro S hS
    have e0 : 2 * k * 2 ^ L + 2 ^ L = (2 * k + 1) * 2 ^ L := by rw [Nat.add_mul, Nat.one_mul]
    have e1 : B * (2 * N) ≤ B * (D * ((2 * k + 1) * 2 ^ L)) := by
      have : B * (2 * N) = D * 2 ^ L * (2 * A) := by
        rw [Nat.mul_left_comm, Nat.mul_comm B N, hval]
        simp only [Nat.mul_comm, Nat.mul_left_comm, Nat.mul_assoc]
      rw [this]
      have : B * (D * ((2 * k + 1) * 2 ^ L)) = D * 2 ^ L * (B * (2 * k + 1)) := by
        simp only [Nat.mul_comm, Nat.mul_left_comm, Nat.mul_assoc]
      rw [this]
      exact Nat.mul_le_mul_left _ r1
    have e2 : 2 * N ≤ D * ((2 * k + 1) * 2 ^ L) := Nat.le_of_mul_le_mul_left e1 hB
    have e3 : D * ((2 * k + 1) * 2 ^ L) ≤ D * S := Nat.mul_le_mul_left _ (by rw [← e0]; rw [Nat.mul_assoc]; exact hS)
    refine ⟨Nat.le_trans e2 e3, fun he => r2 ?_⟩
    have e4 : 2 * N = D * ((2 * k + 1) * 2 ^ L) := Nat.le_antisymm e2 (by rw [he]; exact e3)
    have e5 : D * 2 ^ L * (2 * A) = D * 2 ^ L * (B * (2 * k + 1)) := by
      have h3 : B * (2 * N) = B * (D * ((2 * k + 1) * 2 ^ L)) := by rw [e4]
      have h4 : B * (2 * N) = D * 2 ^ L * (2 * A) := by
        rw [Nat.mul_left_comm, Nat.mul_comm B N, hval]
        simp only [Nat.mul_comm, Nat.mul_left_comm, Nat.mul_assoc]
      rw [← h4, h3]
      simp only [Nat.mul_comm, Nat.mul_left_comm, Nat.mul_assoc]
    exact Nat.eq_of_mul_eq_mul_left (Nat.mul_pos hD P) e5
  have down : ∀ S, S + 2 ^ L ≤ 2 * (k * 2 ^ L) → D * S ≤ 2 * N ∧ (2 * N = D * S → k % 2 = 0) := by
    intro S hS
    have e0 : B * (2 * N) = D * 2 ^ L * (2 * A) := by
      rw [Nat.mul_left_comm, Nat.mul_comm B N, hval]
      simp only [Nat.mul_comm, Nat.mul_left_comm, Nat.mul_assoc]
    have e1 : D * 2 ^ L * (B * (2 * k)) ≤ D * 2 ^ L * (2 * A + B) := Nat.mul_le_mul_left _ r3
    have e2 : D * 2 ^ L * (B * (2 * k)) = B * (D * (2 * (k * 2 ^ L))) := by
      simp only [Nat.mul_comm, Nat.mul_left_comm, Nat.mul_assoc]
    have e3 : D * 2 ^ L * (2 * A + B) = B * (2 * N + D * 2 ^ L) := by
      rw [Nat.mul_add, ← e0, Nat.mul_add, Nat.mul_comm B (D * 2 ^ L)]
    rw [e2, e3] at e1
    have e4 : D * (2 * (k * 2 ^ L)) ≤ 2 * N + D * 2 ^ L := Nat.le_of_mul_le_mul_left e1 hB
    have e5 : D * (S + 2 ^ L) ≤ D * (2 * (k * 2 ^ L)) := Nat.mul_le_mul_left _ hS
    rw [Nat.mul_add] at e5
    refine ⟨by omega, fun he => r4 ?_⟩
    have e6 : D * (2 * (k * 2 ^ L)) = 2 * N + D * 2 ^ L := by omega
    have e7 : D * 2 ^ L * (B * (2 * k)) = D * 2 ^ L * (2 * A + B) := by rw [e2, e3, e6]
    exact Nat.eq_of_mul_eq_mul_left (Nat.mul_pos hD P) e7
  -- the lower side of the rung itself
  have low : ∀ q, L * 4503599627370496 + k = q + 1 → D * (V q + V (q + 1)) ≤ 2 * N ∧ (2 * N = D * (V q + V (q + 1)) → k % 2 = 0) := by
    intro q hq
    by_cases hs : 0 < L ∧ k = 4503599627370496
    · obtain ⟨hL, rfl⟩ := hs
      have e0 := V_lt_succ q
      have e1 : V (q + 1) = 4503599627370496 * 2 ^ L := by rw [← hq, hV]
      have e2 : D * V (q + 1) ≤ N := by
        have : B * (D * V (q + 1)) ≤ B * N := by
          rw [e1, Nat.mul_comm B N, hval]
          have : B * (D * (4503599627370496 * 2 ^ L)) = 4503599627370496 * B * (D * 2 ^ L) := by
            simp only [Nat.mul_comm, Nat.mul_left_comm, Nat.mul_assoc]
          rw [this, Nat.mul_assoc A]
          exact Nat.mul_le_mul_right _ (h1 hL)
        exact Nat.le_of_mul_le_mul_left this hB
      have e3 : D * (V q + V (q + 1)) < D * (V (q + 1) + V (q + 1)) := Nat.mul_lt_mul_of_pos_left (by omega) hD
      rw [Nat.mul_add D (V (q + 1))] at e3
      exact ⟨by omega, by omega⟩
    · apply down
      have e1 : V (q + 1) = k * 2 ^ L := by rw [← hq, hV]
      obtain ⟨j, rfl⟩ : ∃ j, k = j + 1 := ⟨k - 1, by omega⟩
      have e2 : V q = j * 2 ^ L := by
        have := V_of (L := L) (k := j) (by omega) (by omega)
        rw [← this, show q = L * 4503599627370496 + j by omega]
      rw [e1, e2, Nat.add_mul, Nat.one_mul]; omega
  by_cases hI : L * 4503599627370496 + k ≤ INF
  · rw [Nat.min_eq_left hI]
    have hpar : (L * 4503599627370496 + k) % 2 = k % 2 := by omega
    refine ⟨hI, fun _ => ?_, fun q hq => ?_⟩
    · rw [hpar]; apply up; rw [hV]; omega
    · rw [hpar]
      have h5 := low q hq
      rw [← hq] at h5; exact h5
  · rw [Nat.min_eq_right (by omega)]
    refine ⟨Nat.le_refl _, fun h => by omega, fun q hq => ?_⟩
    obtain ⟨p, hp⟩ : ∃ p, L * 4503599627370496 + k = p + 1 := ⟨L * 4503599627370496 + k - 1, by omega⟩
    obtain ⟨h5, _⟩ := low p hp
    have h6 : D * (V q + V INF) ≤ D * (V p + V (p + 1)) :=
      Nat.mul_le_mul_left _ (Nat.add_le_add (V_mono (by omega)) (V_mono (by omega)))
    exact ⟨Nat.le_trans h6 h5, fun _ => rfl⟩

end Hf
