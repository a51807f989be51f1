/- Numbers as rows of bits, the least first (plain arithmetic, no Go in it). No conditions beyond those in each lemma. -/
import Derived.RowKit
namespace Hf
open Go Go.RowKit

/-- A row of bits as a number. -/
def val : List Int → Nat
  | [] => 0
  | x :: xs => x.toNat + 2 * val xs

def Bits (l : List Int) : Prop := ∀ x ∈ l, x = 0 ∨ x = 1

theorem Bits.nil : Bits [] := fun x hx => by simp at hx
theorem Bits.cons {x : Int} {l : List Int} (h : x = 0 ∨ x = 1) (hl : Bits l) : Bits (x :: l) := fun y hy => by
  rcases List.mem_cons.1 hy with rfl | hy
  · exact h
  · exact hl y hy
theorem Bits.tail {x : Int} {l : List Int} (h : Bits (x :: l)) : Bits l := fun y hy => h y (List.mem_cons_of_mem _ hy)
theorem Bits.head {x : Int} {l : List Int} (h : Bits (x :: l)) : x = 0 ∨ x = 1 := h x (List.mem_cons_self ..)
theorem Bits.append {a b : List Int} (ha : Bits a) (hb : Bits b) : Bits (a ++ b) := fun y hy => by
  rcases List.mem_append.1 hy with h | h
  · exact ha y h
  · exact hb y h
theorem Bits.one {x : Int} (h : x = 0 ∨ x = 1) : Bits [x] := Bits.cons h Bits.nil
theorem Bits.rep (n : Nat) : Bits (List.replicate n 0) := fun _ hy => .inl (List.eq_of_mem_replicate hy)

theorem val_rep (n : Nat) : val (List.replicate n 0) = 0 := by
  induction n with
  | zero => rfl
  | succ n ih => rw [List.replicate_succ, val, ih]; rfl

theorem val_append (a b : List Int) : val (a ++ b) = val a + 2 ^ a.length * val b := by
  induction a with
  | nil => simp [val]
  | cons x a ih =>
    rw [List.cons_append, val, val, ih, List.length_cons, Nat.pow_succ, Nat.mul_add, Nat.add_assoc, Nat.mul_comm (2 ^ a.length) 2, Nat.mul_assoc]

theorem val_lt {l : List Int} (h : Bits l) : val l < 2 ^ l.length := by
  induction l with
  | nil => simp [val]
  | cons x l ih =>
    have := ih h.tail
    have h0 := h.head
    rw [val, List.length_cons, Nat.pow_succ]; omega

theorem val_snoc {l : List Int} (x : Int) : val (l ++ [x]) = val l + 2 ^ l.length * x.toNat := by
  rw [val_append]; simp [val]

/-- The bit at a place. -/
theorem val_bit {l : List Int} (h : Bits l) (i : Nat) : l.getD i 0 = ((val l / 2 ^ i % 2 : Nat) : Int) := by
  induction l generalizing i with
  | nil => simp [val]
  | cons x l ih =>
    have h0 := h.head
    cases i with
    | zero =>
      rw [val, Nat.pow_zero, Nat.div_one]
      simp only [List.getD_cons_zero]; omega
    | succ i =>
      rw [List.getD_cons_succ, ih h.tail, val, Nat.pow_succ, Nat.mul_comm (2 ^ i) 2, ← Nat.div_div_eq_div_mul]
      rw [show (x.toNat + 2 * val l) / 2 = val l by omega]

theorem val_set {l : List Int} (i : Nat) (hi : i < l.length) (h0 : l.getD i 0 = 0) : val (l.set i 1) = val l + 2 ^ i := by
  induction l generalizing i with
  | nil => simp at hi
  | cons x l ih =>
    cases i with
    | zero =>
      simp only [List.getD_cons_zero] at h0
      subst h0
      simp [val]; omega
    | succ i =>
      simp only [List.getD_cons_succ] at h0
      simp only [List.set_cons_succ, val]
      rw [ih i (by simpa using hi) h0, Nat.pow_succ]; omega

theorem Bits.set {l : List Int} (h : Bits l) (i : Nat) : Bits (l.set i 1) := fun y hy => by
  rcases List.mem_or_eq_of_mem_set hy with h1 | h1
  · exact h y h1
  · exact .inr h1

theorem log2_eq {n i : Nat} (h0 : 2 ^ i ≤ n) (h1 : n < 2 ^ (i + 1)) : n.log2 = i := by
  have hn : n ≠ 0 := by have := Nat.two_pow_pos i; omega
  have h2 : 2 ^ n.log2 ≤ n := Nat.log2_self_le hn
  have h3 : n < 2 ^ (n.log2 + 1) := Nat.lt_log2_self
  have a : i < n.log2 + 1 := (Nat.pow_lt_pow_iff_right (by omega : 1 < 2)).1 (Nat.lt_of_le_of_lt h0 h3)
  have b : n.log2 < i + 1 := (Nat.pow_lt_pow_iff_right (by omega : 1 < 2)).1 (Nat.lt_of_le_of_lt h2 h1)
  omega

/-- A number moved to the right by i places, or to the left by -i. -/
def sh (n : Nat) (i : Int) : Nat := n / 2 ^ i.toNat * 2 ^ (-i).toNat

theorem sh_nonneg {n : Nat} {i : Int} (h : 0 ≤ i) : sh n i = n / 2 ^ i.toNat := by
  unfold sh; rw [show (-i).toNat = 0 by omega, Nat.pow_zero, Nat.mul_one]
theorem sh_nonpos {n : Nat} {i : Int} (h : i ≤ 0) : sh n i = n * 2 ^ (-i).toNat := by
  unfold sh; rw [show i.toNat = 0 by omega, Nat.pow_zero, Nat.div_one]

/-- One step of the reading from the top. -/
theorem sh_step (n : Nat) (i : Int) : sh n i = 2 * sh n (i + 1) + (if i < 0 then 0 else n / 2 ^ i.toNat % 2) := by
  by_cases h : i < 0
  · rw [if_pos h, sh_nonpos (by omega), sh_nonpos (by omega), show (-i).toNat = (-(i + 1)).toNat + 1 by omega, Nat.pow_succ]
    rw [Nat.mul_comm 2, Nat.mul_assoc]; omega
  · rw [if_neg h, sh_nonneg (by omega), sh_nonneg (by omega), show (i + 1).toNat = i.toNat + 1 by omega, Nat.pow_succ, ← Nat.div_div_eq_div_mul]
    omega

end Hf
