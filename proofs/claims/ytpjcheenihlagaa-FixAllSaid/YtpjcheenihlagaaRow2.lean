/- The reference's rows of 61 bits: number and row (walks). No conditions beyond those in each lemma. -/
import Derived.Test.YtpjcheenihlagaaRow
import Derived.Test.YtpjcheenihlagaaRfa
namespace Go.Proofs.Ytpjcheenihlagaa.Fl
open Go.RowKit Hf Ieee
open Go.Proofs.Ytpjcheenihlagaa.PFixAll Go.Proofs.YtpjcheenihlagaaW.PrintWords Go.Proofs.YtpjcheenihlagaaW.PrintLast Go.Proofs.YtpjcheenihlagaaW.PrintMore

/-- number, after i bits. -/
def NumAt (l : List Int) (i : Nat) (N U : Int) : Prop := N = (val (l.take i) : Int) ∧ U = ((2 ^ i : Nat) : Int)

theorem take_lt {l : List Int} (h : Bits l) (i : Nat) : val (l.take i) < 2 ^ i := by
  have h2 : Bits (l.take i) := fun x hx => h x (List.mem_of_mem_take hx)
  exact Nat.lt_of_lt_of_le (val_lt h2) (Nat.pow_le_pow_right (by omega) (by simp; omega))

theorem NumAt.step {l : List Int} {i : Nat} {N U : Int} (hl : Bits l) (hi : i < 60) (hn : l.length = 61) (h : NumAt l i N U) :
    NumAt l (i + 1) (wrap64 (N + wrap64 (l.getD i 0 * U))) (wrap64 (U + U)) := by
  obtain ⟨rfl, rfl⟩ := h
  have hx := getD_bit hl i (by omega)
  have ht := take_val hl i (by omega)
  have hlt := take_lt hl i
  have hP : 2 ^ i ≤ 576460752303423488 := by
    rw [show (576460752303423488 : Nat) = 2 ^ 59 by decide]; exact Nat.pow_le_pow_right (by decide) (by omega)
  have hp : ((2 ^ (i + 1) : Nat) : Int) = 2 * ((2 ^ i : Nat) : Int) := by rw [Nat.pow_succ]; omega
  unfold NumAt
  rw [ht, hp]
  generalize val (l.take i) = M at *
  generalize 2 ^ i = P at *
  generalize l.getD i 0 = x at *
  clear ht hp hl hn hi
  rcases hx with rfl | rfl
  · rw [Int.zero_mul, Int.mul_zero, wrap_id (a := (0 : Int)) (by unfold Fits; omega), wrap_id (a := (M : Int) + 0) (by unfold Fits; omega), wrap_id (by unfold Fits; omega)]
    omega
  · rw [Int.one_mul, Int.mul_one, wrap_id (a := (P : Int)) (by unfold Fits; omega), wrap_id (a := (M : Int) + P) (by unfold Fits; omega), wrap_id (by unfold Fits; omega)]
    omega

theorem num_end {l : List Int} (hl : Bits l) (hn : l.length = 61) {N U : Int} (h : NumAt l 60 N U) :
    (l.getD 60 0 = 1 → wrap64 (wrap64 (N - 1152921504606846975) - 1) = wrap61 (val l)) ∧ (l.getD 60 0 ≠ 1 → N = wrap61 (val l)) := by
  obtain ⟨rfl, rfl⟩ := h
  have hx := getD_bit hl 60 (by omega)
  have ht := take_val hl 60 (by omega)
  have hlt := take_lt hl 60
  rw [show l.take (60 + 1) = l by rw [List.take_of_length_le (by omega)]] at ht
  rw [show (2 : Nat) ^ 60 = 1152921504606846976 by decide] at ht hlt
  generalize val (l.take 60) = M at *
  generalize l.getD 60 0 = x at *
  constructor
  · intro h; subst h
    rw [wrap_id (a := (M : Int) - 1152921504606846975) (by unfold Fits; omega), wrap_id (by unfold Fits; omega)]
    unfold wrap61; omega
  · intro h
    obtain rfl : x = 0 := by omega
    unfold wrap61; omega

set_option maxHeartbeats 8000000 in
set_option maxRecDepth 100000 in
theorem number_calls {l : List Int} (hn : l.length = 61) (bl : Bits l) (w : World) :
    Calls Try.prog 71 #[.agg (cellsOf l)] w fun e w' => e = .returned (.int .i64 (wrap61 (val l))) ∧ Below w.heap.size w w' := by
  have hu55 := Try.underlying55
  go_enter Try.func71, Try.ntmps71
  go_wp2
  go_loopg [3, 4, 5] 60 (fun kq v3 v4 v5 wr => ∃ (i : Nat) (N U : Int), v3 = .int .i64 N ∧ v4 = .int .i64 U ∧ v5 = .int .i64 (i : Int) ∧ i + kq = 60 ∧ Aside0 (NumAt l i N U) ∧
    Aside0 (wr.heap[w.heap.size]? = some (.cells (cellsOf l) 55 (0, 0))) ∧ Aside0 (Below w.heap.size w wr))
  case atStart =>
    exact ⟨0, 0, 1, rfl, rfl, rfl, rfl, ⟨⟨by rw [List.take_zero]; rfl, rfl⟩⟩, ⟨blk_new _ _⟩, ⟨below_alloc (Below.refl _ _) _⟩⟩
  case round =>
    obtain ⟨i, N, U, rfl, rfl, rfl, hk, hP, hA, hW⟩ := hrel
    cases gk with
    | zero =>
      obtain rfl : i = 60 := by omega
      have hca := (blk_cell hA.out 60).trans (cellsOf_get (l := l) (i := 60) (by omega))
      obtain ⟨e1, e2⟩ := num_end bl hn hP.out
      clear hP
      obtain ⟨x, hx⟩ : ∃ x, x = l.getD 60 0 := ⟨_, rfl⟩
      rw [← hx] at hca e1 e2
      clear hx
      by_cases c : x = 1
      · have r := e1 c
        subst c
        clear e1 e2
        go_wp2
        go_ret
        exact ⟨by rw [← r]; rfl, hW.out⟩
      · have r := e2 c
        have cb : (x == 1) = false := beq_eq_false_iff_ne.mpr c
        clear e1 e2
        go_wp2
        go_ret
        exact ⟨by rw [← r]; rfl, hW.out⟩
    | succ k1 =>
      have hlt : (i : Int) < 60 := by omega
      have hlt2 : (i : Int) < 61 := by omega
      have hca := (blk_cell hA.out i).trans (cellsOf_get (l := l) (i := i) (by omega))
      have hst := Aside0.mk (NumAt.step bl (by omega : i < 60) hn hP.out)
      obtain ⟨x, hx⟩ : ∃ x, x = l.getD i 0 := ⟨_, rfl⟩
      rw [← hx] at hca hst
      clear hx hP
      go_wp2
      go_roundg k1
      case measure => omega
      case rel =>
        exact ⟨i + 1, _, _, rfl, rfl, by first | rfl | (simp; done), by omega, hst, hA, hW⟩

/-- row, after i bits, of a number m from 0 on, or of the number -(m + 1). -/
def RowAt (neg : Bool) (m : Nat) (p : List Int) (V : Int) : Prop :=
  Bits p ∧ V = ((m / 2 ^ p.length : Nat) : Int) ∧ (val p : Int) = if neg then ((2 ^ p.length : Nat) : Int) - 1 - ((m % 2 ^ p.length : Nat) : Int) else ((m % 2 ^ p.length : Nat) : Int)

theorem RowAt.step {neg : Bool} {m : Nat} {p : List Int} {V : Int} (hm : m < 2305843009213693952) (h : RowAt neg m p V) :
    RowAt neg m (p ++ [if neg then wrap64 (1 - Int.tmod V 2) else Int.tmod V 2]) (wrap64 (Int.tdiv V 2)) := by
  obtain ⟨h1, rfl, h3⟩ := h
  have hl : ∀ x : Int, (p ++ [x]).length = p.length + 1 := fun x => by simp
  have hdl : m / 2 ^ p.length ≤ m := Nat.div_le_self _ _
  have t1 : wrap64 (Int.tdiv ((m / 2 ^ p.length : Nat) : Int) 2) = ((m / 2 ^ (p.length + 1) : Nat) : Int) := by
    rw [Nat.pow_succ, ← Nat.div_div_eq_div_mul]
    generalize m / 2 ^ p.length = z at *
    clear h3
    rw [Int.tdiv_eq_ediv_of_nonneg (by omega), wrap_id (by unfold Fits; omega)]; omega
  have t2 : Int.tmod ((m / 2 ^ p.length : Nat) : Int) 2 = ((m / 2 ^ p.length % 2 : Nat) : Int) := by
    generalize m / 2 ^ p.length = z at *
    clear h3 t1
    rw [Int.tmod_eq_emod_of_nonneg (by omega)]; omega
  have hmod : m % 2 ^ (p.length + 1) = m % 2 ^ p.length + 2 ^ p.length * (m / 2 ^ p.length % 2) := by rw [Nat.pow_succ, Nat.mod_mul]
  have hp : ((2 ^ (p.length + 1) : Nat) : Int) = 2 * ((2 ^ p.length : Nat) : Int) := by rw [Nat.pow_succ]; omega
  have hb2 : m / 2 ^ p.length % 2 = 0 ∨ m / 2 ^ p.length % 2 = 1 := Nat.mod_two_eq_zero_or_one _
  unfold RowAt
  rw [hl, t1, t2, val_snoc, hmod, hp]
  generalize m / 2 ^ p.length % 2 = b at *
  generalize m % 2 ^ p.length = r at *
  generalize 2 ^ p.length = P at *
  clear t1 t2 hmod hp hdl hl
  have w1 : wrap64 (1 - (b : Int)) = 1 - (b : Int) := wrap_id (by unfold Fits; omega)
  rw [w1]
  cases neg
  · simp only [Bool.false_eq_true, if_false] at *
    refine ⟨h1.append (Bits.one (by omega)), trivial, ?_⟩
    rw [Int.toNat_natCast]
    omega
  · simp only [if_true] at *
    refine ⟨h1.append (Bits.one (by omega)), trivial, ?_⟩
    rcases hb2 with rfl | rfl
    · rw [show ((1 : Int) - ((0 : Nat) : Int)).toNat = 1 from rfl, Nat.mul_one, Nat.mul_zero]; omega
    · rw [show ((1 : Int) - ((1 : Nat) : Int)).toNat = 0 from rfl, Nat.mul_one, Nat.mul_zero]; omega

end Go.Proofs.Ytpjcheenihlagaa.Fl
