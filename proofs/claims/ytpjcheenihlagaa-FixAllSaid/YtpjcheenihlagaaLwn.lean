/- The walks of FixSums, FixProducts, FixLess and FixTurns, each as a contract: the Go text returns true, for every input. No conditions. -/
import Derived.Test.YtpjcheenihlagaaLwa
import Derived.Test.YtpjcheenihlagaaAdd
import Derived.Test.YtpjcheenihlagaaDvd
import Derived.Test.YtpjcheenihlagaaPrd
import Derived.Test.YtpjcheenihlagaaTrn
import Derived.Test.YtpjcheenihlagaaBts
namespace Go.Proofs.Ytpjcheenihlagaa.Fl
open Go.RowKit Ieee
open Go.Proofs.Ytpjcheenihlagaa.PFixAll Go.Proofs.YtpjcheenihlagaaW.PrintWords Go.Proofs.YtpjcheenihlagaaW.PrintLast Go.Proofs.YtpjcheenihlagaaW.PrintMore

theorem rless_f (k : Nat) (hk : 2 ≤ k) {a b : Int} (ha : Fl.Fits a) (hb : Fl.Fits b) : hearthref1_FloLess.f k a b = some (Hf.less (Fl.u a) (Fl.u b)) := by
  have pa := Fl.parts_f k hk ha
  have pb := Fl.parts_f k hk hb
  have na := Fl.parts_none (Hf.sgn (Fl.u a)) (Hf.rung (Fl.u a))
  have nb := Fl.parts_none (Hf.sgn (Fl.u b)) (Hf.rung (Fl.u b))
  have sa : (Fl.partsOf (Hf.sgn (Fl.u a)) (Hf.rung (Fl.u a))).1 = Hf.sgn (Fl.u a) := Fl.parts_sgn _ _
  have sb : (Fl.partsOf (Hf.sgn (Fl.u b)) (Hf.rung (Fl.u b))).1 = Hf.sgn (Fl.u b) := Fl.parts_sgn _ _
  have ra := Fl.sr_u ha
  have rb := Fl.sr_u hb
  obtain ⟨k, rfl⟩ : ∃ m, k = m + 1 := ⟨k - 1, by omega⟩
  unfold hearthref1_FloLess.f
  rw [pa, pb]; simp only [Option.bind_some]
  rw [na, nb, sa, sb, Fl.sgn_u ha, Fl.sgn_u hb, Fl.less_sr, ra, rb]
  by_cases c1 : Hf.INF < Hf.rung (Fl.u a)
  · rw [decide_eq_true c1, if_pos rfl]
    simp only [hearthref1_FloLess.j0, if_true]
    congr 1; symm; rw [decide_eq_false_iff_not]; omega
  · rw [decide_eq_false c1, if_neg (by decide)]
    by_cases c2 : Hf.INF < Hf.rung (Fl.u b)
    · rw [decide_eq_true c2]
      simp only [hearthref1_FloLess.j0, if_true]
      congr 1; symm; rw [decide_eq_false_iff_not]; omega
    · rw [decide_eq_false c2]
      simp only [hearthref1_FloLess.j0, Bool.false_eq_true, if_false]
      have ea : a < 0 → wrap64 (-(wrap64 (a - -9223372036854775808))) = -(a + 9223372036854775808) := by
        intro h; unfold Fl.Fits at ha
        rw [Fl.wrap_id (a := a - -9223372036854775808) (by unfold Fl.Fits; omega), Fl.wrap_id (by unfold Fl.Fits; omega)]; omega
      have eb : b < 0 → wrap64 (-(wrap64 (b - -9223372036854775808))) = -(b + 9223372036854775808) := by
        intro h; unfold Fl.Fits at hb
        rw [Fl.wrap_id (a := b - -9223372036854775808) (by unfold Fl.Fits; omega), Fl.wrap_id (by unfold Fl.Fits; omega)]; omega
      have fin : ∀ p q : Int, (some (decide (p < q)) : Option Bool) = some (decide (Hf.rung (Fl.u a) ≤ Hf.INF ∧ Hf.rung (Fl.u b) ≤ Hf.INF ∧ p < q)) := by
        intro p q
        congr 1; rw [Bool.eq_iff_iff, decide_eq_true_eq, decide_eq_true_eq]; omega
      by_cases ca : a < 0 <;> by_cases cb : b < 0
      · rw [if_pos (decide_eq_true ca), if_pos (decide_eq_true cb), ea ca, eb cb, if_pos ca, if_pos cb]; exact fin _ _
      · rw [if_pos (decide_eq_true ca), if_neg (by simpa using cb), ea ca, if_pos ca, if_neg cb]; exact fin _ _
      · rw [if_neg (by simpa using ca), if_pos (decide_eq_true cb), eb cb, if_neg ca, if_pos cb]; exact fin _ _
      · rw [if_neg (by simpa using ca), if_neg (by simpa using cb), if_neg ca, if_neg cb]; exact fin _ _

set_option maxHeartbeats 8000000 in
set_option maxRecDepth 100000 in
theorem FixSums_b {a b : Int} (ha : Fits a) (hb : Fits b) (w : World) : Calls Try.prog 5 #[.int .i64 a, .int .i64 b] w fun e w' => e = .returned (.bool true) ∧ Below w.heap.size w w' := by
  have c0 : ∀ w, Calls Try.prog 22 #[.int .i64 a, .int .i64 b] w fun e w' => e = .returned (.int .i64 (out (double.add (u a) (u b)))) ∧ Below w.heap.size w w' := fun w =>
    (fix_FloAdd.calls a b _ w rfl).mono fun _ _ ⟨he, hw⟩ => ⟨he, hw.below⟩
  have d0 : ∀ w, Calls Try.prog 23 #[.int .i64 a, .int .i64 b] w fun e w' => e = .returned (.int .i64 (out (double.add (u a) (u b)))) ∧ Below w.heap.size w w' := fun w =>
    hearthref1_FloAdd.calls 200000 a b _ w (refadd_f 200000 (Nat.le_refl _) ha hb)
  generalize out (double.add (u a) (u b)) = s0 at c0 d0
  have c1 : ∀ w, Calls Try.prog 24 #[.int .i64 a, .int .i64 b] w fun e w' => e = .returned (.int .i64 (out (double.sub (u a) (u b)))) ∧ Below w.heap.size w w' := fun w =>
    (fix_FloSub.calls a b _ w rfl).mono fun _ _ ⟨he, hw⟩ => ⟨he, hw.below⟩
  have d1 : ∀ w, Calls Try.prog 25 #[.int .i64 a, .int .i64 b] w fun e w' => e = .returned (.int .i64 (out (double.sub (u a) (u b)))) ∧ Below w.heap.size w w' := fun w =>
    hearthref1_FloSub.calls 200000 a b _ w (refsub_f 200000 (Nat.le_refl _) ha hb)
  generalize out (double.sub (u a) (u b)) = s1 at c1 d1
  clear ha hb
  have HB0 := Aside0.mk (Below.refl w.heap.size w)
  go_enter Try.func5, Try.ntmps5
  go_wp2_with fail
  refine (alive_b _).mono ?_
  rintro e w1 ⟨rfl, hb⟩
  have HB1 := Aside0.mk (below_step HB0.out hb)
  clear hb HB0
  go_wp2_with fail
  refine (c0 _).mono ?_
  rintro e w2 ⟨rfl, hb⟩
  have HB2 := Aside0.mk (below_step HB1.out hb)
  clear hb HB1
  go_wp2_with fail
  refine (d0 _).mono ?_
  rintro e w3 ⟨rfl, hb⟩
  have HB3 := Aside0.mk (below_step HB2.out hb)
  clear hb HB2
  go_wp2_with fail
  refine (c1 _).mono ?_
  rintro e w4 ⟨rfl, hb⟩
  have HB4 := Aside0.mk (below_step HB3.out hb)
  clear hb HB3
  go_wp2_with fail
  refine (d1 _).mono ?_
  rintro e w5 ⟨rfl, hb⟩
  have HB5 := Aside0.mk (below_step HB4.out hb)
  clear hb HB4
  go_wp2_with fail
  go_ret
  exact ⟨rfl, HB5.out⟩

set_option maxHeartbeats 8000000 in
set_option maxRecDepth 100000 in
theorem FixProducts_b {a b : Int} (ha : Fits a) (hb : Fits b) (w : World) : Calls Try.prog 9 #[.int .i64 a, .int .i64 b] w fun e w' => e = .returned (.bool true) ∧ Below w.heap.size w w' := by
  have c0 : ∀ w, Calls Try.prog 31 #[.int .i64 a, .int .i64 b] w fun e w' => e = .returned (.int .i64 (out (double.mul (u a) (u b)))) ∧ Below w.heap.size w w' := fun w =>
    (fix_FloMul.calls a b _ w rfl).mono fun _ _ ⟨he, hw⟩ => ⟨he, hw.below⟩
  have d0 : ∀ w, Calls Try.prog 32 #[.int .i64 a, .int .i64 b] w fun e w' => e = .returned (.int .i64 (out (double.mul (u a) (u b)))) ∧ Below w.heap.size w w' := fun w =>
    hearthref1_FloMul.calls 200000 a b _ w (refmul_f 200000 (Nat.le_refl _) ha hb)
  generalize out (double.mul (u a) (u b)) = s0 at c0 d0
  have c1 : ∀ w, Calls Try.prog 33 #[.int .i64 a, .int .i64 b] w fun e w' => e = .returned (.int .i64 (out (double.div (u a) (u b)))) ∧ Below w.heap.size w w' := fun w =>
    (fix_FloDiv.calls a b _ w rfl).mono fun _ _ ⟨he, hw⟩ => ⟨he, hw.below⟩
  have d1 : ∀ w, Calls Try.prog 34 #[.int .i64 a, .int .i64 b] w fun e w' => e = .returned (.int .i64 (out (double.div (u a) (u b)))) ∧ Below w.heap.size w w' := fun w =>
    hearthref1_FloDiv.calls 200000 a b _ w (refdiv_f 200000 (Nat.le_refl _) ha hb)
  generalize out (double.div (u a) (u b)) = s1 at c1 d1
  clear ha hb
  have HB0 := Aside0.mk (Below.refl w.heap.size w)
  go_enter Try.func9, Try.ntmps9
  go_wp2_with fail
  refine (alive_b _).mono ?_
  rintro e w1 ⟨rfl, hb⟩
  have HB1 := Aside0.mk (below_step HB0.out hb)
  clear hb HB0
  go_wp2_with fail
  refine (c0 _).mono ?_
  rintro e w2 ⟨rfl, hb⟩
  have HB2 := Aside0.mk (below_step HB1.out hb)
  clear hb HB1
  go_wp2_with fail
  refine (d0 _).mono ?_
  rintro e w3 ⟨rfl, hb⟩
  have HB3 := Aside0.mk (below_step HB2.out hb)
  clear hb HB2
  go_wp2_with fail
  refine (c1 _).mono ?_
  rintro e w4 ⟨rfl, hb⟩
  have HB4 := Aside0.mk (below_step HB3.out hb)
  clear hb HB3
  go_wp2_with fail
  refine (d1 _).mono ?_
  rintro e w5 ⟨rfl, hb⟩
  have HB5 := Aside0.mk (below_step HB4.out hb)
  clear hb HB4
  go_wp2_with fail
  go_ret
  exact ⟨rfl, HB5.out⟩

set_option maxHeartbeats 8000000 in
set_option maxRecDepth 100000 in
theorem FixLess_b {a b : Int} (ha : Fits a) (hb : Fits b) (w : World) : Calls Try.prog 6 #[.int .i64 a, .int .i64 b] w fun e w' => e = .returned (.bool true) ∧ Below w.heap.size w w' := by
  have c0 : ∀ w, Calls Try.prog 26 #[.int .i64 a, .int .i64 b] w fun e w' => e = .returned (.bool (Hf.less (u a) (u b))) ∧ Below w.heap.size w w' := fun w =>
    (fix_FloLess.calls a b _ w rfl).mono fun _ _ ⟨he, hw⟩ => ⟨he, hw.below⟩
  have d0 : ∀ w, Calls Try.prog 27 #[.int .i64 a, .int .i64 b] w fun e w' => e = .returned (.bool (Hf.less (u a) (u b))) ∧ Below w.heap.size w w' := fun w =>
    hearthref1_FloLess.calls 2 a b _ w (rless_f 2 (Nat.le_refl _) ha hb)
  generalize Hf.less (u a) (u b) = s0 at c0 d0
  have c1 : ∀ w, Calls Try.prog 26 #[.int .i64 b, .int .i64 a] w fun e w' => e = .returned (.bool (Hf.less (u b) (u a))) ∧ Below w.heap.size w w' := fun w =>
    (fix_FloLess.calls b a _ w rfl).mono fun _ _ ⟨he, hw⟩ => ⟨he, hw.below⟩
  have d1 : ∀ w, Calls Try.prog 27 #[.int .i64 b, .int .i64 a] w fun e w' => e = .returned (.bool (Hf.less (u b) (u a))) ∧ Below w.heap.size w w' := fun w =>
    hearthref1_FloLess.calls 2 b a _ w (rless_f 2 (Nat.le_refl _) hb ha)
  generalize Hf.less (u b) (u a) = s1 at c1 d1
  clear ha hb
  have HB0 := Aside0.mk (Below.refl w.heap.size w)
  cases s0 <;> cases s1
  · go_enter Try.func6, Try.ntmps6
    go_wp2_with fail
    refine (alive_b _).mono ?_
    rintro e w1 ⟨rfl, hb⟩
    have HB1 := Aside0.mk (below_step HB0.out hb)
    clear hb HB0
    go_wp2_with fail
    refine (c0 _).mono ?_
    rintro e w2 ⟨rfl, hb⟩
    have HB2 := Aside0.mk (below_step HB1.out hb)
    clear hb HB1
    go_wp2_with fail
    refine (d0 _).mono ?_
    rintro e w3 ⟨rfl, hb⟩
    have HB3 := Aside0.mk (below_step HB2.out hb)
    clear hb HB2
    go_wp2_with fail
    refine (c1 _).mono ?_
    rintro e w4 ⟨rfl, hb⟩
    have HB4 := Aside0.mk (below_step HB3.out hb)
    clear hb HB3
    go_wp2_with fail
    refine (d1 _).mono ?_
    rintro e w5 ⟨rfl, hb⟩
    have HB5 := Aside0.mk (below_step HB4.out hb)
    clear hb HB4
    go_wp2_with fail
    go_ret
    exact ⟨rfl, HB5.out⟩
  · go_enter Try.func6, Try.ntmps6
    go_wp2_with fail
    refine (alive_b _).mono ?_
    rintro e w1 ⟨rfl, hb⟩
    have HB1 := Aside0.mk (below_step HB0.out hb)
    clear hb HB0
    go_wp2_with fail
    refine (c0 _).mono ?_
    rintro e w2 ⟨rfl, hb⟩
    have HB2 := Aside0.mk (below_step HB1.out hb)
    clear hb HB1
    go_wp2_with fail
    refine (d0 _).mono ?_
    rintro e w3 ⟨rfl, hb⟩
    have HB3 := Aside0.mk (below_step HB2.out hb)
    clear hb HB2
    go_wp2_with fail
    refine (c1 _).mono ?_
    rintro e w4 ⟨rfl, hb⟩
    have HB4 := Aside0.mk (below_step HB3.out hb)
    clear hb HB3
    go_wp2_with fail
    refine (d1 _).mono ?_
    rintro e w5 ⟨rfl, hb⟩
    have HB5 := Aside0.mk (below_step HB4.out hb)
    clear hb HB4
    go_wp2_with fail
    go_ret
    exact ⟨rfl, HB5.out⟩
  · go_enter Try.func6, Try.ntmps6
    go_wp2_with fail
    refine (alive_b _).mono ?_
    rintro e w1 ⟨rfl, hb⟩
    have HB1 := Aside0.mk (below_step HB0.out hb)
    clear hb HB0
    go_wp2_with fail
    refine (c0 _).mono ?_
    rintro e w2 ⟨rfl, hb⟩
    have HB2 := Aside0.mk (below_step HB1.out hb)
    clear hb HB1
    go_wp2_with fail
    refine (d0 _).mono ?_
    rintro e w3 ⟨rfl, hb⟩
    have HB3 := Aside0.mk (below_step HB2.out hb)
    clear hb HB2
    go_wp2_with fail
    refine (c1 _).mono ?_
    rintro e w4 ⟨rfl, hb⟩
    have HB4 := Aside0.mk (below_step HB3.out hb)
    clear hb HB3
    go_wp2_with fail
    refine (d1 _).mono ?_
    rintro e w5 ⟨rfl, hb⟩
    have HB5 := Aside0.mk (below_step HB4.out hb)
    clear hb HB4
    go_wp2_with fail
    go_ret
    exact ⟨rfl, HB5.out⟩
  · go_enter Try.func6, Try.ntmps6
    go_wp2_with fail
    refine (alive_b _).mono ?_
    rintro e w1 ⟨rfl, hb⟩
    have HB1 := Aside0.mk (below_step HB0.out hb)
    clear hb HB0
    go_wp2_with fail
    refine (c0 _).mono ?_
    rintro e w2 ⟨rfl, hb⟩
    have HB2 := Aside0.mk (below_step HB1.out hb)
    clear hb HB1
    go_wp2_with fail
    refine (d0 _).mono ?_
    rintro e w3 ⟨rfl, hb⟩
    have HB3 := Aside0.mk (below_step HB2.out hb)
    clear hb HB2
    go_wp2_with fail
    refine (c1 _).mono ?_
    rintro e w4 ⟨rfl, hb⟩
    have HB4 := Aside0.mk (below_step HB3.out hb)
    clear hb HB3
    go_wp2_with fail
    refine (d1 _).mono ?_
    rintro e w5 ⟨rfl, hb⟩
    have HB5 := Aside0.mk (below_step HB4.out hb)
    clear hb HB4
    go_wp2_with fail
    go_ret
    exact ⟨rfl, HB5.out⟩

set_option maxHeartbeats 8000000 in
set_option maxRecDepth 100000 in
theorem fixed_b {b : Int} (hb : Fits b) (w : World) : Calls Try.prog 42 #[.int .i64 b] w fun e w' => e = .returned (.bool true) ∧ Below w.heap.size w w' := by
  obtain ⟨n, ok, hp⟩ : ∃ n ok, toFix (u b) = (n, ok) := ⟨_, _, rfl⟩
  have c0 : ∀ w, Calls Try.prog 43 #[.int .i64 b] w fun e w' => e = .returned (.tuple #[.int .i64 n, .bool ok]) ∧ Below w.heap.size w w' := fun w =>
    (fix_ToFix.calls b n ok w (by unfold fix_ToFix.f; rw [hp])).mono fun _ _ ⟨he, hw⟩ => ⟨he, hw.below⟩
  have d0 : ∀ w, Calls Try.prog 61 #[.int .i64 b] w fun e w' => e = .returned (.tuple #[.int .i64 n, .bool ok]) ∧ Below w.heap.size w w' := fun w =>
    hearthref1_ToFix.calls 200000 b n ok w (by rw [reftofix_f 200000 (Nat.le_refl _) hb, hp])
  clear hp hb
  have HB0 := Aside0.mk (Below.refl w.heap.size w)
  cases ok
  · go_enter Try.func42, Try.ntmps42
    go_wp2_with fail
    refine (c0 _).mono ?_
    rintro e w1 ⟨rfl, hb⟩
    have HB1 := Aside0.mk (below_step HB0.out hb)
    clear hb HB0
    go_wp2_with fail
    refine (d0 _).mono ?_
    rintro e w2 ⟨rfl, hb⟩
    have HB2 := Aside0.mk (below_step HB1.out hb)
    clear hb HB1
    go_wp2_with fail
    go_ret
    exact ⟨rfl, HB2.out⟩
  · go_enter Try.func42, Try.ntmps42
    go_wp2_with fail
    refine (c0 _).mono ?_
    rintro e w1 ⟨rfl, hb⟩
    have HB1 := Aside0.mk (below_step HB0.out hb)
    clear hb HB0
    go_wp2_with fail
    refine (d0 _).mono ?_
    rintro e w2 ⟨rfl, hb⟩
    have HB2 := Aside0.mk (below_step HB1.out hb)
    clear hb HB1
    go_wp2_with fail
    go_ret
    exact ⟨rfl, HB2.out⟩

set_option maxHeartbeats 8000000 in
set_option maxRecDepth 100000 in
theorem FixTurns_b {v b : Int} (hv : Fits v) (hb : Fits b) (w : World) : Calls Try.prog 13 #[.int .i64 v, .int .i64 b] w fun e w' => e = .returned (.bool true) ∧ Below w.heap.size w w' := by
  have c0 : ∀ w, Calls Try.prog 40 #[.int .i64 v] w fun e w' => e = .returned (.int .i64 (wrap64 (floOf v))) ∧ Below w.heap.size w w' := fun w =>
    (fix_ToFlo.calls v _ w rfl).mono fun _ _ ⟨he, hw⟩ => ⟨he, hw.below⟩
  have d0 : ∀ w, Calls Try.prog 41 #[.int .i64 v] w fun e w' => e = .returned (.int .i64 (wrap64 (floOf v))) ∧ Below w.heap.size w w' := fun w =>
    hearthref1_ToFlo.calls 200000 v _ w (reftoflo_f 200000 (Nat.le_refl _) hv)
  have c1 : ∀ w, Calls Try.prog 42 #[.int .i64 b] w fun e w' => e = .returned (.bool true) ∧ Below w.heap.size w w' := fun w => fixed_b hb w
  have c2 : ∀ w, Calls Try.prog 42 #[.int .i64 (wrap64 (floOf v))] w fun e w' => e = .returned (.bool true) ∧ Below w.heap.size w w' := fun w => fixed_b (fits_wrap _) w
  generalize wrap64 (floOf v) = s at c0 d0 c2
  clear hv hb
  have HB0 := Aside0.mk (Below.refl w.heap.size w)
  go_enter Try.func13, Try.ntmps13
  go_wp2_with fail
  refine (alive_b _).mono ?_
  rintro e w1 ⟨rfl, hb⟩
  have HB1 := Aside0.mk (below_step HB0.out hb)
  clear hb HB0
  go_wp2_with fail
  refine (c0 _).mono ?_
  rintro e w2 ⟨rfl, hb⟩
  have HB2 := Aside0.mk (below_step HB1.out hb)
  clear hb HB1
  go_wp2_with fail
  refine (d0 _).mono ?_
  rintro e w3 ⟨rfl, hb⟩
  have HB3 := Aside0.mk (below_step HB2.out hb)
  clear hb HB2
  go_wp2_with fail
  refine (c1 _).mono ?_
  rintro e w4 ⟨rfl, hb⟩
  have HB4 := Aside0.mk (below_step HB3.out hb)
  clear hb HB3
  go_wp2_with fail
  refine (c0 _).mono ?_
  rintro e w5 ⟨rfl, hb⟩
  have HB5 := Aside0.mk (below_step HB4.out hb)
  clear hb HB4
  go_wp2_with fail
  refine (c2 _).mono ?_
  rintro e w6 ⟨rfl, hb⟩
  have HB6 := Aside0.mk (below_step HB5.out hb)
  clear hb HB5
  go_wp2_with fail
  go_ret
  exact ⟨rfl, HB6.out⟩

end Go.Proofs.Ytpjcheenihlagaa.Fl
