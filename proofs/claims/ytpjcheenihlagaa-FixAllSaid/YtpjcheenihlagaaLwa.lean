/- The walks of FixBits and FixWraps: the Go text returns true, for every input. No conditions. -/
import Derived.Test.YtpjcheenihlagaaRfa
namespace Go.Proofs.Ytpjcheenihlagaa.Fl
open Go.RowKit Ieee
open Go.Proofs.Ytpjcheenihlagaa.PFixAll Go.Proofs.YtpjcheenihlagaaW.PrintWords Go.Proofs.YtpjcheenihlagaaW.PrintLast Go.Proofs.YtpjcheenihlagaaW.PrintMore

theorem Drw.below {w w' : World} (h : Drw w w') : Below w.heap.size w w' := by
  obtain ⟨n, rfl⟩ := h
  exact ⟨rfl, rfl, rfl, Nat.le_refl _, fun _ _ => rfl⟩
theorem same_below {w w' : World} (h : w' = w) : Below w.heap.size w w' := by rw [h]; exact Below.refl _ _

theorem alive_b (w : World) : Calls Try.prog 19 #[] w fun e w' => e = .returned (.bool true) ∧ Below w.heap.size w w' :=
  (alive_calls w).mono fun _ _ ⟨he, hw⟩ => ⟨he, hw.below⟩
theorem float_b (a : Int) (w : World) : Calls Try.prog 48 #[.int .i64 a] w fun e w' => e = .returned (.float .f64 (u a)) ∧ Below w.heap.size w w' :=
  (float_calls a w).mono fun _ _ ⟨he, hw⟩ => ⟨he, same_below hw⟩

theorem bits_b (b : Int) (hb : Fits b) (w : World) : Calls Try.prog 20 #[.int .i64 b] w fun e w' => e = .returned (.bool true) ∧ Below w.heap.size w w' := by
  have hu40 := Try.underlying40
  have hf40 : ∀ (x0 x1 x2 : Bool) (x3 x4 : Int) (w : World), (Instr.field 40 (.agg #[.bool x0, .bool x1, .bool x2, .int .i64 x3, .int .i64 x4]) 2).run Try.prog w = .ok (.bool x2) w := fun _ _ _ _ _ _ => by kernel_rfl
  have hP := parts_f 2 (Nat.le_refl _) hb
  have hN := parts_none (Hf.sgn (u b)) (Hf.rung (u b))
  have hC := canon_f 2 (Nat.le_refl _) hb
  obtain ⟨p1, p2, p3, p4, p5, hp⟩ : ∃ p1 p2 p3 p4 p5, partsOf (Hf.sgn (u b)) (Hf.rung (u b)) = (p1, p2, p3, p4, p5) := ⟨_, _, _, _, _, rfl⟩
  rw [hp] at hP hN
  have cP := hearthref1_Parts.calls 2 b p1 p2 p3 p4 p5
  have HB0 := Aside0.mk (Below.refl w.heap.size w)
  by_cases c : Hf.rung (u b) ≤ Hf.INF
  · have cB : ∀ w, Calls Try.prog 49 #[.float .f64 (u b)] w fun e w' => e = .returned (.int .i64 b) ∧ Below w.heap.size w w' := fun w => by
      have := bits_num (u b) c w
      rw [wrap_u hb] at this
      exact this.mono fun _ _ ⟨he, hw⟩ => ⟨he, same_below hw⟩
    rw [if_pos c] at hC
    have ho : ∀ (t : TypeId), binOp .eql t (.float .f64 (u b)) (.float .f64 (u b)) = pure (.bool true) := fun t => by
      rw [binOp_float_cmp_eql, order_self_num _ c]; rfl
    obtain rfl : p3 = false := by rw [show p3 = (decide (Hf.INF < Hf.rung (u b))) from hN]; simpa using c
    have cC := hearthref1_Canon.calls 2 b b
    clear hN hp c
    have HP := Aside0.mk hP
    have HC := Aside0.mk hC
    clear hP hC
    go_enter Try.func20, Try.ntmps20
    go_wp2_with fail
    refine (float_b b _).mono ?_
    rintro e w1 ⟨rfl, hb⟩
    have HB1 := Aside0.mk (below_step HB0.out hb)
    clear hb HB0
    go_wp2_with fail
    refine (cB _).mono ?_
    rintro e w2 ⟨rfl, hb⟩
    have HB2 := Aside0.mk (below_step HB1.out hb)
    clear hb HB1
    go_wp2_with fail
    refine (cC _ HC.out).mono ?_
    rintro e w3 ⟨rfl, hb⟩
    have HB3 := Aside0.mk (below_step HB2.out hb)
    clear hb HB2
    go_wp2_with fail
    refine (cP _ HP.out).mono ?_
    rintro e w4 ⟨rfl, hb⟩
    have HB4 := Aside0.mk (below_step HB3.out hb)
    clear hb HB3
    go_wp2_with fail
    go_ret
    exact ⟨rfl, HB4.out⟩
  · have cB : ∀ w, Calls Try.prog 49 #[.float .f64 (u b)] w fun e w' => e = .returned (.int .i64 9221120237041090561) ∧ Below w.heap.size w w' := fun w =>
      (bits_nan (u b) (by omega) w).mono fun _ _ ⟨he, hw⟩ => ⟨he, same_below hw⟩
    rw [if_neg c] at hC
    have ho : ∀ (t : TypeId), binOp .eql t (.float .f64 (u b)) (.float .f64 (u b)) = pure (.bool false) := fun t => by
      rw [binOp_float_cmp_eql, order_self_nan _ (by omega)]; rfl
    obtain rfl : p3 = true := by rw [show p3 = (decide (Hf.INF < Hf.rung (u b))) from hN]; simp; omega
    have cC := hearthref1_Canon.calls 2 b 9221120237041090561
    clear hN hp c
    have HP := Aside0.mk hP
    have HC := Aside0.mk hC
    clear hP hC
    go_enter Try.func20, Try.ntmps20
    go_wp2_with fail
    refine (float_b b _).mono ?_
    rintro e w1 ⟨rfl, hb⟩
    have HB1 := Aside0.mk (below_step HB0.out hb)
    clear hb HB0
    go_wp2_with fail
    refine (cB _).mono ?_
    rintro e w2 ⟨rfl, hb⟩
    have HB2 := Aside0.mk (below_step HB1.out hb)
    clear hb HB1
    go_wp2_with fail
    refine (cC _ HC.out).mono ?_
    rintro e w3 ⟨rfl, hb⟩
    have HB3 := Aside0.mk (below_step HB2.out hb)
    clear hb HB2
    go_wp2_with fail
    refine (cP _ HP.out).mono ?_
    rintro e w4 ⟨rfl, hb⟩
    have HB4 := Aside0.mk (below_step HB3.out hb)
    clear hb HB3
    go_wp2_with fail
    go_ret
    exact ⟨rfl, HB4.out⟩

theorem FixBits_walk (b : Int) (hb : Fits b) (w : World) : Calls Try.prog 3 #[.int .i64 b] w fun e w' => e = .returned (.bool true) ∧ Below w.heap.size w w' := by
  have HB0 := Aside0.mk (Below.refl w.heap.size w)
  go_enter Try.func3, Try.ntmps3
  go_wp2_with fail
  refine (alive_b _).mono ?_
  rintro e w1 ⟨rfl, hb⟩
  have HB1 := Aside0.mk (below_step HB0.out hb)
  clear hb HB0
  go_wp2_with fail
  refine (bits_b b hb _).mono ?_
  rintro e w2 ⟨rfl, hb⟩
  have HB2 := Aside0.mk (below_step HB1.out hb)
  clear hb HB1
  go_wp2_with fail
  go_ret
  exact ⟨rfl, HB2.out⟩

theorem FixWraps_walk (v : Int) (hv : Fits v) (w : World) : Calls Try.prog 4 #[.int .i64 v] w fun e w' => e = .returned (.bool true) ∧ Below w.heap.size w w' := by
  have HB0 := Aside0.mk (Below.refl w.heap.size w)
  have cW : ∀ w, Calls Try.prog 21 #[.int .i64 v] w fun e w' => e = .returned (.bool true) ∧ Below w.heap.size w w' := fun w =>
    (hearthlaw1_wrapped.calls v true w (wrapped_f hv)).mono fun _ _ ⟨he, hw⟩ => ⟨he, hw.below⟩
  go_enter Try.func4, Try.ntmps4
  go_wp2_with fail
  refine (alive_b _).mono ?_
  rintro e w1 ⟨rfl, hb⟩
  have HB1 := Aside0.mk (below_step HB0.out hb)
  clear hb HB0
  go_wp2_with fail
  refine (cW _).mono ?_
  rintro e w2 ⟨rfl, hb⟩
  have HB2 := Aside0.mk (below_step HB1.out hb)
  clear hb HB1
  go_wp2_with fail
  go_ret
  exact ⟨rfl, HB2.out⟩

end Go.Proofs.Ytpjcheenihlagaa.Fl
