/- The walk of FixWhole: the Go text returns true, for any two ints. No conditions. -/
import Derived.Test.YtpjcheenihlagaaLwa
import Derived.Test.YtpjcheenihlagaaRow6
import Derived.Test.YtpjcheenihlagaaDvn
namespace Go.Proofs.Ytpjcheenihlagaa.Fl
open Go.RowKit Ieee
open Go.Proofs.Ytpjcheenihlagaa.PFixAll Go.Proofs.YtpjcheenihlagaaW.PrintWords Go.Proofs.YtpjcheenihlagaaW.PrintLast Go.Proofs.YtpjcheenihlagaaW.PrintMore

set_option maxHeartbeats 8000000 in
set_option maxRecDepth 100000 in
theorem whole_b {a b : Int} (ha : Fits a) (hb : Fits b) (w : World) : Calls Try.prog 46 #[.int .i64 a, .int .i64 b] w fun e w' => e = .returned (.bool true) ∧ Below w.heap.size w w' := by
  have c0 : ∀ w, Calls Try.prog 35 #[.int .i64 a, .int .i64 b] w fun e w' => e = .returned (.int .i64 (wrap61 (a + b))) ∧ Below w.heap.size w w' := fun w =>
    (fix_Add.calls a b _ w (Add_f a b)).mono fun _ _ ⟨he, hw⟩ => ⟨he, hw.below⟩
  have d0 : ∀ w, Calls Try.prog 62 #[.int .i64 a, .int .i64 b] w fun e w' => e = .returned (.int .i64 (wrap61 (a + b))) ∧ Below w.heap.size w w' := fun w => refadd_calls ha hb w
  have c1 : ∀ w, Calls Try.prog 37 #[.int .i64 a, .int .i64 b] w fun e w' => e = .returned (.int .i64 (wrap61 (a - b))) ∧ Below w.heap.size w w' := fun w =>
    (fix_Sub.calls a b _ w (Sub_f a b)).mono fun _ _ ⟨he, hw⟩ => ⟨he, hw.below⟩
  have d1 : ∀ w, Calls Try.prog 63 #[.int .i64 a, .int .i64 b] w fun e w' => e = .returned (.int .i64 (wrap61 (a - b))) ∧ Below w.heap.size w w' := fun w => refsub_calls ha hb w
  have c2 : ∀ w, Calls Try.prog 36 #[.int .i64 a, .int .i64 b] w fun e w' => e = .returned (.int .i64 (wrap61 (a * b))) ∧ Below w.heap.size w w' := fun w =>
    (fix_Mul.calls a b _ w (Mul_f a b)).mono fun _ _ ⟨he, hw⟩ => ⟨he, hw.below⟩
  have d2 : ∀ w, Calls Try.prog 64 #[.int .i64 a, .int .i64 b] w fun e w' => e = .returned (.int .i64 (wrap61 (a * b))) ∧ Below w.heap.size w w' := fun w => refmul_calls ha hb w
  have c3 : ∀ w, Calls Try.prog 44 #[.int .i64 a, .int .i64 b] w fun e w' => e = .returned (.int .i64 (if wrap61 b = 0 then 0 else wrap61 (Int.tdiv (wrap61 a) (wrap61 b)))) ∧ Below w.heap.size w w' := fun w =>
    (fix_Quot.calls a b _ w (Quot_f a b)).mono fun _ _ ⟨he, hw⟩ => ⟨he, hw.below⟩
  have d3 : ∀ w, Calls Try.prog 65 #[.int .i64 a, .int .i64 b] w fun e w' => e = .returned (.int .i64 (if wrap61 b = 0 then 0 else wrap61 (Int.tdiv (wrap61 a) (wrap61 b)))) ∧ Below w.heap.size w w' := fun w =>
    (refquot_calls ha hb w).mono fun _ _ ⟨he, hw⟩ => ⟨he, hw.below⟩
  have c4 : ∀ w, Calls Try.prog 45 #[.int .i64 a, .int .i64 b] w fun e w' => e = .returned (.int .i64 (if wrap61 b = 0 then 0 else Int.tmod (wrap61 a) (wrap61 b))) ∧ Below w.heap.size w w' := fun w =>
    (fix_Rem.calls a b _ w (Rem_f a b)).mono fun _ _ ⟨he, hw⟩ => ⟨he, hw.below⟩
  have d4 : ∀ w, Calls Try.prog 66 #[.int .i64 a, .int .i64 b] w fun e w' => e = .returned (.int .i64 (if wrap61 b = 0 then 0 else Int.tmod (wrap61 a) (wrap61 b))) ∧ Below w.heap.size w w' := fun w =>
    (refrem_calls ha hb w).mono fun _ _ ⟨he, hw⟩ => ⟨he, hw.below⟩
  generalize wrap61 (a + b) = s0 at c0 d0
  generalize wrap61 (a - b) = s1 at c1 d1
  generalize wrap61 (a * b) = s2 at c2 d2
  generalize (if wrap61 b = 0 then 0 else wrap61 (Int.tdiv (wrap61 a) (wrap61 b))) = s3 at c3 d3
  generalize (if wrap61 b = 0 then 0 else Int.tmod (wrap61 a) (wrap61 b)) = s4 at c4 d4
  clear ha hb
  have HB0 := Aside0.mk (Below.refl w.heap.size w)
  go_enter Try.func46, Try.ntmps46
  go_wp2_with fail
  refine (c0 _).mono ?_
  rintro e w1 ⟨rfl, hb⟩
  have HB1 := Aside0.mk (below_step HB0.out hb)
  clear hb HB0
  go_wp2_with fail
  refine (d0 _).mono ?_
  rintro e w2 ⟨rfl, hb⟩
  have HB2 := Aside0.mk (below_step HB1.out hb)
  clear hb HB1
  go_wp2_with fail
  refine (c1 _).mono ?_
  rintro e w3 ⟨rfl, hb⟩
  have HB3 := Aside0.mk (below_step HB2.out hb)
  clear hb HB2
  go_wp2_with fail
  refine (d1 _).mono ?_
  rintro e w4 ⟨rfl, hb⟩
  have HB4 := Aside0.mk (below_step HB3.out hb)
  clear hb HB3
  go_wp2_with fail
  refine (c2 _).mono ?_
  rintro e w5 ⟨rfl, hb⟩
  have HB5 := Aside0.mk (below_step HB4.out hb)
  clear hb HB4
  go_wp2_with fail
  refine (d2 _).mono ?_
  rintro e w6 ⟨rfl, hb⟩
  have HB6 := Aside0.mk (below_step HB5.out hb)
  clear hb HB5
  go_wp2_with fail
  refine (c3 _).mono ?_
  rintro e w7 ⟨rfl, hb⟩
  have HB7 := Aside0.mk (below_step HB6.out hb)
  clear hb HB6
  go_wp2_with fail
  refine (d3 _).mono ?_
  rintro e w8 ⟨rfl, hb⟩
  have HB8 := Aside0.mk (below_step HB7.out hb)
  clear hb HB7
  go_wp2_with fail
  refine (c4 _).mono ?_
  rintro e w9 ⟨rfl, hb⟩
  have HB9 := Aside0.mk (below_step HB8.out hb)
  clear hb HB8
  go_wp2_with fail
  refine (d4 _).mono ?_
  rintro e w10 ⟨rfl, hb⟩
  have HB10 := Aside0.mk (below_step HB9.out hb)
  clear hb HB9
  go_wp2_with fail
  go_ret
  exact ⟨rfl, HB10.out⟩

set_option maxHeartbeats 8000000 in
set_option maxRecDepth 100000 in
theorem FixWhole_walk (a b : Int) (ha : Fits a) (hb : Fits b) (w : World) : Calls Try.prog 17 #[.int .i64 a, .int .i64 b] w fun e w' => e = .returned (.bool true) ∧ Below w.heap.size w w' := by
  have HB0 := Aside0.mk (Below.refl w.heap.size w)
  have cW : ∀ w, Calls Try.prog 21 #[.int .i64 a] w fun e w' => e = .returned (.bool true) ∧ Below w.heap.size w w' := fun w =>
    (hearthlaw1_wrapped.calls a true w (wrapped_f ha)).mono fun _ _ ⟨he, hw⟩ => ⟨he, hw.below⟩
  have c1 : ∀ w, Calls Try.prog 46 #[.int .i64 a, .int .i64 b] w fun e w' => e = .returned (.bool true) ∧ Below w.heap.size w w' := fun w => whole_b ha hb w
  have c2 : ∀ w, Calls Try.prog 46 #[.int .i64 b, .int .i64 a] w fun e w' => e = .returned (.bool true) ∧ Below w.heap.size w w' := fun w => whole_b hb ha w
  clear ha hb
  go_enter Try.func17, Try.ntmps17
  go_wp2_with fail
  refine (alive_b _).mono ?_
  rintro e w1 ⟨rfl, hb⟩
  have HB1 := Aside0.mk (below_step HB0.out hb)
  clear hb HB0
  go_wp2_with fail
  refine (cW _).mono ?_
  rintro e w2 ⟨rfl, hb⟩
  have HB2 := Aside0.mk (below_step HB1.out hb)
  clear hb HB1
  go_wp2_with fail
  refine (c1 _).mono ?_
  rintro e w3 ⟨rfl, hb⟩
  have HB3 := Aside0.mk (below_step HB2.out hb)
  clear hb HB2
  go_wp2_with fail
  refine (c2 _).mono ?_
  rintro e w4 ⟨rfl, hb⟩
  have HB4 := Aside0.mk (below_step HB3.out hb)
  clear hb HB3
  go_wp2_with fail
  go_ret
  exact ⟨rfl, HB4.out⟩

end Go.Proofs.Ytpjcheenihlagaa.Fl
