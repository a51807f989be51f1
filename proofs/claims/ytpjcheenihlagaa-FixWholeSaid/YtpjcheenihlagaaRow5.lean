/- The reference's Add and Sub (walks). No conditions beyond those in each lemma. -/
import Derived.Test.YtpjcheenihlagaaRow4
namespace Go.Proofs.Ytpjcheenihlagaa.Fl
open Go.RowKit Hf Ieee
open Go.Proofs.Ytpjcheenihlagaa.PFixAll Go.Proofs.YtpjcheenihlagaaW.PrintWords Go.Proofs.YtpjcheenihlagaaW.PrintLast Go.Proofs.YtpjcheenihlagaaW.PrintMore

set_option maxHeartbeats 8000000 in
set_option maxRecDepth 100000 in
theorem refadd_calls {a b : Int} (ha : Fits a) (hb : Fits b) (w : World) :
    Calls Try.prog 62 #[.int .i64 a, .int .i64 b] w fun e w' => e = .returned (.int .i64 (wrap61 (a + b))) ∧ Below w.heap.size w w' := by
  have HB0 := Aside0.mk (Below.refl w.heap.size w)
  go_enter Try.func62, Try.ntmps62
  go_wp2_with fail
  refine (row_calls ha _).mono ?_
  rintro e w1 ⟨x, rfl, x1, x2, x3, hq⟩
  have HB1 := Aside0.mk (below_step HB0.out hq)
  clear hq HB0
  have X2 := Aside0.mk x2
  have X3 := Aside0.mk x3
  clear x2 x3
  go_wp2_with fail
  refine (row_calls hb _).mono ?_
  rintro e w2 ⟨y, rfl, y1, y2, y3, hq⟩
  have HB2 := Aside0.mk (below_step HB1.out hq)
  clear hq HB1
  have Y2 := Aside0.mk y2
  have Y3 := Aside0.mk y3
  clear y2 y3
  go_wp2_with fail
  refine (plus_calls x1 y1 X2.out Y2.out _).mono ?_
  rintro e w3 ⟨l, C, rfl, l1, hP, hq⟩
  have HB3 := Aside0.mk (below_step HB2.out hq)
  clear hq HB2
  have HP := Aside0.mk hP
  clear hP
  go_wp2_with fail
  refine (number_calls l1 HP.out.1 _).mono ?_
  rintro e w4 ⟨rfl, hq⟩
  have HB4 := Aside0.mk (below_step HB3.out hq)
  clear hq HB3
  go_wp2_with fail
  go_ret
  refine ⟨?_, HB4.out⟩
  have e1 : wrap61 (val l : Int) = wrap61 (a + b) := by
    have h1 := HP.out.done l1 x1 y1
    rw [X3.out, Y3.out] at h1
    apply wrap61_mod; omega
  rw [← e1]; rfl

set_option maxHeartbeats 8000000 in
set_option maxRecDepth 100000 in
theorem refsub_calls {a b : Int} (ha : Fits a) (hb : Fits b) (w : World) :
    Calls Try.prog 63 #[.int .i64 a, .int .i64 b] w fun e w' => e = .returned (.int .i64 (wrap61 (a - b))) ∧ Below w.heap.size w w' := by
  have HB0 := Aside0.mk (Below.refl w.heap.size w)
  go_enter Try.func63, Try.ntmps63
  go_wp2_with fail
  refine (row_calls ha _).mono ?_
  rintro e w1 ⟨x, rfl, x1, x2, x3, hq⟩
  have HB1 := Aside0.mk (below_step HB0.out hq)
  clear hq HB0
  have X2 := Aside0.mk x2
  have X3 := Aside0.mk x3
  clear x2 x3
  go_wp2_with fail
  refine (row_calls hb _).mono ?_
  rintro e w2 ⟨y, rfl, y1, y2, y3, hq⟩
  have HB2 := Aside0.mk (below_step HB1.out hq)
  clear hq HB1
  have Y2 := Aside0.mk y2
  have Y3 := Aside0.mk y3
  clear y2 y3
  go_wp2_with fail
  refine (turned_calls y1 Y2.out _).mono ?_
  rintro e w3 ⟨z, rfl, z1, z2, z3, hq⟩
  have HB3 := Aside0.mk (below_step HB2.out hq)
  clear hq HB2
  have Z2 := Aside0.mk z2
  have Z3 := Aside0.mk z3
  clear z2 z3
  go_wp2_with fail
  refine (plus_calls x1 z1 X2.out Z2.out _).mono ?_
  rintro e w4 ⟨l, C, rfl, l1, hP, hq⟩
  have HB4 := Aside0.mk (below_step HB3.out hq)
  clear hq HB3
  have HP := Aside0.mk hP
  clear hP
  go_wp2_with fail
  refine (number_calls l1 HP.out.1 _).mono ?_
  rintro e w5 ⟨rfl, hq⟩
  have HB5 := Aside0.mk (below_step HB4.out hq)
  clear hq HB4
  go_wp2_with fail
  go_ret
  refine ⟨?_, HB5.out⟩
  have e1 : wrap61 (val l : Int) = wrap61 (a - b) := by
    have h1 := HP.out.done l1 x1 z1
    have h2 := Y3.out
    have h3 := Z3.out
    have h4 := X3.out
    apply wrap61_mod; omega
  rw [← e1]; rfl

end Go.Proofs.Ytpjcheenihlagaa.Fl
