/- The walk of TopNames: the greatest of its lists, and all five. No conditions. -/
import Derived.Test.YtgepbafdbpjioaaWa
namespace Go.Proofs.Ytgepbafdbpjioaa.Nm
open Go.RowKit

theorem wp_val {P : Program} {o : Oper} {a : Act} {w : World} {K : Act → World → Prop} {Q : Exit → Act → World → Prop} (v : Value) (w' : World) (h : (execOp a.eval o).run P w = .ok (.value v) w') (hk : K (a.put o.dst v) w') : o.wp P a w K Q := by
  unfold Oper.wp; rw [h]; exact hk

def instructionsL : List Int := [1, 2, 3, 4, 5, 6, 7, 8, 9, 10, 11, 12, 13, 14, 15, 16, 17, 18, 19, 20, 21, 22, 30, 31, 32, 33, 34, 35, 36, 37, 38, 39, 40, 41, 42, 43, 44, 45, 46, 47, 48, 49, 50, 51, 52, 53, 54, 55, 56, 57, 58, 59, 60, 61, 62, 63, 64, 65, 66, 67, 68, 69, 70, 71, 72, 73, 74, 75]
set_option maxHeartbeats 8000000 in
set_option maxRecDepth 100000 in
theorem instructions_b (w : World) : Calls Try.prog 7 #[] w fun e w' => e = .returned (.bool true) ∧ Below w.heap.size w w' := by
  have c : Calls Try.prog 9 #[.slice (some ⟨w.heap.size, 0, none⟩) 68 68] (w.alloc (Obj.cells (dbl instructionsL).toArray 24)) fun e w' => e = .returned (.bool true) ∧ Below (w.alloc (Obj.cells (dbl instructionsL).toArray 24)).heap.size (w.alloc (Obj.cells (dbl instructionsL).toArray 24)) w' :=
    are_b instructionsL w.heap.size (by decide) _ (heap_alloc_new w _)
  have C := Lib.hid c
  clear c
  have HB := Lib.hid ((Below.refl w.heap.size w).alloc (Nat.le_refl _) (Obj.cells (dbl instructionsL).toArray 24))
  go_enter Try.func7, Try.ntmps7
  go_wp2_with fail
  refine wp_val (.slice (some ⟨w.heap.size, 0, none⟩) 68 68) (w.alloc (Obj.cells (dbl instructionsL).toArray 24)) (by kernel_rfl) ?_
  go_wp2_with fail
  refine C.out.mono ?_
  rintro e w1 ⟨rfl, hq⟩
  have HB1 := Lib.hid (HB.out.trans (hq.mono HB.out.size))
  clear hq HB C
  go_wp2_with fail
  go_ret
  exact ⟨rfl, HB1.out⟩

set_option maxHeartbeats 8000000 in
set_option maxRecDepth 100000 in
theorem TopNames_walk (w : World) : Calls Try.prog 3 #[] w fun e w' => e = .returned (.bool true) ∧ Below w.heap.size w w' := by
  have HB0 := Lib.hid (Below.refl w.heap.size w)
  go_enter Try.func3, Try.ntmps3
  go_wp2_with fail
  refine (errors_b _).mono ?_
  rintro e w1 ⟨rfl, hq⟩
  have HB1 := Lib.hid (HB0.out.trans (hq.mono HB0.out.size))
  clear hq HB0
  go_wp2_with fail
  refine (limits_b _).mono ?_
  rintro e w2 ⟨rfl, hq⟩
  have HB2 := Lib.hid (HB1.out.trans (hq.mono HB1.out.size))
  clear hq HB1
  go_wp2_with fail
  refine (kinds_b _).mono ?_
  rintro e w3 ⟨rfl, hq⟩
  have HB3 := Lib.hid (HB2.out.trans (hq.mono HB2.out.size))
  clear hq HB2
  go_wp2_with fail
  refine (instructions_b _).mono ?_
  rintro e w4 ⟨rfl, hq⟩
  have HB4 := Lib.hid (HB3.out.trans (hq.mono HB3.out.size))
  clear hq HB3
  go_wp2_with fail
  refine (ends_b _).mono ?_
  rintro e w5 ⟨rfl, hq⟩
  have HB5 := Lib.hid (HB4.out.trans (hq.mono HB4.out.size))
  clear hq HB4
  go_wp2_with fail
  go_ret
  exact ⟨rfl, HB5.out⟩

end Go.Proofs.Ytgepbafdbpjioaa.Nm
