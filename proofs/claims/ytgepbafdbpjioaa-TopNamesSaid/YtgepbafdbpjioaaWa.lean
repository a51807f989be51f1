/- The walk of TopNames. No conditions. -/
import Derived.Test.YtgepbafdbpjioaaProg
import Derived.WalkKit
import Derived.Below
import Derived.Deep.LoopGhost
import Derived.Deep.QuietTactic
import Derived.BigQuiet
import Derived.RowKit
import Derived.Lib.Hide
namespace Go.Proofs.Ytgepbafdbpjioaa.Nm
open Go.RowKit

/-- The cells of a list of pairs of equal numbers. -/
def dbl (l : List Int) : List Value := l.flatMap fun x => [.int .i64 x, .int .i64 x]

theorem dbl_get : ∀ (l : List Int) (i : Nat), i < l.length → (dbl l)[i * 2]? = some (.int .i64 (l.getD i 0)) ∧ (dbl l)[i * 2 + 1]? = some (.int .i64 (l.getD i 0))
  | [], i, h => by simp at h
  | x :: l, 0, _ => ⟨rfl, rfl⟩
  | x :: l, i + 1, h => by
    have ih := dbl_get l i (by simpa using h)
    have e : dbl (x :: l) = .int .i64 x :: .int .i64 x :: dbl l := rfl
    rw [e, show (i + 1) * 2 = i * 2 + 1 + 1 by omega, List.getElem?_cons_succ, List.getElem?_cons_succ, List.getElem?_cons_succ, List.getElem?_cons_succ, List.getD_cons_succ]
    exact ih

set_option maxHeartbeats 8000000 in
set_option maxRecDepth 100000 in
theorem are_b (l : List Int) (b : Nat) (hl : l.length ≤ 1000) (w : World) (h : w.heap[b]? = some (.cells (dbl l).toArray 24 (0, 0))) :
    Calls Try.prog 9 #[.slice (some ⟨b, 0, none⟩) l.length l.length] w fun e w' => e = .returned (.bool true) ∧ Below w.heap.size w w' := by
  have hc : ∀ i, i < l.length → w.cell? ⟨b, i * 2, none⟩ = some (.int .i64 (l.getD i 0)) ∧ w.cell? ⟨b, i * 2 + 1, none⟩ = some (.int .i64 (l.getD i 0)) := by
    intro i hi
    obtain ⟨h1, h2⟩ := dbl_get l i hi
    have e : ∀ j, w.cell? ⟨b, j, none⟩ = (dbl l)[j]? := fun j => by rw [cell_of_row w b j _ 24 (0, 0) h]; simp
    rw [e, e]; exact ⟨h1, h2⟩
  have HC := Lib.hid hc
  clear hc h
  go_enter Try.func9, Try.ntmps9
  go_wp2_with fail
  go_loopg [3] l.length (fun kq v3 wr => ∃ (i : Nat), v3 = .int .i64 (i : Int) ∧ i + kq = l.length ∧ Hid (Below w.heap.size w wr))
  case atStart => exact ⟨0, rfl, by omega, Lib.hid (Below.refl _ _)⟩
  case round =>
    obtain ⟨i, rfl, hk, HB⟩ := hrel
    cases gk with
    | zero =>
      obtain rfl : i = l.length := by omega
      go_wp2
      go_ret
      exact ⟨rfl, HB.out⟩
    | succ k1 =>
      have hi : i < l.length := by omega
      have hi2 : (i : Int) < (l.length : Int) := by omega
      obtain ⟨x0', x1'⟩ := HC.out i hi
      have x0 : wr.cell? ⟨b, i * 2, none⟩ = some (.int .i64 (l.getD i 0)) := (HB.out.cell (World.block_lt_of_cell? w _ x0')).trans x0'
      have x1 : wr.cell? ⟨b, i * 2 + 1, none⟩ = some (.int .i64 (l.getD i 0)) := (HB.out.cell (World.block_lt_of_cell? w _ x1')).trans x1'
      clear x0' x1'
      generalize l.getD i 0 = z at x0 x1
      go_wp2
      go_quiet (fail)
      go_wp2
      go_roundg k1
      case measure => omega
      case rel => exact ⟨i + 1, by go_num, by omega, Lib.hid ⟨HB.out.os, HB.out.tape, HB.out.output, HB.out.size, HB.out.block⟩⟩

-- the five
def errorsL : List Int := [0, 1, 2, 10, 20, 21, 22, 23, 24, 30, 31, 32, 33, 40, 60, 61, 62, 70, 71, 72, 73, 74, 75, 76, 77, 80, 81, 82, 83, 84, 85, 86, 87, 88, 90, 100]
set_option maxHeartbeats 8000000 in
set_option maxRecDepth 100000 in
theorem errors_b (w : World) : Calls Try.prog 4 #[] w fun e w' => e = .returned (.bool true) ∧ Below w.heap.size w w' := by
  have c : Calls Try.prog 9 #[.slice (some ⟨w.heap.size, 0, none⟩) 36 36] (w.alloc (Obj.cells (dbl errorsL).toArray 24)) fun e w' => e = .returned (.bool true) ∧ Below (w.alloc (Obj.cells (dbl errorsL).toArray 24)).heap.size (w.alloc (Obj.cells (dbl errorsL).toArray 24)) w' :=
    are_b errorsL w.heap.size (by decide) _ (heap_alloc_new w _)
  have C := Lib.hid c
  clear c
  have HB := Lib.hid ((Below.refl w.heap.size w).alloc (Nat.le_refl _) (Obj.cells (dbl errorsL).toArray 24))
  go_enter Try.func4, Try.ntmps4
  go_wp2_with fail
  refine C.out.mono ?_
  rintro e w1 ⟨rfl, hq⟩
  have HB1 := Lib.hid (HB.out.trans (hq.mono HB.out.size))
  clear hq HB C
  go_wp2_with fail
  go_ret
  exact ⟨rfl, HB1.out⟩

def limitsL : List Int := [64, 4096, 1024, 1023, 4096, 262144, 512, 65536, 64, 64, 64, 8, 64, 64, 64, 4096, 1099511627776, 65536, 500, 65536, 65536, 1048576, 100000, 1152921504606846975, -1152921504606846976]
set_option maxHeartbeats 8000000 in
set_option maxRecDepth 100000 in
theorem limits_b (w : World) : Calls Try.prog 5 #[] w fun e w' => e = .returned (.bool true) ∧ Below w.heap.size w w' := by
  have c : Calls Try.prog 9 #[.slice (some ⟨w.heap.size, 0, none⟩) 25 25] (w.alloc (Obj.cells (dbl limitsL).toArray 24)) fun e w' => e = .returned (.bool true) ∧ Below (w.alloc (Obj.cells (dbl limitsL).toArray 24)).heap.size (w.alloc (Obj.cells (dbl limitsL).toArray 24)) w' :=
    are_b limitsL w.heap.size (by decide) _ (heap_alloc_new w _)
  have C := Lib.hid c
  clear c
  have HB := Lib.hid ((Below.refl w.heap.size w).alloc (Nat.le_refl _) (Obj.cells (dbl limitsL).toArray 24))
  go_enter Try.func5, Try.ntmps5
  go_wp2_with fail
  refine C.out.mono ?_
  rintro e w1 ⟨rfl, hq⟩
  have HB1 := Lib.hid (HB.out.trans (hq.mono HB.out.size))
  clear hq HB C
  go_wp2_with fail
  go_ret
  exact ⟨rfl, HB1.out⟩

def kindsL : List Int := [1, 2, 3, 4, 0, 1, 2, 3, 4, 5, 1, 2, 3, 4, 5, 6, 7, 8, 9, 10, 11, 12, 13, 1, 2, 3, 4, 5, 6, 7, 8, 9, 0, 1, 2, 3, 1, 2, 3, 4, 5, 6, 7]
set_option maxHeartbeats 8000000 in
set_option maxRecDepth 100000 in
theorem kinds_b (w : World) : Calls Try.prog 6 #[] w fun e w' => e = .returned (.bool true) ∧ Below w.heap.size w w' := by
  have c : Calls Try.prog 9 #[.slice (some ⟨w.heap.size, 0, none⟩) 43 43] (w.alloc (Obj.cells (dbl kindsL).toArray 24)) fun e w' => e = .returned (.bool true) ∧ Below (w.alloc (Obj.cells (dbl kindsL).toArray 24)).heap.size (w.alloc (Obj.cells (dbl kindsL).toArray 24)) w' :=
    are_b kindsL w.heap.size (by decide) _ (heap_alloc_new w _)
  have C := Lib.hid c
  clear c
  have HB := Lib.hid ((Below.refl w.heap.size w).alloc (Nat.le_refl _) (Obj.cells (dbl kindsL).toArray 24))
  go_enter Try.func6, Try.ntmps6
  go_wp2_with fail
  refine C.out.mono ?_
  rintro e w1 ⟨rfl, hq⟩
  have HB1 := Lib.hid (HB.out.trans (hq.mono HB.out.size))
  clear hq HB C
  go_wp2_with fail
  go_ret
  exact ⟨rfl, HB1.out⟩

def endsL : List Int := [0, 1, 2, 3, 4, 5, 6, 0, 1, 2]
set_option maxHeartbeats 8000000 in
set_option maxRecDepth 100000 in
theorem ends_b (w : World) : Calls Try.prog 8 #[] w fun e w' => e = .returned (.bool true) ∧ Below w.heap.size w w' := by
  have c : Calls Try.prog 9 #[.slice (some ⟨w.heap.size, 0, none⟩) 10 10] (w.alloc (Obj.cells (dbl endsL).toArray 24)) fun e w' => e = .returned (.bool true) ∧ Below (w.alloc (Obj.cells (dbl endsL).toArray 24)).heap.size (w.alloc (Obj.cells (dbl endsL).toArray 24)) w' :=
    are_b endsL w.heap.size (by decide) _ (heap_alloc_new w _)
  have C := Lib.hid c
  clear c
  have HB := Lib.hid ((Below.refl w.heap.size w).alloc (Nat.le_refl _) (Obj.cells (dbl endsL).toArray 24))
  go_enter Try.func8, Try.ntmps8
  go_wp2_with fail
  refine C.out.mono ?_
  rintro e w1 ⟨rfl, hq⟩
  have HB1 := Lib.hid (HB.out.trans (hq.mono HB.out.size))
  clear hq HB C
  go_wp2_with fail
  go_ret
  exact ⟨rfl, HB1.out⟩

end Go.Proofs.Ytgepbafdbpjioaa.Nm
