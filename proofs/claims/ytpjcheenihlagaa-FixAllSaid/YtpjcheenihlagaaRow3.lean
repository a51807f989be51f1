/- The reference's rows of 61 bits: row (walk). No conditions beyond those in each lemma. -/
import Derived.Test.YtpjcheenihlagaaRow2
import Derived.Test.YtpjcheenihlagaaRx9
namespace Go.Proofs.Ytpjcheenihlagaa.Fl
open Go.RowKit Hf Ieee
open Go.Proofs.Ytpjcheenihlagaa.PFixAll Go.Proofs.YtpjcheenihlagaaW.PrintWords Go.Proofs.YtpjcheenihlagaaW.PrintLast Go.Proofs.YtpjcheenihlagaaW.PrintMore

theorem RowAt.done {neg : Bool} {m : Nat} {p : List Int} {V v : Int} (h : RowAt neg m p V) (hp : p.length = 61) (hm : m < 1152921504606846976) (hv : wrap61 v = if neg then -((m : Int) + 1) else (m : Int)) :
    (val p : Int) = v % 2305843009213693952 := by
  obtain ⟨_, _, h3⟩ := h
  rw [hp, show (2 : Nat) ^ 61 = 2305843009213693952 by decide, Nat.mod_eq_of_lt (by omega)] at h3
  unfold wrap61 at hv
  rw [h3]
  cases neg
  · simp only [Bool.false_eq_true, if_false] at *; omega
  · simp only [if_true] at *; omega

set_option maxHeartbeats 8000000 in
set_option maxRecDepth 100000 in
theorem row_calls {v : Int} (hv : Fits v) (w : World) :
    Calls Try.prog 73 #[.int .i64 v] w fun e w' => ∃ l, e = .returned (.agg (cellsOf l)) ∧ l.length = 61 ∧ Bits l ∧ (val l : Int) = v % 2305843009213693952 ∧ Below w.heap.size w w' := by
  have hu55 := Try.underlying55
  have hbd := wrap61_bd v
  have hW1 := rWrap_f hv
  have cW := fun w => hearthref1_Wrap.calls v (wrap61 v) w hW1
  clear hW1
  generalize hn : wrap61 v = n at *
  by_cases c : n < 0
  · obtain ⟨m, hm⟩ : ∃ m : Nat, (m : Int) = -(n + 1) := ⟨(-(n + 1)).toNat, by omega⟩
    have hV : wrap64 (-(wrap64 (n + 1))) = (m : Int) := by
      rw [wrap_id (a := n + 1) (by unfold Fits; omega), wrap_id (by unfold Fits; omega)]; omega
    have hv2 : wrap61 v = if true then -((m : Int) + 1) else (m : Int) := by rw [hn]; simp only [if_true]; omega
    have cb : decide (n < 0) = true := decide_eq_true c
    have hm2 : m < 1152921504606846976 := by omega
    clear hn hm hbd c
    have hV' := Aside0.mk hV
    clear hV
    go_enter Try.func73, Try.ntmps73
    go_wp2_with fail
    refine (cW _).mono ?_
    rintro e w1 ⟨rfl, hd⟩
    obtain ⟨nd, rfl⟩ := hd
    go_wp2
    rw [hV'.out]
    go_loopg [0, 5] 61 (fun kq v0 v5 wr => ∃ (p : List Int) (V : Int), v0 = .int .i64 V ∧ v5 = .int .i64 (p.length : Int) ∧ p.length + kq = 61 ∧ Aside0 (RowAt true m p V) ∧
      Aside0 (wr.heap[w.heap.size]? = some (.cells (cellsOf (List.replicate 61 0)) 55 (0, 0))) ∧ Aside0 (wr.heap[w.heap.size + 1]? = some (.cells (cellsOf (setAt p kq)) 55 (0, 0))) ∧ Aside0 (Below w.heap.size w wr))
    case atStart =>
      refine ⟨[], m, rfl, rfl, rfl, ⟨Bits.nil, by simp, by simp [val, Nat.mod_one]⟩, ⟨?_⟩, ⟨?_⟩, ⟨?_⟩⟩
      · exact blk_drewN (blk_alloc (blk_new w (Obj.cells (cellsOf (List.replicate 61 0)) 55)) _) _
      · have := blk_new (w.alloc (Obj.cells (cellsOf (List.replicate 61 0)) 55)) (Obj.cells (cellsOf (List.replicate 61 0)) 55)
        rw [World.size_alloc] at this
        exact blk_drewN this _
      · exact pw_below_drewN (below_alloc (below_alloc (Below.refl _ _) _) _) _
    case round =>
      obtain ⟨p, V, rfl, rfl, hk, hP, hR, hL, hW⟩ := hrel
      cases gk with
      | zero =>
        have hp : p.length = 61 := by omega
        have hl55 : (setAt p 0).length = 61 := by rw [setAt_length]; omega
        have hP2 := hP.out
        rw [hp]
        clear hP
        go_wp2_with (first
          | (refine wpList_load_row rfl 55 (.tmp 3) rfl (w.heap.size + 1) rfl 55 (cellsOf (setAt p 0)) (0, 0) (.array 61 3) hL.out Try.underlying55 rfl (size55 _ hl55) ?_)
          | (refine wpList_store_row rfl 55 (.tmp 2) (.tmp 31) rfl w.heap.size (cellsOf (setAt p 0)) rfl rfl 55 (cellsOf (List.replicate 61 0)) hR.out (size55 _ hl55) (by rw [cellsOf_size, cellsOf_size, hl55]; rfl) (one55 _) ?_))
        refine bodyPost_ret (results_cell_row rfl _ _ w.heap.size 55 (cellsOf (setAt p 0)) (0, 0) (.array 61 3) rfl (setRow_heap _ _ _ _ _ _ hR.out) Try.underlying55 rfl (size55 _ hl55)) rfl ?_
        exact ⟨p, by rw [setAt_done], hp, hP2.1, hP2.done hp hm2 hv2, below_setRow hW.out (by omega) _⟩
      | succ k1 =>
        have hlt : (p.length : Int) < 61 := by omega
        have hnl : p.length < (setAt p (k1 + 1)).length := by rw [setAt_length]; omega
        have hcl := (blk_cell hL.out p.length).trans (cellsOf_get hnl)
        have hfl := blk_frozen hL.out p.length
        have hst := Aside0.mk (RowAt.step (by omega : m < 2305843009213693952) hP.out)
        obtain ⟨z, hz⟩ : ∃ z, z = (setAt p (k1 + 1)).getD p.length 0 := ⟨_, rfl⟩
        rw [← hz] at hcl
        clear hz hP cb
        go_wp2
        go_roundg k1
        case measure => omega
        case rel =>
          have hlen : ∀ v : Int, (p ++ [v]).length = p.length + 1 := fun v => by simp
          refine ⟨p ++ [if true = true then wrap64 (1 - Int.tmod V 2) else Int.tmod V 2], _, rfl, ?_, ?_, hst, ?_, ?_, ?_⟩
          · rw [hlen]; rfl
          · rw [hlen]; omega
          · exact ⟨blk_far (blk_far hR.out (by simp) _) (by simp) _⟩
          · exact ⟨blk_put (blk_set hL.out p.length _) p.length _ (by rw [cellsOf_set, cellsOf_set, List.set_set, setAt_set]; rfl)⟩
          · exact ⟨by refine below_set (below_set hW.out (by omega)) (by omega)⟩
  · obtain ⟨m, hm⟩ : ∃ m : Nat, (m : Int) = n := ⟨n.toNat, by omega⟩
    have hV : n = (m : Int) := hm.symm
    have hv2 : wrap61 v = if false then -((m : Int) + 1) else (m : Int) := by rw [hn]; simp only [Bool.false_eq_true, if_false]; omega
    have cb : decide (n < 0) = false := decide_eq_false c
    have hm2 : m < 1152921504606846976 := by omega
    clear hn hm hbd c
    have hV' := Aside0.mk hV
    clear hV
    go_enter Try.func73, Try.ntmps73
    go_wp2_with fail
    refine (cW _).mono ?_
    rintro e w1 ⟨rfl, hd⟩
    obtain ⟨nd, rfl⟩ := hd
    go_wp2
    rw [hV'.out]
    go_loopg [0, 5] 61 (fun kq v0 v5 wr => ∃ (p : List Int) (V : Int), v0 = .int .i64 V ∧ v5 = .int .i64 (p.length : Int) ∧ p.length + kq = 61 ∧ Aside0 (RowAt false m p V) ∧
      Aside0 (wr.heap[w.heap.size]? = some (.cells (cellsOf (List.replicate 61 0)) 55 (0, 0))) ∧ Aside0 (wr.heap[w.heap.size + 1]? = some (.cells (cellsOf (setAt p kq)) 55 (0, 0))) ∧ Aside0 (Below w.heap.size w wr))
    case atStart =>
      refine ⟨[], m, rfl, rfl, rfl, ⟨Bits.nil, by simp, by simp [val, Nat.mod_one]⟩, ⟨?_⟩, ⟨?_⟩, ⟨?_⟩⟩
      · exact blk_drewN (blk_alloc (blk_new w (Obj.cells (cellsOf (List.replicate 61 0)) 55)) _) _
      · have := blk_new (w.alloc (Obj.cells (cellsOf (List.replicate 61 0)) 55)) (Obj.cells (cellsOf (List.replicate 61 0)) 55)
        rw [World.size_alloc] at this
        exact blk_drewN this _
      · exact pw_below_drewN (below_alloc (below_alloc (Below.refl _ _) _) _) _
    case round =>
      obtain ⟨p, V, rfl, rfl, hk, hP, hR, hL, hW⟩ := hrel
      cases gk with
      | zero =>
        have hp : p.length = 61 := by omega
        have hl55 : (setAt p 0).length = 61 := by rw [setAt_length]; omega
        have hP2 := hP.out
        rw [hp]
        clear hP
        go_wp2_with (first
          | (refine wpList_load_row rfl 55 (.tmp 3) rfl (w.heap.size + 1) rfl 55 (cellsOf (setAt p 0)) (0, 0) (.array 61 3) hL.out Try.underlying55 rfl (size55 _ hl55) ?_)
          | (refine wpList_store_row rfl 55 (.tmp 2) (.tmp 31) rfl w.heap.size (cellsOf (setAt p 0)) rfl rfl 55 (cellsOf (List.replicate 61 0)) hR.out (size55 _ hl55) (by rw [cellsOf_size, cellsOf_size, hl55]; rfl) (one55 _) ?_))
        refine bodyPost_ret (results_cell_row rfl _ _ w.heap.size 55 (cellsOf (setAt p 0)) (0, 0) (.array 61 3) rfl (setRow_heap _ _ _ _ _ _ hR.out) Try.underlying55 rfl (size55 _ hl55)) rfl ?_
        exact ⟨p, by rw [setAt_done], hp, hP2.1, hP2.done hp hm2 hv2, below_setRow hW.out (by omega) _⟩
      | succ k1 =>
        have hlt : (p.length : Int) < 61 := by omega
        have hnl : p.length < (setAt p (k1 + 1)).length := by rw [setAt_length]; omega
        have hcl := (blk_cell hL.out p.length).trans (cellsOf_get hnl)
        have hfl := blk_frozen hL.out p.length
        have hst := Aside0.mk (RowAt.step (by omega : m < 2305843009213693952) hP.out)
        obtain ⟨z, hz⟩ : ∃ z, z = (setAt p (k1 + 1)).getD p.length 0 := ⟨_, rfl⟩
        rw [← hz] at hcl
        clear hz hP cb
        go_wp2
        go_roundg k1
        case measure => omega
        case rel =>
          have hlen : ∀ v : Int, (p ++ [v]).length = p.length + 1 := fun v => by simp
          refine ⟨p ++ [if false = true then wrap64 (1 - Int.tmod V 2) else Int.tmod V 2], _, rfl, ?_, ?_, hst, ?_, ?_, ?_⟩
          · rw [hlen]; rfl
          · rw [hlen]; omega
          · exact ⟨blk_far hR.out (by simp) _⟩
          · exact ⟨blk_put hL.out p.length _ (by rw [cellsOf_set, setAt_set]; rfl)⟩
          · exact ⟨below_set hW.out (by omega)⟩

end Go.Proofs.Ytpjcheenihlagaa.Fl
