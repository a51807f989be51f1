/- What functions of chapter 1 and of its reference come to, and that the Go text comes to it (after the kit's print; one walk turned). No conditions beyond those in each lemma. -/
import Derived.Test.YtpjcheenihlagaaBas
import Derived.Test.YtpjcheenihlagaaRx1
import Derived.Test.YtpjcheenihlagaaRx9
namespace Go.Proofs.Ytpjcheenihlagaa.PFixAll
open Go.RowKit Go.Proofs.YtpjcheenihlagaaW.PrintWords Go.Proofs.YtpjcheenihlagaaW.PrintLast Go.Proofs.YtpjcheenihlagaaW.PrintMore
attribute [local go_sem] max2_int min2_int max_two min_two max_three min_three max_four min_four   -- for this text's walks alone
set_option linter.unusedVariables false
set_option linter.unusedSimpArgs false

/-! ### hearthref1_ToFix: function 61 -/
mutual
def hearthref1_ToFix.j0 : Nat → Bool → Bool → Bool → Bool → Int → Int → Option (Int × Bool)
  | 0, _, _, _, _, _, _ => none
  | k + 1, x20, x257000, x257001, x257002, x257003, x257004 => if x20 = true then (some (0, false)) else (hearthref1_ToFix.l0 k x257003 0 x257000 x257001 x257002 x257003 x257004)
def hearthref1_ToFix.l0 : Nat → Int → Int → Bool → Bool → Bool → Int → Int → Option (Int × Bool)
  | 0, _, _, _, _, _, _, _ => none
  | k + 1, x5, x6, x257000, x257001, x257002, x257003, x257004 => if x6 < x257004 then (hearthref1_ToFix.l0 k (wrap64 (x5 + x5)) (wrap64 (x6 + 1)) x257000 x257001 x257002 x257003 x257004) else (hearthref1_ToFix.l1 k x5 0 x257000 x257001 x257002 x257003 x257004)
def hearthref1_ToFix.j3 : Nat → Int → Bool → Bool → Bool → Int → Int → Option (Int × Bool)
  | 0, _, _, _, _, _, _ => none
  | k + 1, x5, x257000, x257001, x257002, x257003, x257004 => if x257000 = true then ((hearthref1_Fits.f (wrap64 (-x5))).bind fun t257 => (if t257 = true then (some (wrap64 (-x5), true)) else (some (0, false)))) else ((hearthref1_Fits.f x5).bind fun t258 => (if t258 = true then (some (x5, true)) else (some (0, false))))
def hearthref1_ToFix.l1 : Nat → Int → Int → Bool → Bool → Bool → Int → Int → Option (Int × Bool)
  | 0, _, _, _, _, _, _, _ => none
  | k + 1, x5, x7, x257000, x257001, x257002, x257003, x257004 => if x7 > x257004 then (if x5 > 0 then (hearthref1_ToFix.l1 k (wrap64 (Int.tdiv x5 2)) (wrap64 (x7 - 1)) x257000 x257001 x257002 x257003 x257004) else (hearthref1_ToFix.j3 k x5 x257000 x257001 x257002 x257003 x257004)) else (hearthref1_ToFix.j3 k x5 x257000 x257001 x257002 x257003 x257004)
end
def hearthref1_ToFix.f (k : Nat) (a0 : Int) : Option (Int × Bool) := (hearthref1_Parts.f k a0).bind fun bt251 => (if bt251.2.2.1 = true then (hearthref1_ToFix.j0 k true bt251.1 bt251.2.1 bt251.2.2.1 bt251.2.2.2.1 bt251.2.2.2.2) else (if bt251.2.1 = true then (hearthref1_ToFix.j0 k true bt251.1 bt251.2.1 bt251.2.2.1 bt251.2.2.2.1 bt251.2.2.2.2) else (hearthref1_ToFix.j0 k (decide (bt251.2.2.2.2 > 8)) bt251.1 bt251.2.1 bt251.2.2.1 bt251.2.2.2.1 bt251.2.2.2.2)))
theorem hearthref1_ToFix.mono_l : ∀ k, (∀ y0 y1 y2 y3 y4 y5, LeO (hearthref1_ToFix.j0 k y0 y1 y2 y3 y4 y5) (hearthref1_ToFix.j0 (k + 1) y0 y1 y2 y3 y4 y5)) ∧ (∀ y0 y1 y2 y3 y4 y5 y6, LeO (hearthref1_ToFix.l0 k y0 y1 y2 y3 y4 y5 y6) (hearthref1_ToFix.l0 (k + 1) y0 y1 y2 y3 y4 y5 y6)) ∧ (∀ y0 y1 y2 y3 y4 y5, LeO (hearthref1_ToFix.j3 k y0 y1 y2 y3 y4 y5) (hearthref1_ToFix.j3 (k + 1) y0 y1 y2 y3 y4 y5)) ∧ (∀ y0 y1 y2 y3 y4 y5 y6, LeO (hearthref1_ToFix.l1 k y0 y1 y2 y3 y4 y5 y6) (hearthref1_ToFix.l1 (k + 1) y0 y1 y2 y3 y4 y5 y6))
  | 0 => ⟨fun _ _ _ _ _ _ r h => by simp [hearthref1_ToFix.j0] at h, fun _ _ _ _ _ _ _ r h => by simp [hearthref1_ToFix.l0] at h, fun _ _ _ _ _ _ r h => by simp [hearthref1_ToFix.j3] at h, fun _ _ _ _ _ _ _ r h => by simp [hearthref1_ToFix.l1] at h⟩
  | k + 1 => by
    obtain ⟨ih0, ih1, ih2, ih3⟩ := hearthref1_ToFix.mono_l k
    refine ⟨?_, ?_, ?_, ?_⟩
    · intro y0 y1 y2 y3 y4 y5
      unfold hearthref1_ToFix.j0
      repeat' first
      | (with_reducible exact ih0 _ _ _ _ _ _)
      | (with_reducible exact ih1 _ _ _ _ _ _ _)
      | (with_reducible exact ih2 _ _ _ _ _ _)
      | (with_reducible exact ih3 _ _ _ _ _ _ _)
      | (with_reducible exact hearthref1_Parts.mono _ _)
      | (with_reducible exact LeO.refl _)
      | (with_reducible exact LeO.none _)
      | (with_reducible refine LeO.ite ?_ ?_)
      | (with_reducible refine LeO.bind ?_ (fun _ => ?_))
      | exact ih0 _ _ _ _ _ _
      | exact ih1 _ _ _ _ _ _ _
      | exact ih2 _ _ _ _ _ _
      | exact ih3 _ _ _ _ _ _ _
      | exact hearthref1_Parts.mono _ _
      | exact LeO.none _
      | refine LeO.ite ?_ ?_
      | refine LeO.bind ?_ (fun _ => ?_)
    · intro y0 y1 y2 y3 y4 y5 y6
      unfold hearthref1_ToFix.l0
      repeat' first
      | (with_reducible exact ih0 _ _ _ _ _ _)
      | (with_reducible exact ih1 _ _ _ _ _ _ _)
      | (with_reducible exact ih2 _ _ _ _ _ _)
      | (with_reducible exact ih3 _ _ _ _ _ _ _)
      | (with_reducible exact hearthref1_Parts.mono _ _)
      | (with_reducible exact LeO.refl _)
      | (with_reducible exact LeO.none _)
      | (with_reducible refine LeO.ite ?_ ?_)
      | (with_reducible refine LeO.bind ?_ (fun _ => ?_))
      | exact ih0 _ _ _ _ _ _
      | exact ih1 _ _ _ _ _ _ _
      | exact ih2 _ _ _ _ _ _
      | exact ih3 _ _ _ _ _ _ _
      | exact hearthref1_Parts.mono _ _
      | exact LeO.none _
      | refine LeO.ite ?_ ?_
      | refine LeO.bind ?_ (fun _ => ?_)
    · intro y0 y1 y2 y3 y4 y5
      unfold hearthref1_ToFix.j3
      repeat' first
      | (with_reducible exact ih0 _ _ _ _ _ _)
      | (with_reducible exact ih1 _ _ _ _ _ _ _)
      | (with_reducible exact ih2 _ _ _ _ _ _)
      | (with_reducible exact ih3 _ _ _ _ _ _ _)
      | (with_reducible exact hearthref1_Parts.mono _ _)
      | (with_reducible exact LeO.refl _)
      | (with_reducible exact LeO.none _)
      | (with_reducible refine LeO.ite ?_ ?_)
      | (with_reducible refine LeO.bind ?_ (fun _ => ?_))
      | exact ih0 _ _ _ _ _ _
      | exact ih1 _ _ _ _ _ _ _
      | exact ih2 _ _ _ _ _ _
      | exact ih3 _ _ _ _ _ _ _
      | exact hearthref1_Parts.mono _ _
      | exact LeO.none _
      | refine LeO.ite ?_ ?_
      | refine LeO.bind ?_ (fun _ => ?_)
    · intro y0 y1 y2 y3 y4 y5 y6
      unfold hearthref1_ToFix.l1
      repeat' first
      | (with_reducible exact ih0 _ _ _ _ _ _)
      | (with_reducible exact ih1 _ _ _ _ _ _ _)
      | (with_reducible exact ih2 _ _ _ _ _ _)
      | (with_reducible exact ih3 _ _ _ _ _ _ _)
      | (with_reducible exact hearthref1_Parts.mono _ _)
      | (with_reducible exact LeO.refl _)
      | (with_reducible exact LeO.none _)
      | (with_reducible refine LeO.ite ?_ ?_)
      | (with_reducible refine LeO.bind ?_ (fun _ => ?_))
      | exact ih0 _ _ _ _ _ _
      | exact ih1 _ _ _ _ _ _ _
      | exact ih2 _ _ _ _ _ _
      | exact ih3 _ _ _ _ _ _ _
      | exact hearthref1_Parts.mono _ _
      | exact LeO.none _
      | refine LeO.ite ?_ ?_
      | refine LeO.bind ?_ (fun _ => ?_)
theorem hearthref1_ToFix.mono : ∀ a0 k, LeO (hearthref1_ToFix.f k a0) (hearthref1_ToFix.f (k + 1) a0) := by
  intro a0 k
  obtain ⟨ih0, ih1, ih2, ih3⟩ := hearthref1_ToFix.mono_l k
  unfold hearthref1_ToFix.f
  repeat' first
      | (with_reducible exact ih0 _ _ _ _ _ _)
      | (with_reducible exact ih1 _ _ _ _ _ _ _)
      | (with_reducible exact ih2 _ _ _ _ _ _)
      | (with_reducible exact ih3 _ _ _ _ _ _ _)
      | (with_reducible exact hearthref1_Parts.mono _ _)
      | (with_reducible exact LeO.refl _)
      | (with_reducible exact LeO.none _)
      | (with_reducible refine LeO.ite ?_ ?_)
      | (with_reducible refine LeO.bind ?_ (fun _ => ?_))
      | exact ih0 _ _ _ _ _ _
      | exact ih1 _ _ _ _ _ _ _
      | exact ih2 _ _ _ _ _ _
      | exact ih3 _ _ _ _ _ _ _
      | exact hearthref1_Parts.mono _ _
      | exact LeO.none _
      | refine LeO.ite ?_ ?_
      | refine LeO.bind ?_ (fun _ => ?_)
set_option maxHeartbeats 8000000 in
set_option maxRecDepth 100000 in
theorem hearthref1_ToFix.calls (k : Nat) (a0 : Int) (r1 : Int) (r2 : Bool) (w : World) (h : hearthref1_ToFix.f k a0 = some (r1, r2)) :
    Calls Try.prog 61 #[.int .i64 a0] w fun e w' => e = .returned (.tuple #[.int .i64 r1, .bool r2]) ∧ Below w.heap.size w w' := by
  have hu40 := Try.underlying40
  have HB := Aside0.mk (Below.refl w.heap.size w)
  have H : ((hearthref1_Parts.f k a0).bind fun bt251 => (if bt251.2.2.1 = true then (hearthref1_ToFix.j0 k true bt251.1 bt251.2.1 bt251.2.2.1 bt251.2.2.2.1 bt251.2.2.2.2) else (if bt251.2.1 = true then (hearthref1_ToFix.j0 k true bt251.1 bt251.2.1 bt251.2.2.1 bt251.2.2.2.1 bt251.2.2.2.2) else (hearthref1_ToFix.j0 k (decide (bt251.2.2.2.2 > 8)) bt251.1 bt251.2.1 bt251.2.2.1 bt251.2.2.2.1 bt251.2.2.2.2)))) = some (r1, r2) := h
  clear h
  replace H := Option.bind_eq_some_iff.mp H
  obtain ⟨⟨t251, t252, t253, t254, t255⟩, A20, H⟩ := H
  replace H : (if t253 = true then (hearthref1_ToFix.j0 k true t251 t252 t253 t254 t255) else (if t252 = true then (hearthref1_ToFix.j0 k true t251 t252 t253 t254 t255) else (hearthref1_ToFix.j0 k (decide (t255 > 8)) t251 t252 t253 t254 t255))) = some (r1, r2) := H
  have A2 := Aside0.mk A20
  clear A20
  have HC3 := Aside0.mk H
  clear H
  go_enter Try.func61, Try.ntmps61
  go_upto_region 2 with (first | ((with_reducible refine gate_callee (f := 51) rfl ?_); refine goesL_ (some 9) rfl rfl Try.func51 (by kernel_rfl) rfl #[.int .i64 a0] rfl (by (try simp only [List.map_toArray, List.map_cons, List.map_nil]); first | done | rfl | (simp only [List.length_drop, List.length_take]; rfl)) ?_; (with_reducible refine (hearthref1_Parts.calls k a0 t251 t252 t253 t254 t255 _ A2.out).mono ?_); rintro e w4 ⟨rfl, hb⟩; refine ⟨_, rfl, ?_⟩; have n0_ := Aside0.mk (below_step (by repeat (first | (with_reducible first | exact HB.out | apply below_alloc | apply pw_below_drewN | apply below_drew1) | exact HB.out)) hb); clear HB; have HB := n0_; clear n0_; (try clear hb); (try clear hb2); (try clear hk); (try clear hi)) | ((with_reducible refine gate_dst (N := 4) rfl ?_); refine box_event ?hg (N := 4) ?hd (cs := #[.bool false, .bool false, .bool false, .int .i64 0, .int .i64 0]) (t := 40) ?hr ?_; (case hd => rfl); (case hg => rfl); (case hr => first | (go_simp; done) | (go_simp; rfl)); intro gb256 hg w5 hbox hb; have n0_ := Aside0.mk (below_step (by repeat (first | (with_reducible first | exact HB.out | apply below_alloc | apply pw_below_drewN | apply below_drew1) | exact HB.out)) hb); have n1_ := Aside0.mk (hbox); have n2_ := Aside0.mk ((by rw [hg]; exact (below_size (by repeat (first | (with_reducible first | exact HB.out | apply below_alloc | apply pw_below_drewN | apply below_drew1) | exact HB.out))) : w.heap.size ≤ gb256)); have n3_ := Aside0.mk ((by rw [hg]; exact (below_size (by repeat (first | (with_reducible first | exact HB.out | apply below_alloc | apply pw_below_drewN | apply below_drew1) | exact HB.out))) : w.heap.size ≤ gb256)); clear HB; have HB := n0_; have BK256 := n1_; have GW256 := n2_; have GE256 := n3_; clear n0_ n1_ n2_ n3_; clear hb hbox hg; have hcz6_0 : w5.cell? ⟨gb256, 0, none⟩ = some (.bool false) := (blk_cell BK256.out 0).trans rfl; have hcz6_1 : w5.cell? ⟨gb256, 1, none⟩ = some (.bool false) := (blk_cell BK256.out 1).trans rfl; have hcz6_2 : w5.cell? ⟨gb256, 2, none⟩ = some (.bool false) := (blk_cell BK256.out 2).trans rfl; have hcz6_3 : w5.cell? ⟨gb256, 3, none⟩ = some (.int .i64 0) := (blk_cell BK256.out 3).trans rfl; have hcz6_4 : w5.cell? ⟨gb256, 4, none⟩ = some (.int .i64 0) := (blk_cell BK256.out 4).trans rfl; have hfz6_0 := blk_frozen BK256.out 0; have hfz6_1 := blk_frozen BK256.out 1; have hfz6_2 := blk_frozen BK256.out 2; have hfz6_3 := blk_frozen BK256.out 3; have hfz6_4 := blk_frozen BK256.out 4))
  (try simp only [Act.put, List.setIfInBounds_toArray, List.set_cons_zero, List.set_cons_succ])
  go_cut [20] (fun v20 wc => ∃ (kq : Nat) (x20_2 : Bool), v20 = .bool x20_2 ∧ Aside0 (hearthref1_ToFix.j0 kq x20_2 t251 t252 t253 t254 t255 = some (r1, r2)) ∧ Aside0 (kq ≤ k) ∧ Aside0 (wc.heap[gb256]? = some (.cells #[.bool t251, .bool t252, .bool t253, .int .i64 t254, .int .i64 t255] 40 (0, 0))) ∧ Aside0 (Below w.heap.size w wc))
  case first =>
    have H := HC3.out
    clear HC3
    by_cases c7 : t253 = true
    · subst c7
      have H1 : (hearthref1_ToFix.j0 k true t251 t252 true t254 t255) = some (r1, r2) := by rw [if_pos rfl] at H; exact H
      clear H
      have H := H1
      clear H1
      have H' := Aside0.mk H
      clear H
      have hcz8_0 : w5.cell? ⟨gb256, 0, none⟩ = some (.bool false) := (blk_cell BK256.out 0).trans rfl
      have hcz8_1 : w5.cell? ⟨gb256, 1, none⟩ = some (.bool false) := (blk_cell BK256.out 1).trans rfl
      have hcz8_2 : w5.cell? ⟨gb256, 2, none⟩ = some (.bool false) := (blk_cell BK256.out 2).trans rfl
      have hcz8_3 : w5.cell? ⟨gb256, 3, none⟩ = some (.int .i64 0) := (blk_cell BK256.out 3).trans rfl
      have hcz8_4 : w5.cell? ⟨gb256, 4, none⟩ = some (.int .i64 0) := (blk_cell BK256.out 4).trans rfl
      have hfz8_0 := blk_frozen BK256.out 0
      have hfz8_1 := blk_frozen BK256.out 1
      have hfz8_2 := blk_frozen BK256.out 2
      have hfz8_3 := blk_frozen BK256.out 3
      have hfz8_4 := blk_frozen BK256.out 4
      go_wp2
      go_meet
      case rel => exact ⟨_, (true), (by first | rfl | (simp; done) | (simp [*]; done)), H', ⟨by first | omega | exact Nat.le_refl _⟩, ⟨by (with_reducible repeat (first | refine blk_drewN ?_ _ | refine blk_drew ?_ | refine blk_alloc ?_ _)); refine blk_put (cs := #[.bool t251, .bool t252, .bool true, .int .i64 t254, .int .i64 0]) ?_ 4 _ rfl; (with_reducible repeat (first | refine blk_drewN ?_ _ | refine blk_drew ?_ | refine blk_alloc ?_ _)); refine blk_put (cs := #[.bool t251, .bool t252, .bool true, .int .i64 0, .int .i64 0]) ?_ 3 _ rfl; (with_reducible repeat (first | refine blk_drewN ?_ _ | refine blk_drew ?_ | refine blk_alloc ?_ _)); refine blk_put (cs := #[.bool t251, .bool t252, .bool false, .int .i64 0, .int .i64 0]) ?_ 2 _ rfl; (with_reducible repeat (first | refine blk_drewN ?_ _ | refine blk_drew ?_ | refine blk_alloc ?_ _)); refine blk_put (cs := #[.bool t251, .bool false, .bool false, .int .i64 0, .int .i64 0]) ?_ 1 _ rfl; (with_reducible repeat (first | refine blk_drewN ?_ _ | refine blk_drew ?_ | refine blk_alloc ?_ _)); refine blk_put (cs := #[.bool false, .bool false, .bool false, .int .i64 0, .int .i64 0]) ?_ 0 _ rfl; (with_reducible repeat (first | refine blk_drewN ?_ _ | refine blk_drew ?_ | refine blk_alloc ?_ _)); exact BK256.out⟩, ⟨by repeat (first | (with_reducible first | exact HB.out | apply below_alloc | apply pw_below_drewN | apply below_drew1 | refine below_set ?_ GE256.out) | exact HB.out)⟩⟩
    · replace c7 := Bool.eq_false_iff.mpr c7
      subst c7
      have H1 : (if t252 = true then (hearthref1_ToFix.j0 k true t251 t252 false t254 t255) else (hearthref1_ToFix.j0 k (decide (t255 > 8)) t251 t252 false t254 t255)) = some (r1, r2) := by rw [if_neg (show ¬ (false = true) by decide)] at H; exact H
      clear H
      have H := H1
      clear H1
      by_cases c9 : t252 = true
      · subst c9
        have H1 : (hearthref1_ToFix.j0 k true t251 true false t254 t255) = some (r1, r2) := by rw [if_pos rfl] at H; exact H
        clear H
        have H := H1
        clear H1
        have H' := Aside0.mk H
        clear H
        have hcz10_0 : w5.cell? ⟨gb256, 0, none⟩ = some (.bool false) := (blk_cell BK256.out 0).trans rfl
        have hcz10_1 : w5.cell? ⟨gb256, 1, none⟩ = some (.bool false) := (blk_cell BK256.out 1).trans rfl
        have hcz10_2 : w5.cell? ⟨gb256, 2, none⟩ = some (.bool false) := (blk_cell BK256.out 2).trans rfl
        have hcz10_3 : w5.cell? ⟨gb256, 3, none⟩ = some (.int .i64 0) := (blk_cell BK256.out 3).trans rfl
        have hcz10_4 : w5.cell? ⟨gb256, 4, none⟩ = some (.int .i64 0) := (blk_cell BK256.out 4).trans rfl
        have hfz10_0 := blk_frozen BK256.out 0
        have hfz10_1 := blk_frozen BK256.out 1
        have hfz10_2 := blk_frozen BK256.out 2
        have hfz10_3 := blk_frozen BK256.out 3
        have hfz10_4 := blk_frozen BK256.out 4
        go_wp2
        go_meet
        case rel => exact ⟨_, (true), (by first | rfl | (simp; done) | (simp [*]; done)), H', ⟨by first | omega | exact Nat.le_refl _⟩, ⟨by (with_reducible repeat (first | refine blk_drewN ?_ _ | refine blk_drew ?_ | refine blk_alloc ?_ _)); refine blk_put (cs := #[.bool t251, .bool true, .bool false, .int .i64 t254, .int .i64 0]) ?_ 4 _ rfl; (with_reducible repeat (first | refine blk_drewN ?_ _ | refine blk_drew ?_ | refine blk_alloc ?_ _)); refine blk_put (cs := #[.bool t251, .bool true, .bool false, .int .i64 0, .int .i64 0]) ?_ 3 _ rfl; (with_reducible repeat (first | refine blk_drewN ?_ _ | refine blk_drew ?_ | refine blk_alloc ?_ _)); refine blk_put (cs := #[.bool t251, .bool true, .bool false, .int .i64 0, .int .i64 0]) ?_ 2 _ rfl; (with_reducible repeat (first | refine blk_drewN ?_ _ | refine blk_drew ?_ | refine blk_alloc ?_ _)); refine blk_put (cs := #[.bool t251, .bool false, .bool false, .int .i64 0, .int .i64 0]) ?_ 1 _ rfl; (with_reducible repeat (first | refine blk_drewN ?_ _ | refine blk_drew ?_ | refine blk_alloc ?_ _)); refine blk_put (cs := #[.bool false, .bool false, .bool false, .int .i64 0, .int .i64 0]) ?_ 0 _ rfl; (with_reducible repeat (first | refine blk_drewN ?_ _ | refine blk_drew ?_ | refine blk_alloc ?_ _)); exact BK256.out⟩, ⟨by repeat (first | (with_reducible first | exact HB.out | apply below_alloc | apply pw_below_drewN | apply below_drew1 | refine below_set ?_ GE256.out) | exact HB.out)⟩⟩
      · replace c9 := Bool.eq_false_iff.mpr c9
        subst c9
        have H1 : (hearthref1_ToFix.j0 k (decide (t255 > 8)) t251 false false t254 t255) = some (r1, r2) := by rw [if_neg (show ¬ (false = true) by decide)] at H; exact H
        clear H
        have H := H1
        clear H1
        have H' := Aside0.mk H
        clear H
        have hcz11_0 : w5.cell? ⟨gb256, 0, none⟩ = some (.bool false) := (blk_cell BK256.out 0).trans rfl
        have hcz11_1 : w5.cell? ⟨gb256, 1, none⟩ = some (.bool false) := (blk_cell BK256.out 1).trans rfl
        have hcz11_2 : w5.cell? ⟨gb256, 2, none⟩ = some (.bool false) := (blk_cell BK256.out 2).trans rfl
        have hcz11_3 : w5.cell? ⟨gb256, 3, none⟩ = some (.int .i64 0) := (blk_cell BK256.out 3).trans rfl
        have hcz11_4 : w5.cell? ⟨gb256, 4, none⟩ = some (.int .i64 0) := (blk_cell BK256.out 4).trans rfl
        have hfz11_0 := blk_frozen BK256.out 0
        have hfz11_1 := blk_frozen BK256.out 1
        have hfz11_2 := blk_frozen BK256.out 2
        have hfz11_3 := blk_frozen BK256.out 3
        have hfz11_4 := blk_frozen BK256.out 4
        go_wp2
        go_meet
        case rel => exact ⟨_, (decide (t255 > 8)), (by first | rfl | (simp; done) | (simp [*]; done)), H', ⟨by first | omega | exact Nat.le_refl _⟩, ⟨by (with_reducible repeat (first | refine blk_drewN ?_ _ | refine blk_drew ?_ | refine blk_alloc ?_ _)); refine blk_put (cs := #[.bool t251, .bool false, .bool false, .int .i64 t254, .int .i64 0]) ?_ 4 _ rfl; (with_reducible repeat (first | refine blk_drewN ?_ _ | refine blk_drew ?_ | refine blk_alloc ?_ _)); refine blk_put (cs := #[.bool t251, .bool false, .bool false, .int .i64 0, .int .i64 0]) ?_ 3 _ rfl; (with_reducible repeat (first | refine blk_drewN ?_ _ | refine blk_drew ?_ | refine blk_alloc ?_ _)); refine blk_put (cs := #[.bool t251, .bool false, .bool false, .int .i64 0, .int .i64 0]) ?_ 2 _ rfl; (with_reducible repeat (first | refine blk_drewN ?_ _ | refine blk_drew ?_ | refine blk_alloc ?_ _)); refine blk_put (cs := #[.bool t251, .bool false, .bool false, .int .i64 0, .int .i64 0]) ?_ 1 _ rfl; (with_reducible repeat (first | refine blk_drewN ?_ _ | refine blk_drew ?_ | refine blk_alloc ?_ _)); refine blk_put (cs := #[.bool false, .bool false, .bool false, .int .i64 0, .int .i64 0]) ?_ 0 _ rfl; (with_reducible repeat (first | refine blk_drewN ?_ _ | refine blk_drew ?_ | refine blk_alloc ?_ _)); exact BK256.out⟩, ⟨by repeat (first | (with_reducible first | exact HB.out | apply below_alloc | apply pw_below_drewN | apply below_drew1 | refine below_set ?_ GE256.out) | exact HB.out)⟩⟩
  case rest =>
    clear HC3
    try clear p2
    try clear c5
    try clear c6
    try clear c7
    try clear c9
    try clear hcz10_0
    try clear hcz10_1
    try clear hcz10_2
    try clear hcz10_3
    try clear hcz10_4
    try clear hcz11_0
    try clear hcz11_1
    try clear hcz11_2
    try clear hcz11_3
    try clear hcz11_4
    try clear hcz6_0
    try clear hcz6_1
    try clear hcz6_2
    try clear hcz6_3
    try clear hcz6_4
    try clear hcz8_0
    try clear hcz8_1
    try clear hcz8_2
    try clear hcz8_3
    try clear hcz8_4
    try clear hfz10_0
    try clear hfz10_1
    try clear hfz10_2
    try clear hfz10_3
    try clear hfz10_4
    try clear hfz11_0
    try clear hfz11_1
    try clear hfz11_2
    try clear hfz11_3
    try clear hfz11_4
    try clear hfz6_0
    try clear hfz6_1
    try clear hfz6_2
    try clear hfz6_3
    try clear hfz6_4
    try clear hfz8_0
    try clear hfz8_1
    try clear hfz8_2
    try clear hfz8_3
    try clear hfz8_4
    obtain ⟨kq, x20_2, rfl, HA, HJ2, BK256, HB⟩ := hcut
    cases kq with
    | zero => exact absurd HA.out (by simp [hearthref1_ToFix.j0])
    | succ kj2 =>
      have H := HA.out
      clear HA
      simp only [hearthref1_ToFix.j0] at H
      by_cases c12 : x20_2 = true
      · subst c12
        have H1 : (some (0, false)) = some (r1, r2) := by rw [if_pos rfl] at H; exact H
        clear H
        have H := H1
        clear H1
        simp only [Option.some.injEq, Prod.mk.injEq] at H
        obtain ⟨rfl, rfl⟩ := H
        go_wp2
        go_ret2
        exact ⟨by first | rfl | (simp [errW_none, errW_some] <;> rfl) | (simp [*, errW_none, errW_some] <;> rfl), by repeat (first | (with_reducible first | exact HB.out | apply below_alloc | apply pw_below_drewN | apply below_drew1 | refine below_set ?_ GE256.out) | exact HB.out)⟩
      · replace c12 := Bool.eq_false_iff.mpr c12
        subst c12
        have H1 : (hearthref1_ToFix.l0 kj2 t254 0 t251 t252 t253 t254 t255) = some (r1, r2) := by rw [if_neg (show ¬ (false = true) by decide)] at H; exact H
        clear H
        have H := H1
        clear H1
        have H' := Aside0.mk H
        clear H
        have hcz13_0 : wc.cell? ⟨gb256, 0, none⟩ = some (.bool t251) := (blk_cell BK256.out 0).trans rfl
        have hcz13_1 : wc.cell? ⟨gb256, 1, none⟩ = some (.bool t252) := (blk_cell BK256.out 1).trans rfl
        have hcz13_2 : wc.cell? ⟨gb256, 2, none⟩ = some (.bool t253) := (blk_cell BK256.out 2).trans rfl
        have hcz13_3 : wc.cell? ⟨gb256, 3, none⟩ = some (.int .i64 t254) := (blk_cell BK256.out 3).trans rfl
        have hcz13_4 : wc.cell? ⟨gb256, 4, none⟩ = some (.int .i64 t255) := (blk_cell BK256.out 4).trans rfl
        have hfz13_0 := blk_frozen BK256.out 0
        have hfz13_1 := blk_frozen BK256.out 1
        have hfz13_2 := blk_frozen BK256.out 2
        have hfz13_3 := blk_frozen BK256.out 3
        have hfz13_4 := blk_frozen BK256.out 4
        go_wp2
        go_loopg [5, 6] kj2 (fun kq v5 v6 w' => ∃ (x5_2 : Int) (x6_2 : Int), v5 = .int .i64 x5_2 ∧ v6 = .int .i64 x6_2 ∧ Aside0 (hearthref1_ToFix.l0 kq x5_2 x6_2 t251 t252 t253 t254 t255 = some (r1, r2)) ∧ Aside0 (kq ≤ kj2) ∧ Aside0 (w'.heap[gb256]? = some (.cells #[.bool t251, .bool t252, .bool t253, .int .i64 t254, .int .i64 t255] 40 (0, 0))) ∧ Aside0 (Below w.heap.size w w'))
        case atStart => exact ⟨(t254), (0), (by first | rfl | (simp; done) | (simp [*]; done)), (by first | rfl | (simp; done) | (simp [*]; done)), H', ⟨Nat.le_refl _⟩, ⟨by (with_reducible repeat (first | refine blk_drewN ?_ _ | refine blk_drew ?_ | refine blk_alloc ?_ _)); exact BK256.out⟩, ⟨by repeat (first | (with_reducible first | exact HB.out | apply below_alloc | apply pw_below_drewN | apply below_drew1 | refine below_set ?_ GE256.out) | exact HB.out)⟩⟩
        case round =>
          clear H'
          try clear c1
          try clear p2
          try clear c5
          try clear c6
          try clear c7
          try clear c9
          try clear c12
          try clear hcz10_0
          try clear hcz10_1
          try clear hcz10_2
          try clear hcz10_3
          try clear hcz10_4
          try clear hcz11_0
          try clear hcz11_1
          try clear hcz11_2
          try clear hcz11_3
          try clear hcz11_4
          try clear hcz13_0
          try clear hcz13_1
          try clear hcz13_2
          try clear hcz13_3
          try clear hcz13_4
          try clear hcz6_0
          try clear hcz6_1
          try clear hcz6_2
          try clear hcz6_3
          try clear hcz6_4
          try clear hcz8_0
          try clear hcz8_1
          try clear hcz8_2
          try clear hcz8_3
          try clear hcz8_4
          try clear hfz10_0
          try clear hfz10_1
          try clear hfz10_2
          try clear hfz10_3
          try clear hfz10_4
          try clear hfz11_0
          try clear hfz11_1
          try clear hfz11_2
          try clear hfz11_3
          try clear hfz11_4
          try clear hfz13_0
          try clear hfz13_1
          try clear hfz13_2
          try clear hfz13_3
          try clear hfz13_4
          try clear hfz6_0
          try clear hfz6_1
          try clear hfz6_2
          try clear hfz6_3
          try clear hfz6_4
          try clear hfz8_0
          try clear hfz8_1
          try clear hfz8_2
          try clear hfz8_3
          try clear hfz8_4
          try clear p2
          obtain ⟨x5_2, x6_2, rfl, rfl, HA, HK2, BK256, HB⟩ := hrel
          cases gk with
          | zero => exact absurd HA.out (by simp [hearthref1_ToFix.l0])
          | succ k2 =>
            have H := HA.out
            clear HA
            simp only [hearthref1_ToFix.l0] at H
            by_cases c14 : x6_2 < t255
            · rw [if_pos c14] at H
              have c14b0 : decide (x6_2 < t255) = true := decide_eq_true c14
              clear c14
              have H' := Aside0.mk H
              clear H
              have hcz15_0 : wr.cell? ⟨gb256, 0, none⟩ = some (.bool t251) := (blk_cell BK256.out 0).trans rfl
              have hcz15_1 : wr.cell? ⟨gb256, 1, none⟩ = some (.bool t252) := (blk_cell BK256.out 1).trans rfl
              have hcz15_2 : wr.cell? ⟨gb256, 2, none⟩ = some (.bool t253) := (blk_cell BK256.out 2).trans rfl
              have hcz15_3 : wr.cell? ⟨gb256, 3, none⟩ = some (.int .i64 t254) := (blk_cell BK256.out 3).trans rfl
              have hcz15_4 : wr.cell? ⟨gb256, 4, none⟩ = some (.int .i64 t255) := (blk_cell BK256.out 4).trans rfl
              have hfz15_0 := blk_frozen BK256.out 0
              have hfz15_1 := blk_frozen BK256.out 1
              have hfz15_2 := blk_frozen BK256.out 2
              have hfz15_3 := blk_frozen BK256.out 3
              have hfz15_4 := blk_frozen BK256.out 4
              go_wp2
              go_roundg k2
              case measure => have := HJ2.out; have := HK2.out; omega
              case rel => exact ⟨(wrap64 (x5_2 + x5_2)), (wrap64 (x6_2 + 1)), (by first | rfl | (simp; done) | (simp [*]; done)), (by first | rfl | (simp; done) | (simp [*]; done)), H', ⟨by have := HJ2.out; have := HK2.out; omega⟩, ⟨by (with_reducible repeat (first | refine blk_drewN ?_ _ | refine blk_drew ?_ | refine blk_alloc ?_ _)); exact BK256.out⟩, ⟨by repeat (first | (with_reducible first | exact HB.out | apply below_alloc | apply pw_below_drewN | apply below_drew1 | refine below_set ?_ GE256.out) | exact HB.out)⟩⟩
            · rw [if_neg c14] at H
              have c14b0 : decide (x6_2 < t255) = false := decide_eq_false c14
              clear c14
              have HC16 := Aside0.mk H
              clear H
              have hcz17_0 : wr.cell? ⟨gb256, 0, none⟩ = some (.bool t251) := (blk_cell BK256.out 0).trans rfl
              have hcz17_1 : wr.cell? ⟨gb256, 1, none⟩ = some (.bool t252) := (blk_cell BK256.out 1).trans rfl
              have hcz17_2 : wr.cell? ⟨gb256, 2, none⟩ = some (.bool t253) := (blk_cell BK256.out 2).trans rfl
              have hcz17_3 : wr.cell? ⟨gb256, 3, none⟩ = some (.int .i64 t254) := (blk_cell BK256.out 3).trans rfl
              have hcz17_4 : wr.cell? ⟨gb256, 4, none⟩ = some (.int .i64 t255) := (blk_cell BK256.out 4).trans rfl
              have hfz17_0 := blk_frozen BK256.out 0
              have hfz17_1 := blk_frozen BK256.out 1
              have hfz17_2 := blk_frozen BK256.out 2
              have hfz17_3 := blk_frozen BK256.out 3
              have hfz17_4 := blk_frozen BK256.out 4
              go_upto_block 2 with (fail)
              go_cut [5] (fun v5 wc => ∃ (kq : Nat) (x5_15 : Int), v5 = .int .i64 x5_15 ∧ Aside0 (hearthref1_ToFix.j3 kq x5_15 t251 t252 t253 t254 t255 = some (r1, r2)) ∧ Aside0 (kq ≤ k2) ∧ Aside0 (wc.heap[gb256]? = some (.cells #[.bool t251, .bool t252, .bool t253, .int .i64 t254, .int .i64 t255] 40 (0, 0))) ∧ Aside0 (Below w.heap.size w wc))
              case first =>
                have H := HC16.out
                clear HC16
                have H' := Aside0.mk H
                clear H
                go_wp2
                go_loopg [5, 7] k2 (fun kq v5 v7 w' => ∃ (x5_3 : Int) (x7_3 : Int), v5 = .int .i64 x5_3 ∧ v7 = .int .i64 x7_3 ∧ Aside0 (hearthref1_ToFix.l1 kq x5_3 x7_3 t251 t252 t253 t254 t255 = some (r1, r2)) ∧ Aside0 (kq ≤ k2) ∧ Aside0 (w'.heap[gb256]? = some (.cells #[.bool t251, .bool t252, .bool t253, .int .i64 t254, .int .i64 t255] 40 (0, 0))) ∧ Aside0 (Below w.heap.size w w'))
                case atStart => exact ⟨(x5_2), (0), (by first | rfl | (simp; done) | (simp [*]; done)), (by first | rfl | (simp; done) | (simp [*]; done)), H', ⟨Nat.le_refl _⟩, ⟨by (with_reducible repeat (first | refine blk_drewN ?_ _ | refine blk_drew ?_ | refine blk_alloc ?_ _)); exact BK256.out⟩, ⟨by repeat (first | (with_reducible first | exact HB.out | apply below_alloc | apply pw_below_drewN | apply below_drew1 | refine below_set ?_ GE256.out) | exact HB.out)⟩⟩
                case round =>
                  clear H'
                  try clear c1
                  try clear p2
                  try clear c5
                  try clear c6
                  try clear p6
                  try clear c7
                  try clear c9
                  try clear c12
                  try clear c14
                  try clear c14b0
                  try clear hcz10_0
                  try clear hcz10_1
                  try clear hcz10_2
                  try clear hcz10_3
                  try clear hcz10_4
                  try clear hcz11_0
                  try clear hcz11_1
                  try clear hcz11_2
                  try clear hcz11_3
                  try clear hcz11_4
                  try clear hcz13_0
                  try clear hcz13_1
                  try clear hcz13_2
                  try clear hcz13_3
                  try clear hcz13_4
                  try clear hcz15_0
                  try clear hcz15_1
                  try clear hcz15_2
                  try clear hcz15_3
                  try clear hcz15_4
                  try clear hcz17_0
                  try clear hcz17_1
                  try clear hcz17_2
                  try clear hcz17_3
                  try clear hcz17_4
                  try clear hcz6_0
                  try clear hcz6_1
                  try clear hcz6_2
                  try clear hcz6_3
                  try clear hcz6_4
                  try clear hcz8_0
                  try clear hcz8_1
                  try clear hcz8_2
                  try clear hcz8_3
                  try clear hcz8_4
                  try clear hfz10_0
                  try clear hfz10_1
                  try clear hfz10_2
                  try clear hfz10_3
                  try clear hfz10_4
                  try clear hfz11_0
                  try clear hfz11_1
                  try clear hfz11_2
                  try clear hfz11_3
                  try clear hfz11_4
                  try clear hfz13_0
                  try clear hfz13_1
                  try clear hfz13_2
                  try clear hfz13_3
                  try clear hfz13_4
                  try clear hfz15_0
                  try clear hfz15_1
                  try clear hfz15_2
                  try clear hfz15_3
                  try clear hfz15_4
                  try clear hfz17_0
                  try clear hfz17_1
                  try clear hfz17_2
                  try clear hfz17_3
                  try clear hfz17_4
                  try clear hfz6_0
                  try clear hfz6_1
                  try clear hfz6_2
                  try clear hfz6_3
                  try clear hfz6_4
                  try clear hfz8_0
                  try clear hfz8_1
                  try clear hfz8_2
                  try clear hfz8_3
                  try clear hfz8_4
                  try clear p2
                  obtain ⟨x5_3, x7_3, rfl, rfl, HA, HK3, BK256, HB⟩ := hrel
                  cases gk with
                  | zero => exact absurd HA.out (by simp [hearthref1_ToFix.l1])
                  | succ k3 =>
                    have H := HA.out
                    clear HA
                    simp only [hearthref1_ToFix.l1] at H
                    by_cases c18 : x7_3 > t255
                    · rw [if_pos c18] at H
                      have c18b0 : decide (t255 < x7_3) = true := decide_eq_true c18
                      clear c18
                      (first | rw [c18b0] | (simp only [i64_w, i32_w]; rw [c18b0]) | skip)
                      by_cases c19 : x5_3 > 0
                      · rw [if_pos c19] at H
                        have c19b0 : decide (0 < x5_3) = true := decide_eq_true c19
                        clear c19
                        have H' := Aside0.mk H
                        clear H
                        have hcz20_0 : wr.cell? ⟨gb256, 0, none⟩ = some (.bool t251) := (blk_cell BK256.out 0).trans rfl
                        have hcz20_1 : wr.cell? ⟨gb256, 1, none⟩ = some (.bool t252) := (blk_cell BK256.out 1).trans rfl
                        have hcz20_2 : wr.cell? ⟨gb256, 2, none⟩ = some (.bool t253) := (blk_cell BK256.out 2).trans rfl
                        have hcz20_3 : wr.cell? ⟨gb256, 3, none⟩ = some (.int .i64 t254) := (blk_cell BK256.out 3).trans rfl
                        have hcz20_4 : wr.cell? ⟨gb256, 4, none⟩ = some (.int .i64 t255) := (blk_cell BK256.out 4).trans rfl
                        have hfz20_0 := blk_frozen BK256.out 0
                        have hfz20_1 := blk_frozen BK256.out 1
                        have hfz20_2 := blk_frozen BK256.out 2
                        have hfz20_3 := blk_frozen BK256.out 3
                        have hfz20_4 := blk_frozen BK256.out 4
                        go_wp2
                        go_roundg k3
                        case measure => have := HJ2.out; have := HK2.out; have := HK3.out; omega
                        case rel => exact ⟨(wrap64 (Int.tdiv x5_3 2)), (wrap64 (x7_3 - 1)), (by first | rfl | (simp; done) | (simp [*]; done)), (by first | rfl | (simp; done) | (simp [*]; done)), H', ⟨by have := HJ2.out; have := HK2.out; have := HK3.out; omega⟩, ⟨by (with_reducible repeat (first | refine blk_drewN ?_ _ | refine blk_drew ?_ | refine blk_alloc ?_ _)); exact BK256.out⟩, ⟨by repeat (first | (with_reducible first | exact HB.out | apply below_alloc | apply pw_below_drewN | apply below_drew1 | refine below_set ?_ GE256.out) | exact HB.out)⟩⟩
                      · rw [if_neg c19] at H
                        have c19b0 : decide (0 < x5_3) = false := decide_eq_false c19
                        clear c19
                        have H' := Aside0.mk H
                        clear H
                        have hcz21_0 : wr.cell? ⟨gb256, 0, none⟩ = some (.bool t251) := (blk_cell BK256.out 0).trans rfl
                        have hcz21_1 : wr.cell? ⟨gb256, 1, none⟩ = some (.bool t252) := (blk_cell BK256.out 1).trans rfl
                        have hcz21_2 : wr.cell? ⟨gb256, 2, none⟩ = some (.bool t253) := (blk_cell BK256.out 2).trans rfl
                        have hcz21_3 : wr.cell? ⟨gb256, 3, none⟩ = some (.int .i64 t254) := (blk_cell BK256.out 3).trans rfl
                        have hcz21_4 : wr.cell? ⟨gb256, 4, none⟩ = some (.int .i64 t255) := (blk_cell BK256.out 4).trans rfl
                        have hfz21_0 := blk_frozen BK256.out 0
                        have hfz21_1 := blk_frozen BK256.out 1
                        have hfz21_2 := blk_frozen BK256.out 2
                        have hfz21_3 := blk_frozen BK256.out 3
                        have hfz21_4 := blk_frozen BK256.out 4
                        go_wp2
                        go_meet
                        case rel => exact ⟨_, (x5_3), (by first | rfl | (simp; done) | (simp [*]; done)), H', ⟨by have := HJ2.out; have := HK2.out; have := HK3.out; first | omega | exact Nat.le_refl _⟩, ⟨by (with_reducible repeat (first | refine blk_drewN ?_ _ | refine blk_drew ?_ | refine blk_alloc ?_ _)); exact BK256.out⟩, ⟨by repeat (first | (with_reducible first | exact HB.out | apply below_alloc | apply pw_below_drewN | apply below_drew1 | refine below_set ?_ GE256.out) | exact HB.out)⟩⟩
                    · rw [if_neg c18] at H
                      have c18b0 : decide (t255 < x7_3) = false := decide_eq_false c18
                      clear c18
                      (first | rw [c18b0] | (simp only [i64_w, i32_w]; rw [c18b0]) | skip)
                      have H' := Aside0.mk H
                      clear H
                      have hcz22_0 : wr.cell? ⟨gb256, 0, none⟩ = some (.bool t251) := (blk_cell BK256.out 0).trans rfl
                      have hcz22_1 : wr.cell? ⟨gb256, 1, none⟩ = some (.bool t252) := (blk_cell BK256.out 1).trans rfl
                      have hcz22_2 : wr.cell? ⟨gb256, 2, none⟩ = some (.bool t253) := (blk_cell BK256.out 2).trans rfl
                      have hcz22_3 : wr.cell? ⟨gb256, 3, none⟩ = some (.int .i64 t254) := (blk_cell BK256.out 3).trans rfl
                      have hcz22_4 : wr.cell? ⟨gb256, 4, none⟩ = some (.int .i64 t255) := (blk_cell BK256.out 4).trans rfl
                      have hfz22_0 := blk_frozen BK256.out 0
                      have hfz22_1 := blk_frozen BK256.out 1
                      have hfz22_2 := blk_frozen BK256.out 2
                      have hfz22_3 := blk_frozen BK256.out 3
                      have hfz22_4 := blk_frozen BK256.out 4
                      go_wp2
                      go_meet
                      case rel => exact ⟨_, (x5_3), (by first | rfl | (simp; done) | (simp [*]; done)), H', ⟨by have := HJ2.out; have := HK2.out; have := HK3.out; first | omega | exact Nat.le_refl _⟩, ⟨by (with_reducible repeat (first | refine blk_drewN ?_ _ | refine blk_drew ?_ | refine blk_alloc ?_ _)); exact BK256.out⟩, ⟨by repeat (first | (with_reducible first | exact HB.out | apply below_alloc | apply pw_below_drewN | apply below_drew1 | refine below_set ?_ GE256.out) | exact HB.out)⟩⟩
              case rest =>
                clear HC16
                try clear c1
                try clear p2
                try clear c5
                try clear c6
                try clear p6
                try clear c7
                try clear c9
                try clear c12
                try clear c14
                try clear c14b0
                try clear c18
                try clear c18b0
                try clear c19
                try clear c19b0
                try clear hcz10_0
                try clear hcz10_1
                try clear hcz10_2
                try clear hcz10_3
                try clear hcz10_4
                try clear hcz11_0
                try clear hcz11_1
                try clear hcz11_2
                try clear hcz11_3
                try clear hcz11_4
                try clear hcz13_0
                try clear hcz13_1
                try clear hcz13_2
                try clear hcz13_3
                try clear hcz13_4
                try clear hcz15_0
                try clear hcz15_1
                try clear hcz15_2
                try clear hcz15_3
                try clear hcz15_4
                try clear hcz17_0
                try clear hcz17_1
                try clear hcz17_2
                try clear hcz17_3
                try clear hcz17_4
                try clear hcz20_0
                try clear hcz20_1
                try clear hcz20_2
                try clear hcz20_3
                try clear hcz20_4
                try clear hcz21_0
                try clear hcz21_1
                try clear hcz21_2
                try clear hcz21_3
                try clear hcz21_4
                try clear hcz22_0
                try clear hcz22_1
                try clear hcz22_2
                try clear hcz22_3
                try clear hcz22_4
                try clear hcz6_0
                try clear hcz6_1
                try clear hcz6_2
                try clear hcz6_3
                try clear hcz6_4
                try clear hcz8_0
                try clear hcz8_1
                try clear hcz8_2
                try clear hcz8_3
                try clear hcz8_4
                try clear hfz10_0
                try clear hfz10_1
                try clear hfz10_2
                try clear hfz10_3
                try clear hfz10_4
                try clear hfz11_0
                try clear hfz11_1
                try clear hfz11_2
                try clear hfz11_3
                try clear hfz11_4
                try clear hfz13_0
                try clear hfz13_1
                try clear hfz13_2
                try clear hfz13_3
                try clear hfz13_4
                try clear hfz15_0
                try clear hfz15_1
                try clear hfz15_2
                try clear hfz15_3
                try clear hfz15_4
                try clear hfz17_0
                try clear hfz17_1
                try clear hfz17_2
                try clear hfz17_3
                try clear hfz17_4
                try clear hfz20_0
                try clear hfz20_1
                try clear hfz20_2
                try clear hfz20_3
                try clear hfz20_4
                try clear hfz21_0
                try clear hfz21_1
                try clear hfz21_2
                try clear hfz21_3
                try clear hfz21_4
                try clear hfz22_0
                try clear hfz22_1
                try clear hfz22_2
                try clear hfz22_3
                try clear hfz22_4
                try clear hfz6_0
                try clear hfz6_1
                try clear hfz6_2
                try clear hfz6_3
                try clear hfz6_4
                try clear hfz8_0
                try clear hfz8_1
                try clear hfz8_2
                try clear hfz8_3
                try clear hfz8_4
                try clear p2
                try clear p6
                obtain ⟨kq, x5_15, rfl, HA, HJ15, BK256, HB⟩ := hcut
                cases kq with
                | zero => exact absurd HA.out (by simp [hearthref1_ToFix.j3])
                | succ kj15 =>
                  have H := HA.out
                  clear HA
                  simp only [hearthref1_ToFix.j3] at H
                  by_cases c23 : t251 = true
                  · subst c23
                    have H1 : ((hearthref1_Fits.f (wrap64 (-x5_15))).bind fun t257 => (if t257 = true then (some (wrap64 (-x5_15), true)) else (some (0, false)))) = some (r1, r2) := by rw [if_pos rfl] at H; exact H
                    clear H
                    have H := H1
                    clear H1
                    replace H := Option.bind_eq_some_iff.mp H
                    obtain ⟨t257, A240, H⟩ := H
                    replace H : (if t257 = true then (some (wrap64 (-x5_15), true)) else (some (0, false))) = some (r1, r2) := H
                    have A24 := Aside0.mk A240
                    clear A240
                    by_cases c25 : t257 = true
                    · subst c25
                      have H1 : (some (wrap64 (-x5_15), true)) = some (r1, r2) := by rw [if_pos rfl] at H; exact H
                      clear H
                      have H := H1
                      clear H1
                      simp only [Option.some.injEq, Prod.mk.injEq] at H
                      obtain ⟨rfl, rfl⟩ := H
                      have hcz26_0 : wc.cell? ⟨gb256, 0, none⟩ = some (.bool true) := (blk_cell BK256.out 0).trans rfl
                      have hcz26_1 : wc.cell? ⟨gb256, 1, none⟩ = some (.bool t252) := (blk_cell BK256.out 1).trans rfl
                      have hcz26_2 : wc.cell? ⟨gb256, 2, none⟩ = some (.bool t253) := (blk_cell BK256.out 2).trans rfl
                      have hcz26_3 : wc.cell? ⟨gb256, 3, none⟩ = some (.int .i64 t254) := (blk_cell BK256.out 3).trans rfl
                      have hcz26_4 : wc.cell? ⟨gb256, 4, none⟩ = some (.int .i64 t255) := (blk_cell BK256.out 4).trans rfl
                      have hfz26_0 := blk_frozen BK256.out 0
                      have hfz26_1 := blk_frozen BK256.out 1
                      have hfz26_2 := blk_frozen BK256.out 2
                      have hfz26_3 := blk_frozen BK256.out 3
                      have hfz26_4 := blk_frozen BK256.out 4
                      go_wp2_with (first | ((with_reducible refine gate_callee (f := 53) rfl ?_); refine goesL_ (some 49) rfl rfl Try.func53 (by kernel_rfl) rfl #[.int .i64 (wrap64 (-x5_15))] rfl (by (try simp only [List.map_toArray, List.map_cons, List.map_nil]); first | done | rfl | (simp only [List.length_drop, List.length_take]; rfl)) ?_; (with_reducible refine (hearthref1_Fits.calls (wrap64 (-x5_15)) true _ A24.out).mono ?_); rintro e w' ⟨rfl, ⟨nd, rfl⟩⟩; refine ⟨_, rfl, ?_⟩))
                      go_ret2
                      exact ⟨by first | rfl | (simp [errW_none, errW_some] <;> rfl) | (simp [*, errW_none, errW_some] <;> rfl), by repeat (first | (with_reducible first | exact HB.out | apply below_alloc | apply pw_below_drewN | apply below_drew1 | refine below_set ?_ GE256.out) | exact HB.out)⟩
                    · replace c25 := Bool.eq_false_iff.mpr c25
                      subst c25
                      have H1 : (some (0, false)) = some (r1, r2) := by rw [if_neg (show ¬ (false = true) by decide)] at H; exact H
                      clear H
                      have H := H1
                      clear H1
                      simp only [Option.some.injEq, Prod.mk.injEq] at H
                      obtain ⟨rfl, rfl⟩ := H
                      have hcz27_0 : wc.cell? ⟨gb256, 0, none⟩ = some (.bool true) := (blk_cell BK256.out 0).trans rfl
                      have hcz27_1 : wc.cell? ⟨gb256, 1, none⟩ = some (.bool t252) := (blk_cell BK256.out 1).trans rfl
                      have hcz27_2 : wc.cell? ⟨gb256, 2, none⟩ = some (.bool t253) := (blk_cell BK256.out 2).trans rfl
                      have hcz27_3 : wc.cell? ⟨gb256, 3, none⟩ = some (.int .i64 t254) := (blk_cell BK256.out 3).trans rfl
                      have hcz27_4 : wc.cell? ⟨gb256, 4, none⟩ = some (.int .i64 t255) := (blk_cell BK256.out 4).trans rfl
                      have hfz27_0 := blk_frozen BK256.out 0
                      have hfz27_1 := blk_frozen BK256.out 1
                      have hfz27_2 := blk_frozen BK256.out 2
                      have hfz27_3 := blk_frozen BK256.out 3
                      have hfz27_4 := blk_frozen BK256.out 4
                      go_wp2_with (first | ((with_reducible refine gate_callee (f := 53) rfl ?_); refine goesL_ (some 49) rfl rfl Try.func53 (by kernel_rfl) rfl #[.int .i64 (wrap64 (-x5_15))] rfl (by (try simp only [List.map_toArray, List.map_cons, List.map_nil]); first | done | rfl | (simp only [List.length_drop, List.length_take]; rfl)) ?_; (with_reducible refine (hearthref1_Fits.calls (wrap64 (-x5_15)) false _ A24.out).mono ?_); rintro e w' ⟨rfl, ⟨nd, rfl⟩⟩; refine ⟨_, rfl, ?_⟩))
                      go_ret2
                      exact ⟨by first | rfl | (simp [errW_none, errW_some] <;> rfl) | (simp [*, errW_none, errW_some] <;> rfl), by repeat (first | (with_reducible first | exact HB.out | apply below_alloc | apply pw_below_drewN | apply below_drew1 | refine below_set ?_ GE256.out) | exact HB.out)⟩
                  · replace c23 := Bool.eq_false_iff.mpr c23
                    subst c23
                    have H1 : ((hearthref1_Fits.f x5_15).bind fun t258 => (if t258 = true then (some (x5_15, true)) else (some (0, false)))) = some (r1, r2) := by rw [if_neg (show ¬ (false = true) by decide)] at H; exact H
                    clear H
                    have H := H1
                    clear H1
                    replace H := Option.bind_eq_some_iff.mp H
                    obtain ⟨t258, A280, H⟩ := H
                    replace H : (if t258 = true then (some (x5_15, true)) else (some (0, false))) = some (r1, r2) := H
                    have A28 := Aside0.mk A280
                    clear A280
                    by_cases c29 : t258 = true
                    · subst c29
                      have H1 : (some (x5_15, true)) = some (r1, r2) := by rw [if_pos rfl] at H; exact H
                      clear H
                      have H := H1
                      clear H1
                      simp only [Option.some.injEq, Prod.mk.injEq] at H
                      obtain ⟨rfl, rfl⟩ := H
                      have hcz30_0 : wc.cell? ⟨gb256, 0, none⟩ = some (.bool false) := (blk_cell BK256.out 0).trans rfl
                      have hcz30_1 : wc.cell? ⟨gb256, 1, none⟩ = some (.bool t252) := (blk_cell BK256.out 1).trans rfl
                      have hcz30_2 : wc.cell? ⟨gb256, 2, none⟩ = some (.bool t253) := (blk_cell BK256.out 2).trans rfl
                      have hcz30_3 : wc.cell? ⟨gb256, 3, none⟩ = some (.int .i64 t254) := (blk_cell BK256.out 3).trans rfl
                      have hcz30_4 : wc.cell? ⟨gb256, 4, none⟩ = some (.int .i64 t255) := (blk_cell BK256.out 4).trans rfl
                      have hfz30_0 := blk_frozen BK256.out 0
                      have hfz30_1 := blk_frozen BK256.out 1
                      have hfz30_2 := blk_frozen BK256.out 2
                      have hfz30_3 := blk_frozen BK256.out 3
                      have hfz30_4 := blk_frozen BK256.out 4
                      go_wp2_with (first | ((with_reducible refine gate_callee (f := 53) rfl ?_); refine goesL_ (some 49) rfl rfl Try.func53 (by kernel_rfl) rfl #[.int .i64 x5_15] rfl (by (try simp only [List.map_toArray, List.map_cons, List.map_nil]); first | done | rfl | (simp only [List.length_drop, List.length_take]; rfl)) ?_; (with_reducible refine (hearthref1_Fits.calls x5_15 true _ A28.out).mono ?_); rintro e w' ⟨rfl, ⟨nd, rfl⟩⟩; refine ⟨_, rfl, ?_⟩))
                      go_ret2
                      exact ⟨by first | rfl | (simp [errW_none, errW_some] <;> rfl) | (simp [*, errW_none, errW_some] <;> rfl), by repeat (first | (with_reducible first | exact HB.out | apply below_alloc | apply pw_below_drewN | apply below_drew1 | refine below_set ?_ GE256.out) | exact HB.out)⟩
                    · replace c29 := Bool.eq_false_iff.mpr c29
                      subst c29
                      have H1 : (some (0, false)) = some (r1, r2) := by rw [if_neg (show ¬ (false = true) by decide)] at H; exact H
                      clear H
                      have H := H1
                      clear H1
                      simp only [Option.some.injEq, Prod.mk.injEq] at H
                      obtain ⟨rfl, rfl⟩ := H
                      have hcz31_0 : wc.cell? ⟨gb256, 0, none⟩ = some (.bool false) := (blk_cell BK256.out 0).trans rfl
                      have hcz31_1 : wc.cell? ⟨gb256, 1, none⟩ = some (.bool t252) := (blk_cell BK256.out 1).trans rfl
                      have hcz31_2 : wc.cell? ⟨gb256, 2, none⟩ = some (.bool t253) := (blk_cell BK256.out 2).trans rfl
                      have hcz31_3 : wc.cell? ⟨gb256, 3, none⟩ = some (.int .i64 t254) := (blk_cell BK256.out 3).trans rfl
                      have hcz31_4 : wc.cell? ⟨gb256, 4, none⟩ = some (.int .i64 t255) := (blk_cell BK256.out 4).trans rfl
                      have hfz31_0 := blk_frozen BK256.out 0
                      have hfz31_1 := blk_frozen BK256.out 1
                      have hfz31_2 := blk_frozen BK256.out 2
                      have hfz31_3 := blk_frozen BK256.out 3
                      have hfz31_4 := blk_frozen BK256.out 4
                      go_wp2_with (first | ((with_reducible refine gate_callee (f := 53) rfl ?_); refine goesL_ (some 49) rfl rfl Try.func53 (by kernel_rfl) rfl #[.int .i64 x5_15] rfl (by (try simp only [List.map_toArray, List.map_cons, List.map_nil]); first | done | rfl | (simp only [List.length_drop, List.length_take]; rfl)) ?_; (with_reducible refine (hearthref1_Fits.calls x5_15 false _ A28.out).mono ?_); rintro e w' ⟨rfl, ⟨nd, rfl⟩⟩; refine ⟨_, rfl, ?_⟩))
                      go_ret2
                      exact ⟨by first | rfl | (simp [errW_none, errW_some] <;> rfl) | (simp [*, errW_none, errW_some] <;> rfl), by repeat (first | (with_reducible first | exact HB.out | apply below_alloc | apply pw_below_drewN | apply below_drew1 | refine below_set ?_ GE256.out) | exact HB.out)⟩

-- NOT PRINTED: function 42 (hearthlaw1_fixed)

-- NOT PRINTED: function 13 (hearthlaw1_FixTurns)

/-! ### hearthref1_Canon: function 50 -/
def hearthref1_Canon.f (k : Nat) (a0 : Int) : Option (Int) := (hearthref1_Parts.f k a0).bind fun bt259 => (if bt259.2.2.1 = true then (some 9221120237041090561) else (some a0))
theorem hearthref1_Canon.mono : ∀ a0 k, LeO (hearthref1_Canon.f k a0) (hearthref1_Canon.f (k + 1) a0) := by
  intro a0 k
  unfold hearthref1_Canon.f
  repeat' first
      | (with_reducible exact hearthref1_Parts.mono _ _)
      | (with_reducible exact LeO.refl _)
      | (with_reducible exact LeO.none _)
      | (with_reducible refine LeO.ite ?_ ?_)
      | (with_reducible refine LeO.bind ?_ (fun _ => ?_))
      | exact hearthref1_Parts.mono _ _
      | exact LeO.none _
      | refine LeO.ite ?_ ?_
      | refine LeO.bind ?_ (fun _ => ?_)
set_option maxHeartbeats 8000000 in
set_option maxRecDepth 100000 in
theorem hearthref1_Canon.calls (k : Nat) (a0 : Int) (r : Int) (w : World) (h : hearthref1_Canon.f k a0 = some r) :
    Calls Try.prog 50 #[.int .i64 a0] w fun e w' => e = .returned (.int .i64 r) ∧ Below w.heap.size w w' := by
  have hu40 := Try.underlying40
  have hf40 : ∀ (x0 x1 x2 : Bool) (x3 x4 : Int) (w : World), (Instr.field 40 (.agg #[.bool x0, .bool x1, .bool x2, .int .i64 x3, .int .i64 x4]) 2).run Try.prog w = .ok (.bool x2) w := fun _ _ _ _ _ _ => by kernel_rfl
  have HB := Aside0.mk (Below.refl w.heap.size w)
  have H : ((hearthref1_Parts.f k a0).bind fun bt259 => (if bt259.2.2.1 = true then (some 9221120237041090561) else (some a0))) = some r := h
  clear h
  replace H := Option.bind_eq_some_iff.mp H
  obtain ⟨⟨t259, t260, t261, t262, t263⟩, A20, H⟩ := H
  replace H : (if t261 = true then (some 9221120237041090561) else (some a0)) = some r := H
  have A2 := Aside0.mk A20
  clear A20
  by_cases c3 : t261 = true
  · subst c3
    have H1 : (some 9221120237041090561) = some r := by rw [if_pos rfl] at H; exact H
    clear H
    have H := H1
    clear H1
    obtain rfl := Option.some.inj H
    go_enter Try.func50, Try.ntmps50
    go_wp2_with (first | ((with_reducible refine gate_callee (f := 51) rfl ?_); refine goesL_ (some 4) rfl rfl Try.func51 (by kernel_rfl) rfl #[.int .i64 a0] rfl (by (try simp only [List.map_toArray, List.map_cons, List.map_nil]); first | done | rfl | (simp only [List.length_drop, List.length_take]; rfl)) ?_; (with_reducible refine (hearthref1_Parts.calls k a0 t259 t260 true t262 t263 _ A2.out).mono ?_); rintro e w4 ⟨rfl, hb⟩; refine ⟨_, rfl, ?_⟩; have n0_ := Aside0.mk (below_step (by repeat (first | (with_reducible first | exact HB.out | apply below_alloc | apply pw_below_drewN | apply below_drew1) | exact HB.out)) hb); clear HB; have HB := n0_; clear n0_; (try clear hb); (try clear hb2); (try clear hk); (try clear hi)))
    go_ret
    exact ⟨by first | rfl | (simp [errW_none, errW_some] <;> rfl) | (simp [*, errW_none, errW_some] <;> rfl), by repeat (first | (with_reducible first | exact HB.out | apply below_alloc | apply pw_below_drewN | apply below_drew1) | exact HB.out)⟩
  · replace c3 := Bool.eq_false_iff.mpr c3
    subst c3
    have H1 : (some a0) = some r := by rw [if_neg (show ¬ (false = true) by decide)] at H; exact H
    clear H
    have H := H1
    clear H1
    obtain rfl := Option.some.inj H
    go_enter Try.func50, Try.ntmps50
    go_wp2_with (first | ((with_reducible refine gate_callee (f := 51) rfl ?_); refine goesL_ (some 4) rfl rfl Try.func51 (by kernel_rfl) rfl #[.int .i64 a0] rfl (by (try simp only [List.map_toArray, List.map_cons, List.map_nil]); first | done | rfl | (simp only [List.length_drop, List.length_take]; rfl)) ?_; (with_reducible refine (hearthref1_Parts.calls k a0 t259 t260 false t262 t263 _ A2.out).mono ?_); rintro e w5 ⟨rfl, hb⟩; refine ⟨_, rfl, ?_⟩; have n0_ := Aside0.mk (below_step (by repeat (first | (with_reducible first | exact HB.out | apply below_alloc | apply pw_below_drewN | apply below_drew1) | exact HB.out)) hb); clear HB; have HB := n0_; clear n0_; (try clear hb); (try clear hb2); (try clear hk); (try clear hi)))
    go_ret
    exact ⟨by first | rfl | (simp [errW_none, errW_some] <;> rfl) | (simp [*, errW_none, errW_some] <;> rfl), by repeat (first | (with_reducible first | exact HB.out | apply below_alloc | apply pw_below_drewN | apply below_drew1) | exact HB.out)⟩

-- NOT PRINTED: function 20 (hearthlaw1_bits)

/-! ### hearthlaw1_wrapped: function 21 -/
def hearthlaw1_wrapped.f (a0 : Int) : Option (Bool) := (fix_Wrap.f a0).bind fun t264 => ((hearthref1_Wrap.f a0).bind fun t265 => (if t264 = t265 then ((fix_Fits.f a0).bind fun t266 => ((hearthref1_Fits.f a0).bind fun t267 => (some (t266 == t267)))) else (some false)))
set_option maxHeartbeats 8000000 in
set_option maxRecDepth 100000 in
theorem hearthlaw1_wrapped.calls (a0 : Int) (r : Bool) (w : World) (h : hearthlaw1_wrapped.f a0 = some r) :
    Calls Try.prog 21 #[.int .i64 a0] w fun e w' => e = .returned (.bool r) ∧ Drawn0 w w' := by
  have H : ((fix_Wrap.f a0).bind fun t264 => ((hearthref1_Wrap.f a0).bind fun t265 => (if t264 = t265 then ((fix_Fits.f a0).bind fun t266 => ((hearthref1_Fits.f a0).bind fun t267 => (some (t266 == t267)))) else (some false)))) = some r := h
  clear h
  replace H := Option.bind_eq_some_iff.mp H
  obtain ⟨t264, A20, H⟩ := H
  replace H : ((hearthref1_Wrap.f a0).bind fun t265 => (if t264 = t265 then ((fix_Fits.f a0).bind fun t266 => ((hearthref1_Fits.f a0).bind fun t267 => (some (t266 == t267)))) else (some false))) = some r := H
  have A2 := Aside0.mk A20
  clear A20
  replace H := Option.bind_eq_some_iff.mp H
  obtain ⟨t265, A30, H⟩ := H
  replace H : (if t264 = t265 then ((fix_Fits.f a0).bind fun t266 => ((hearthref1_Fits.f a0).bind fun t267 => (some (t266 == t267)))) else (some false)) = some r := H
  have A3 := Aside0.mk A30
  clear A30
  by_cases c4 : t264 = t265
  · rw [if_pos c4] at H
    have c4b0 : (t264 == t265) = true := beq_iff_eq.mpr c4
    have c4b1 : (t264 != t265) = false := bne_eq_false_iff_eq.mpr c4
    clear c4
    replace H := Option.bind_eq_some_iff.mp H
    obtain ⟨t266, A50, H⟩ := H
    replace H : ((hearthref1_Fits.f a0).bind fun t267 => (some (t266 == t267))) = some r := H
    have A5 := Aside0.mk A50
    clear A50
    replace H := Option.bind_eq_some_iff.mp H
    obtain ⟨t267, A60, H⟩ := H
    replace H : (some (t266 == t267)) = some r := H
    have A6 := Aside0.mk A60
    clear A60
    obtain rfl := Option.some.inj H
    go_enter Try.func21, Try.ntmps21
    go_wp2_with (first | ((with_reducible refine gate_callee (f := 28) rfl ?_); refine goesL_ (some 4) rfl rfl Try.func28 (by kernel_rfl) rfl #[.int .i64 a0] rfl (by (try simp only [List.map_toArray, List.map_cons, List.map_nil]); first | done | rfl | (simp only [List.length_drop, List.length_take]; rfl)) ?_; (with_reducible refine (fix_Wrap.calls a0 t264 _ A2.out).mono ?_); rintro e w' ⟨rfl, ⟨nd, rfl⟩⟩; refine ⟨_, rfl, ?_⟩) | ((with_reducible refine gate_callee (f := 52) rfl ?_); refine goesL_ (some 6) rfl rfl Try.func52 (by kernel_rfl) rfl #[.int .i64 a0] rfl (by (try simp only [List.map_toArray, List.map_cons, List.map_nil]); first | done | rfl | (simp only [List.length_drop, List.length_take]; rfl)) ?_; (with_reducible refine (hearthref1_Wrap.calls a0 t265 _ A3.out).mono ?_); rintro e w' ⟨rfl, ⟨nd, rfl⟩⟩; refine ⟨_, rfl, ?_⟩) | (go_at_call 29; (with_reducible refine (fix_Fits.calls a0 t266 _ A5.out).mono ?_); rintro e w' ⟨rfl, ⟨nd, rfl⟩⟩) | (go_at_call 53; (with_reducible refine (hearthref1_Fits.calls a0 t267 _ A6.out).mono ?_); rintro e w' ⟨rfl, ⟨nd, rfl⟩⟩))
    go_ret
    exact ⟨by first | rfl | (simp; done) | (simp [*]; done), by repeat (first | exact Drawn0.refl _ | apply Drawn0.step)⟩
  · rw [if_neg c4] at H
    have c4b0 : (t264 == t265) = false := beq_eq_false_iff_ne.mpr c4
    have c4b1 : (t264 != t265) = true := bne_iff_ne.mpr c4
    obtain rfl := Option.some.inj H
    go_enter Try.func21, Try.ntmps21
    go_wp2_with (first | ((with_reducible refine gate_callee (f := 28) rfl ?_); refine goesL_ (some 4) rfl rfl Try.func28 (by kernel_rfl) rfl #[.int .i64 a0] rfl (by (try simp only [List.map_toArray, List.map_cons, List.map_nil]); first | done | rfl | (simp only [List.length_drop, List.length_take]; rfl)) ?_; (with_reducible refine (fix_Wrap.calls a0 t264 _ A2.out).mono ?_); rintro e w' ⟨rfl, ⟨nd, rfl⟩⟩; refine ⟨_, rfl, ?_⟩) | ((with_reducible refine gate_callee (f := 52) rfl ?_); refine goesL_ (some 6) rfl rfl Try.func52 (by kernel_rfl) rfl #[.int .i64 a0] rfl (by (try simp only [List.map_toArray, List.map_cons, List.map_nil]); first | done | rfl | (simp only [List.length_drop, List.length_take]; rfl)) ?_; (with_reducible refine (hearthref1_Wrap.calls a0 t265 _ A3.out).mono ?_); rintro e w' ⟨rfl, ⟨nd, rfl⟩⟩; refine ⟨_, rfl, ?_⟩))
    go_ret
    exact ⟨by first | rfl | (simp; done) | (simp [*]; done), by repeat (first | exact Drawn0.refl _ | apply Drawn0.step)⟩

end Go.Proofs.Ytpjcheenihlagaa.PFixAll
