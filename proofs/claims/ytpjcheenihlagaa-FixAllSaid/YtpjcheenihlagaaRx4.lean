/- What functions of chapter 1 and of its reference come to, and that the Go text comes to it (after the kit's print; one walk turned). No conditions beyond those in each lemma. -/
import Derived.Test.YtpjcheenihlagaaBas
import Derived.Test.YtpjcheenihlagaaRx1
import Derived.Test.YtpjcheenihlagaaRx2
import Derived.Test.YtpjcheenihlagaaRx3
namespace Go.Proofs.Ytpjcheenihlagaa.PFixAll
open Go.RowKit Go.Proofs.YtpjcheenihlagaaW.PrintWords Go.Proofs.YtpjcheenihlagaaW.PrintLast Go.Proofs.YtpjcheenihlagaaW.PrintMore
attribute [local go_sem] max2_int min2_int max_two min_two max_three min_three max_four min_four   -- for this text's walks alone
set_option linter.unusedVariables false
set_option linter.unusedSimpArgs false

/-! ### hearthref1_FloAdd: function 23 -/
def hearthref1_FloAdd.j0 : Nat → Int → Int → Bool → Bool → Bool → Bool → Int → Int → Bool → Bool → Bool → Int → Int → Option (Int)
  | 0, _, _, _, _, _, _, _, _, _, _, _, _, _ => none
  | k + 1, x0, x1, x15, x150000, x150001, x150002, x150003, x150004, x156000, x156001, x156002, x156003, x156004 => if x15 = true then (some 9221120237041090561) else (if x150001 = true then (some x0) else (if x156001 = true then (some x1) else ((hearthref1_list.f k x150003 (wrap64 (x150004 - (mn x150004 x156004)))).bind fun t156 => ((hearthref1_list.f k x156003 (wrap64 (x156004 - (mn x150004 x156004)))).bind fun t159 => (if (x150000 == x156000) = true then ((hearthref1_summed.f k t156 t159 false).bind fun t162 => ((hearthref1_rounded.f k x150000 t162 (mn x150004 x156004) false).bind fun t165 => (some t165))) else ((hearthref1_compared.f k t156 t159).bind fun t166 => (if t166 = 0 then (some 0) else (if t166 > 0 then ((hearthref1_summed.f k t156 t159 true).bind fun t167 => ((hearthref1_rounded.f k x150000 t167 (mn x150004 x156004) false).bind fun t170 => (some t170))) else ((hearthref1_summed.f k t159 t156 true).bind fun t171 => ((hearthref1_rounded.f k x156000 t171 (mn x150004 x156004) false).bind fun t174 => (some t174)))))))))))
def hearthref1_FloAdd.f (k : Nat) (a0 : Int) (a1 : Int) : Option (Int) := (hearthref1_Parts.f k a0).bind fun bt144 => ((hearthref1_Parts.f k a1).bind fun bt150 => (if bt144.2.2.1 = true then (hearthref1_FloAdd.j0 k a0 a1 true bt144.1 bt144.2.1 bt144.2.2.1 bt144.2.2.2.1 bt144.2.2.2.2 bt150.1 bt150.2.1 bt150.2.2.1 bt150.2.2.2.1 bt150.2.2.2.2) else (if bt150.2.2.1 = true then (hearthref1_FloAdd.j0 k a0 a1 true bt144.1 bt144.2.1 bt144.2.2.1 bt144.2.2.2.1 bt144.2.2.2.2 bt150.1 bt150.2.1 bt150.2.2.1 bt150.2.2.2.1 bt150.2.2.2.2) else (if bt144.2.1 = true then (if bt150.2.1 = true then (hearthref1_FloAdd.j0 k a0 a1 (bt144.1 != bt150.1) bt144.1 bt144.2.1 bt144.2.2.1 bt144.2.2.2.1 bt144.2.2.2.2 bt150.1 bt150.2.1 bt150.2.2.1 bt150.2.2.2.1 bt150.2.2.2.2) else (hearthref1_FloAdd.j0 k a0 a1 false bt144.1 bt144.2.1 bt144.2.2.1 bt144.2.2.2.1 bt144.2.2.2.2 bt150.1 bt150.2.1 bt150.2.2.1 bt150.2.2.2.1 bt150.2.2.2.2)) else (hearthref1_FloAdd.j0 k a0 a1 false bt144.1 bt144.2.1 bt144.2.2.1 bt144.2.2.2.1 bt144.2.2.2.2 bt150.1 bt150.2.1 bt150.2.2.1 bt150.2.2.2.1 bt150.2.2.2.2)))))
theorem hearthref1_FloAdd.mono_l : ∀ k, (∀ y0 y1 y2 y3 y4 y5 y6 y7 y8 y9 y10 y11 y12, LeO (hearthref1_FloAdd.j0 k y0 y1 y2 y3 y4 y5 y6 y7 y8 y9 y10 y11 y12) (hearthref1_FloAdd.j0 (k + 1) y0 y1 y2 y3 y4 y5 y6 y7 y8 y9 y10 y11 y12))
  | 0 => fun _ _ _ _ _ _ _ _ _ _ _ _ _ r h => by simp [hearthref1_FloAdd.j0] at h
  | k + 1 => by
    have ih0 := hearthref1_FloAdd.mono_l k
    · intro y0 y1 y2 y3 y4 y5 y6 y7 y8 y9 y10 y11 y12
      unfold hearthref1_FloAdd.j0
      repeat' first
      | (with_reducible exact ih0 _ _ _ _ _ _ _ _ _ _ _ _ _)
      | (with_reducible exact hearthref1_Parts.mono _ _)
      | (with_reducible exact hearthref1_compared.mono _ _ _)
      | (with_reducible exact hearthref1_list.mono _ _ _)
      | (with_reducible exact hearthref1_rounded.mono _ _ _ _ _)
      | (with_reducible exact hearthref1_summed.mono _ _ _ _)
      | (with_reducible exact LeO.refl _)
      | (with_reducible exact LeO.none _)
      | (with_reducible refine LeO.ite ?_ ?_)
      | (with_reducible refine LeO.bind ?_ (fun _ => ?_))
      | exact ih0 _ _ _ _ _ _ _ _ _ _ _ _ _
      | exact hearthref1_Parts.mono _ _
      | exact hearthref1_compared.mono _ _ _
      | exact hearthref1_list.mono _ _ _
      | exact hearthref1_rounded.mono _ _ _ _ _
      | exact hearthref1_summed.mono _ _ _ _
      | exact LeO.none _
      | refine LeO.ite ?_ ?_
      | refine LeO.bind ?_ (fun _ => ?_)
theorem hearthref1_FloAdd.mono : ∀ a0 a1 k, LeO (hearthref1_FloAdd.f k a0 a1) (hearthref1_FloAdd.f (k + 1) a0 a1) := by
  intro a0 a1 k
  have ih0 := hearthref1_FloAdd.mono_l k
  unfold hearthref1_FloAdd.f
  repeat' first
      | (with_reducible exact ih0 _ _ _ _ _ _ _ _ _ _ _ _ _)
      | (with_reducible exact hearthref1_Parts.mono _ _)
      | (with_reducible exact hearthref1_compared.mono _ _ _)
      | (with_reducible exact hearthref1_list.mono _ _ _)
      | (with_reducible exact hearthref1_rounded.mono _ _ _ _ _)
      | (with_reducible exact hearthref1_summed.mono _ _ _ _)
      | (with_reducible exact LeO.refl _)
      | (with_reducible exact LeO.none _)
      | (with_reducible refine LeO.ite ?_ ?_)
      | (with_reducible refine LeO.bind ?_ (fun _ => ?_))
      | exact ih0 _ _ _ _ _ _ _ _ _ _ _ _ _
      | exact hearthref1_Parts.mono _ _
      | exact hearthref1_compared.mono _ _ _
      | exact hearthref1_list.mono _ _ _
      | exact hearthref1_rounded.mono _ _ _ _ _
      | exact hearthref1_summed.mono _ _ _ _
      | exact LeO.none _
      | refine LeO.ite ?_ ?_
      | refine LeO.bind ?_ (fun _ => ?_)
def hearthref1_FloAdd.T13 : Bool × List (List Nat × List Nat) := (true, [([], []), ([0], [0]), ([], []), ([], []), ([2, 3], [2, 3]), ([], []), ([1, 4, 5, 4], [1, 4, 5]), ([6, 6, 0, 1, 2, 3, 4, 5, 6], [6])])
def hearthref1_FloAdd.B13 : List Nat := [0, 1, 0, 0, 12, 0, 63, 127]
theorem hearthref1_FloAdd.tab13 : rtab .any (opsOf Try.f23 13) = hearthref1_FloAdd.T13 := by kernel_rfl
theorem hearthref1_FloAdd.bits13 : waitsOk hearthref1_FloAdd.T13.2 hearthref1_FloAdd.B13 = true := by kernel_rfl
def hearthref1_FloAdd.T18 : Bool × List (List Nat × List Nat) := (true, [([], []), ([0], [0]), ([], []), ([], []), ([2, 3], [2, 3]), ([], []), ([1, 4, 5, 4], [1, 4, 5]), ([6, 6, 0, 1, 2, 3, 4, 5, 6], [6])])
def hearthref1_FloAdd.B18 : List Nat := [0, 1, 0, 0, 12, 0, 63, 127]
theorem hearthref1_FloAdd.tab18 : rtab .any (opsOf Try.f23 18) = hearthref1_FloAdd.T18 := by kernel_rfl
theorem hearthref1_FloAdd.bits18 : waitsOk hearthref1_FloAdd.T18.2 hearthref1_FloAdd.B18 = true := by kernel_rfl
def hearthref1_FloAdd.T19 : Bool × List (List Nat × List Nat) := (true, [([], []), ([0], [0]), ([], []), ([], []), ([2, 3], [2, 3]), ([], []), ([1, 4, 5, 4], [1, 4, 5]), ([6, 6, 0, 1, 2, 3, 4, 5, 6], [6])])
def hearthref1_FloAdd.B19 : List Nat := [0, 1, 0, 0, 12, 0, 63, 127]
theorem hearthref1_FloAdd.tab19 : rtab .any (opsOf Try.f23 19) = hearthref1_FloAdd.T19 := by kernel_rfl
theorem hearthref1_FloAdd.bits19 : waitsOk hearthref1_FloAdd.T19.2 hearthref1_FloAdd.B19 = true := by kernel_rfl
set_option maxHeartbeats 8000000 in
set_option maxRecDepth 100000 in
theorem hearthref1_FloAdd.calls (k : Nat) (a0 : Int) (a1 : Int) (r : Int) (w : World) (h : hearthref1_FloAdd.f k a0 a1 = some r) :
    Calls Try.prog 23 #[.int .i64 a0, .int .i64 a1] w fun e w' => e = .returned (.int .i64 r) ∧ Below w.heap.size w w' := by
  have hu40 := Try.underlying40
  have HB := Aside0.mk (Below.refl w.heap.size w)
  have H : ((hearthref1_Parts.f k a0).bind fun bt144 => ((hearthref1_Parts.f k a1).bind fun bt150 => (if bt144.2.2.1 = true then (hearthref1_FloAdd.j0 k a0 a1 true bt144.1 bt144.2.1 bt144.2.2.1 bt144.2.2.2.1 bt144.2.2.2.2 bt150.1 bt150.2.1 bt150.2.2.1 bt150.2.2.2.1 bt150.2.2.2.2) else (if bt150.2.2.1 = true then (hearthref1_FloAdd.j0 k a0 a1 true bt144.1 bt144.2.1 bt144.2.2.1 bt144.2.2.2.1 bt144.2.2.2.2 bt150.1 bt150.2.1 bt150.2.2.1 bt150.2.2.2.1 bt150.2.2.2.2) else (if bt144.2.1 = true then (if bt150.2.1 = true then (hearthref1_FloAdd.j0 k a0 a1 (bt144.1 != bt150.1) bt144.1 bt144.2.1 bt144.2.2.1 bt144.2.2.2.1 bt144.2.2.2.2 bt150.1 bt150.2.1 bt150.2.2.1 bt150.2.2.2.1 bt150.2.2.2.2) else (hearthref1_FloAdd.j0 k a0 a1 false bt144.1 bt144.2.1 bt144.2.2.1 bt144.2.2.2.1 bt144.2.2.2.2 bt150.1 bt150.2.1 bt150.2.2.1 bt150.2.2.2.1 bt150.2.2.2.2)) else (hearthref1_FloAdd.j0 k a0 a1 false bt144.1 bt144.2.1 bt144.2.2.1 bt144.2.2.2.1 bt144.2.2.2.2 bt150.1 bt150.2.1 bt150.2.2.1 bt150.2.2.2.1 bt150.2.2.2.2)))))) = some r := h
  clear h
  replace H := Option.bind_eq_some_iff.mp H
  obtain ⟨⟨t144, t145, t146, t147, t148⟩, A30, H⟩ := H
  replace H : ((hearthref1_Parts.f k a1).bind fun bt150 => (if t146 = true then (hearthref1_FloAdd.j0 k a0 a1 true t144 t145 t146 t147 t148 bt150.1 bt150.2.1 bt150.2.2.1 bt150.2.2.2.1 bt150.2.2.2.2) else (if bt150.2.2.1 = true then (hearthref1_FloAdd.j0 k a0 a1 true t144 t145 t146 t147 t148 bt150.1 bt150.2.1 bt150.2.2.1 bt150.2.2.2.1 bt150.2.2.2.2) else (if t145 = true then (if bt150.2.1 = true then (hearthref1_FloAdd.j0 k a0 a1 (t144 != bt150.1) t144 t145 t146 t147 t148 bt150.1 bt150.2.1 bt150.2.2.1 bt150.2.2.2.1 bt150.2.2.2.2) else (hearthref1_FloAdd.j0 k a0 a1 false t144 t145 t146 t147 t148 bt150.1 bt150.2.1 bt150.2.2.1 bt150.2.2.2.1 bt150.2.2.2.2)) else (hearthref1_FloAdd.j0 k a0 a1 false t144 t145 t146 t147 t148 bt150.1 bt150.2.1 bt150.2.2.1 bt150.2.2.2.1 bt150.2.2.2.2))))) = some r := H
  have A3 := Aside0.mk A30
  clear A30
  replace H := Option.bind_eq_some_iff.mp H
  obtain ⟨⟨t150, t151, t152, t153, t154⟩, A40, H⟩ := H
  replace H : (if t146 = true then (hearthref1_FloAdd.j0 k a0 a1 true t144 t145 t146 t147 t148 t150 t151 t152 t153 t154) else (if t152 = true then (hearthref1_FloAdd.j0 k a0 a1 true t144 t145 t146 t147 t148 t150 t151 t152 t153 t154) else (if t145 = true then (if t151 = true then (hearthref1_FloAdd.j0 k a0 a1 (t144 != t150) t144 t145 t146 t147 t148 t150 t151 t152 t153 t154) else (hearthref1_FloAdd.j0 k a0 a1 false t144 t145 t146 t147 t148 t150 t151 t152 t153 t154)) else (hearthref1_FloAdd.j0 k a0 a1 false t144 t145 t146 t147 t148 t150 t151 t152 t153 t154)))) = some r := H
  have A4 := Aside0.mk A40
  clear A40
  have HC5 := Aside0.mk H
  clear H
  go_enter Try.func23, Try.ntmps23
  go_upto_region 3 with (first | ((with_reducible refine gate_callee (f := 51) rfl ?_); refine goesL_ (some 12) rfl rfl Try.func51 (by kernel_rfl) rfl #[.int .i64 a0] rfl (by (try simp only [List.map_toArray, List.map_cons, List.map_nil]); first | done | rfl | (simp only [List.length_drop, List.length_take]; rfl)) ?_; (with_reducible refine (hearthref1_Parts.calls k a0 t144 t145 t146 t147 t148 _ A3.out).mono ?_); rintro e w6 ⟨rfl, hb⟩; refine ⟨_, rfl, ?_⟩; have n0_ := Aside0.mk (below_step (by repeat (first | (with_reducible first | exact HB.out | apply below_alloc | apply pw_below_drewN | apply below_drew1) | exact HB.out)) hb); clear HB; have HB := n0_; clear n0_; (try clear hb); (try clear hb2); (try clear hk); (try clear hi)) | ((with_reducible refine gate_dst (N := 5) rfl ?_); refine box_event ?hg (N := 5) ?hd (cs := #[.bool false, .bool false, .bool false, .int .i64 0, .int .i64 0]) (t := 40) ?hr ?_; (case hd => rfl); (case hg => rfl); (case hr => first | (go_simp; done) | (go_simp; rfl)); intro gb149 hg w7 hbox hb; have n0_ := Aside0.mk (below_step (by repeat (first | (with_reducible first | exact HB.out | apply below_alloc | apply pw_below_drewN | apply below_drew1) | exact HB.out)) hb); have n1_ := Aside0.mk (hbox); have n2_ := Aside0.mk ((by rw [hg]; exact (below_size (by repeat (first | (with_reducible first | exact HB.out | apply below_alloc | apply pw_below_drewN | apply below_drew1) | exact HB.out))) : w.heap.size ≤ gb149)); have n3_ := Aside0.mk ((by rw [hg]; exact (below_size (by repeat (first | (with_reducible first | exact HB.out | apply below_alloc | apply pw_below_drewN | apply below_drew1) | exact HB.out))) : w.heap.size ≤ gb149)); clear HB; have HB := n0_; have BK149 := n1_; have GW149 := n2_; have GE149 := n3_; clear n0_ n1_ n2_ n3_; clear hb hbox hg; have hcz8_0 : w7.cell? ⟨gb149, 0, none⟩ = some (.bool false) := (blk_cell BK149.out 0).trans rfl; have hcz8_1 : w7.cell? ⟨gb149, 1, none⟩ = some (.bool false) := (blk_cell BK149.out 1).trans rfl; have hcz8_2 : w7.cell? ⟨gb149, 2, none⟩ = some (.bool false) := (blk_cell BK149.out 2).trans rfl; have hcz8_3 : w7.cell? ⟨gb149, 3, none⟩ = some (.int .i64 0) := (blk_cell BK149.out 3).trans rfl; have hcz8_4 : w7.cell? ⟨gb149, 4, none⟩ = some (.int .i64 0) := (blk_cell BK149.out 4).trans rfl; have hfz8_0 := blk_frozen BK149.out 0; have hfz8_1 := blk_frozen BK149.out 1; have hfz8_2 := blk_frozen BK149.out 2; have hfz8_3 := blk_frozen BK149.out 3; have hfz8_4 := blk_frozen BK149.out 4) | ((with_reducible refine gate_callee (f := 51) rfl ?_); refine goesL_ (some 14) rfl rfl Try.func51 (by kernel_rfl) rfl #[.int .i64 a1] rfl (by (try simp only [List.map_toArray, List.map_cons, List.map_nil]); first | done | rfl | (simp only [List.length_drop, List.length_take]; rfl)) ?_; (with_reducible refine (hearthref1_Parts.calls k a1 t150 t151 t152 t153 t154 _ A4.out).mono ?_); rintro e w9 ⟨rfl, hb⟩; refine ⟨_, rfl, ?_⟩; have n0_ := Aside0.mk (blk_below (g := gb149) (o := .cells #[.bool t144, .bool t145, .bool t146, .int .i64 t147, .int .i64 t148] 40 (0, 0)) (by (with_reducible repeat (first | refine blk_drewN ?_ _ | refine blk_drew ?_ | refine blk_alloc ?_ _)); refine blk_put (cs := #[.bool t144, .bool t145, .bool t146, .int .i64 t147, .int .i64 0]) ?_ 4 _ rfl; (with_reducible repeat (first | refine blk_drewN ?_ _ | refine blk_drew ?_ | refine blk_alloc ?_ _)); refine blk_put (cs := #[.bool t144, .bool t145, .bool t146, .int .i64 0, .int .i64 0]) ?_ 3 _ rfl; (with_reducible repeat (first | refine blk_drewN ?_ _ | refine blk_drew ?_ | refine blk_alloc ?_ _)); refine blk_put (cs := #[.bool t144, .bool t145, .bool false, .int .i64 0, .int .i64 0]) ?_ 2 _ rfl; (with_reducible repeat (first | refine blk_drewN ?_ _ | refine blk_drew ?_ | refine blk_alloc ?_ _)); refine blk_put (cs := #[.bool t144, .bool false, .bool false, .int .i64 0, .int .i64 0]) ?_ 1 _ rfl; (with_reducible repeat (first | refine blk_drewN ?_ _ | refine blk_drew ?_ | refine blk_alloc ?_ _)); refine blk_put (cs := #[.bool false, .bool false, .bool false, .int .i64 0, .int .i64 0]) ?_ 0 _ rfl; (with_reducible repeat (first | refine blk_drewN ?_ _ | refine blk_drew ?_ | refine blk_alloc ?_ _)); exact BK149.out) hb); have n1_ := Aside0.mk (below_step (by repeat (first | (with_reducible first | exact HB.out | apply below_alloc | apply pw_below_drewN | apply below_drew1 | refine below_set ?_ GE149.out) | exact HB.out)) hb); clear BK149; clear HB; have BK149 := n0_; have HB := n1_; clear n0_ n1_; (try clear hb); (try clear hb2); (try clear hk); (try clear hi)) | ((with_reducible refine gate_dst (N := 6) rfl ?_); refine box_event ?hg (N := 6) ?hd (cs := #[.bool false, .bool false, .bool false, .int .i64 0, .int .i64 0]) (t := 40) ?hr ?_; (case hd => rfl); (case hg => rfl); (case hr => first | (go_simp; done) | (go_simp; rfl)); intro gb155 hg w10 hbox hb; have n0_ := Aside0.mk (blk_below (g := gb149) (o := .cells #[.bool t144, .bool t145, .bool t146, .int .i64 t147, .int .i64 t148] 40 (0, 0)) (by (with_reducible repeat (first | refine blk_drewN ?_ _ | refine blk_drew ?_ | refine blk_alloc ?_ _)); exact BK149.out) hb); have n1_ := Aside0.mk (below_step (by repeat (first | (with_reducible first | exact HB.out | apply below_alloc | apply pw_below_drewN | apply below_drew1 | refine below_set ?_ GE149.out) | exact HB.out)) hb); have n2_ := Aside0.mk (hbox); have n3_ := Aside0.mk ((by rw [hg]; exact (below_size (by repeat (first | (with_reducible first | exact HB.out | apply below_alloc | apply pw_below_drewN | apply below_drew1 | refine below_set ?_ GE149.out) | exact HB.out))) : w.heap.size ≤ gb155)); have n4_ := Aside0.mk ((by rw [hg]; exact (below_size (by repeat (first | (with_reducible first | exact HB.out | apply below_alloc | apply pw_below_drewN | apply below_drew1 | refine below_set ?_ GE149.out) | exact HB.out))) : w.heap.size ≤ gb155)); have n5_ := Aside0.mk ((by rw [hg]; exact Nat.ne_of_lt (blk_lt (g := gb149) (o := .cells #[.bool t144, .bool t145, .bool t146, .int .i64 t147, .int .i64 t148] 40 (0, 0)) (by (with_reducible repeat (first | refine blk_drewN ?_ _ | refine blk_drew ?_ | refine blk_alloc ?_ _)); exact BK149.out)) : gb149 ≠ gb155)); have n6_ := Aside0.mk ((by rw [hg]; exact Nat.ne_of_gt (blk_lt (g := gb149) (o := .cells #[.bool t144, .bool t145, .bool t146, .int .i64 t147, .int .i64 t148] 40 (0, 0)) (by (with_reducible repeat (first | refine blk_drewN ?_ _ | refine blk_drew ?_ | refine blk_alloc ?_ _)); exact BK149.out)) : gb155 ≠ gb149)); clear BK149; clear HB; have BK149 := n0_; have HB := n1_; have BK155 := n2_; have GW155 := n3_; have GE155 := n4_; have NB149_155 := n5_; have NB155_149 := n6_; clear n0_ n1_ n2_ n3_ n4_ n5_ n6_; clear hb hbox hg; have hnb11 := NB155_149.out; have hnc11 := NB149_155.out; have hcz12_0 : w10.cell? ⟨gb155, 0, none⟩ = some (.bool false) := (blk_cell BK155.out 0).trans rfl; have hcz12_1 : w10.cell? ⟨gb155, 1, none⟩ = some (.bool false) := (blk_cell BK155.out 1).trans rfl; have hcz12_2 : w10.cell? ⟨gb155, 2, none⟩ = some (.bool false) := (blk_cell BK155.out 2).trans rfl; have hcz12_3 : w10.cell? ⟨gb155, 3, none⟩ = some (.int .i64 0) := (blk_cell BK155.out 3).trans rfl; have hcz12_4 : w10.cell? ⟨gb155, 4, none⟩ = some (.int .i64 0) := (blk_cell BK155.out 4).trans rfl; have hfz12_0 := blk_frozen BK155.out 0; have hfz12_1 := blk_frozen BK155.out 1; have hfz12_2 := blk_frozen BK155.out 2; have hfz12_3 := blk_frozen BK155.out 3; have hfz12_4 := blk_frozen BK155.out 4))
  (try simp only [Act.put, List.setIfInBounds_toArray, List.set_cons_zero, List.set_cons_succ])
  go_cut [15] (fun v15 wc => ∃ (kq : Nat) (x15_4 : Bool), v15 = .bool x15_4 ∧ Aside0 (hearthref1_FloAdd.j0 kq a0 a1 x15_4 t144 t145 t146 t147 t148 t150 t151 t152 t153 t154 = some r) ∧ Aside0 (kq ≤ k) ∧ Aside0 (wc.heap[gb149]? = some (.cells #[.bool t144, .bool t145, .bool t146, .int .i64 t147, .int .i64 t148] 40 (0, 0))) ∧ Aside0 (wc.heap[gb155]? = some (.cells #[.bool t150, .bool t151, .bool t152, .int .i64 t153, .int .i64 t154] 40 (0, 0))) ∧ Aside0 (Below w.heap.size w wc))
  case first =>
    have H := HC5.out
    clear HC5
    by_cases c13 : t146 = true
    · subst c13
      have H1 : (hearthref1_FloAdd.j0 k a0 a1 true t144 t145 true t147 t148 t150 t151 t152 t153 t154) = some r := by rw [if_pos rfl] at H; exact H
      clear H
      have H := H1
      clear H1
      have H' := Aside0.mk H
      clear H
      have hnb14 := NB149_155.out
      have hnc14 := NB155_149.out
      have hcz15_0 : w10.cell? ⟨gb149, 0, none⟩ = some (.bool t144) := (blk_cell BK149.out 0).trans rfl
      have hcz15_1 : w10.cell? ⟨gb149, 1, none⟩ = some (.bool t145) := (blk_cell BK149.out 1).trans rfl
      have hcz15_2 : w10.cell? ⟨gb149, 2, none⟩ = some (.bool true) := (blk_cell BK149.out 2).trans rfl
      have hcz15_3 : w10.cell? ⟨gb149, 3, none⟩ = some (.int .i64 t147) := (blk_cell BK149.out 3).trans rfl
      have hcz15_4 : w10.cell? ⟨gb149, 4, none⟩ = some (.int .i64 t148) := (blk_cell BK149.out 4).trans rfl
      have hfz15_0 := blk_frozen BK149.out 0
      have hfz15_1 := blk_frozen BK149.out 1
      have hfz15_2 := blk_frozen BK149.out 2
      have hfz15_3 := blk_frozen BK149.out 3
      have hfz15_4 := blk_frozen BK149.out 4
      go_wp2
      go_meet
      case rel => exact ⟨_, (true), (by first | rfl | (simp; done) | (simp [*]; done)), H', ⟨by first | omega | exact Nat.le_refl _⟩, ⟨by (with_reducible repeat (first | refine blk_drewN ?_ _ | refine blk_drew ?_ | refine blk_alloc ?_ _)); refine blk_far ?_ NB149_155.out _; (with_reducible repeat (first | refine blk_drewN ?_ _ | refine blk_drew ?_ | refine blk_alloc ?_ _)); refine blk_far ?_ NB149_155.out _; (with_reducible repeat (first | refine blk_drewN ?_ _ | refine blk_drew ?_ | refine blk_alloc ?_ _)); refine blk_far ?_ NB149_155.out _; (with_reducible repeat (first | refine blk_drewN ?_ _ | refine blk_drew ?_ | refine blk_alloc ?_ _)); refine blk_far ?_ NB149_155.out _; (with_reducible repeat (first | refine blk_drewN ?_ _ | refine blk_drew ?_ | refine blk_alloc ?_ _)); refine blk_far ?_ NB149_155.out _; (with_reducible repeat (first | refine blk_drewN ?_ _ | refine blk_drew ?_ | refine blk_alloc ?_ _)); exact BK149.out⟩, ⟨by (with_reducible repeat (first | refine blk_drewN ?_ _ | refine blk_drew ?_ | refine blk_alloc ?_ _)); refine blk_put (cs := #[.bool t150, .bool t151, .bool t152, .int .i64 t153, .int .i64 0]) ?_ 4 _ rfl; (with_reducible repeat (first | refine blk_drewN ?_ _ | refine blk_drew ?_ | refine blk_alloc ?_ _)); refine blk_put (cs := #[.bool t150, .bool t151, .bool t152, .int .i64 0, .int .i64 0]) ?_ 3 _ rfl; (with_reducible repeat (first | refine blk_drewN ?_ _ | refine blk_drew ?_ | refine blk_alloc ?_ _)); refine blk_put (cs := #[.bool t150, .bool t151, .bool false, .int .i64 0, .int .i64 0]) ?_ 2 _ rfl; (with_reducible repeat (first | refine blk_drewN ?_ _ | refine blk_drew ?_ | refine blk_alloc ?_ _)); refine blk_put (cs := #[.bool t150, .bool false, .bool false, .int .i64 0, .int .i64 0]) ?_ 1 _ rfl; (with_reducible repeat (first | refine blk_drewN ?_ _ | refine blk_drew ?_ | refine blk_alloc ?_ _)); refine blk_put (cs := #[.bool false, .bool false, .bool false, .int .i64 0, .int .i64 0]) ?_ 0 _ rfl; (with_reducible repeat (first | refine blk_drewN ?_ _ | refine blk_drew ?_ | refine blk_alloc ?_ _)); exact BK155.out⟩, ⟨by repeat (first | (with_reducible first | exact HB.out | apply below_alloc | apply pw_below_drewN | apply below_drew1 | refine below_set ?_ GE149.out | refine below_set ?_ GE155.out) | exact HB.out)⟩⟩
    · replace c13 := Bool.eq_false_iff.mpr c13
      subst c13
      have H1 : (if t152 = true then (hearthref1_FloAdd.j0 k a0 a1 true t144 t145 false t147 t148 t150 t151 t152 t153 t154) else (if t145 = true then (if t151 = true then (hearthref1_FloAdd.j0 k a0 a1 (t144 != t150) t144 t145 false t147 t148 t150 t151 t152 t153 t154) else (hearthref1_FloAdd.j0 k a0 a1 false t144 t145 false t147 t148 t150 t151 t152 t153 t154)) else (hearthref1_FloAdd.j0 k a0 a1 false t144 t145 false t147 t148 t150 t151 t152 t153 t154))) = some r := by rw [if_neg (show ¬ (false = true) by decide)] at H; exact H
      clear H
      have H := H1
      clear H1
      by_cases c16 : t152 = true
      · subst c16
        have H1 : (hearthref1_FloAdd.j0 k a0 a1 true t144 t145 false t147 t148 t150 t151 true t153 t154) = some r := by rw [if_pos rfl] at H; exact H
        clear H
        have H := H1
        clear H1
        have H' := Aside0.mk H
        clear H
        have hnb17 := NB149_155.out
        have hnc17 := NB155_149.out
        have hcz18_0 : w10.cell? ⟨gb149, 0, none⟩ = some (.bool t144) := (blk_cell BK149.out 0).trans rfl
        have hcz18_1 : w10.cell? ⟨gb149, 1, none⟩ = some (.bool t145) := (blk_cell BK149.out 1).trans rfl
        have hcz18_2 : w10.cell? ⟨gb149, 2, none⟩ = some (.bool false) := (blk_cell BK149.out 2).trans rfl
        have hcz18_3 : w10.cell? ⟨gb149, 3, none⟩ = some (.int .i64 t147) := (blk_cell BK149.out 3).trans rfl
        have hcz18_4 : w10.cell? ⟨gb149, 4, none⟩ = some (.int .i64 t148) := (blk_cell BK149.out 4).trans rfl
        have hfz18_0 := blk_frozen BK149.out 0
        have hfz18_1 := blk_frozen BK149.out 1
        have hfz18_2 := blk_frozen BK149.out 2
        have hfz18_3 := blk_frozen BK149.out 3
        have hfz18_4 := blk_frozen BK149.out 4
        have hcz19_0 : w10.cell? ⟨gb155, 0, none⟩ = some (.bool false) := (blk_cell BK155.out 0).trans rfl
        have hcz19_1 : w10.cell? ⟨gb155, 1, none⟩ = some (.bool false) := (blk_cell BK155.out 1).trans rfl
        have hcz19_2 : w10.cell? ⟨gb155, 2, none⟩ = some (.bool false) := (blk_cell BK155.out 2).trans rfl
        have hcz19_3 : w10.cell? ⟨gb155, 3, none⟩ = some (.int .i64 0) := (blk_cell BK155.out 3).trans rfl
        have hcz19_4 : w10.cell? ⟨gb155, 4, none⟩ = some (.int .i64 0) := (blk_cell BK155.out 4).trans rfl
        have hfz19_0 := blk_frozen BK155.out 0
        have hfz19_1 := blk_frozen BK155.out 1
        have hfz19_2 := blk_frozen BK155.out 2
        have hfz19_3 := blk_frozen BK155.out 3
        have hfz19_4 := blk_frozen BK155.out 4
        go_wp2
        go_meet
        case rel => exact ⟨_, (true), (by first | rfl | (simp; done) | (simp [*]; done)), H', ⟨by first | omega | exact Nat.le_refl _⟩, ⟨by (with_reducible repeat (first | refine blk_drewN ?_ _ | refine blk_drew ?_ | refine blk_alloc ?_ _)); refine blk_far ?_ NB149_155.out _; (with_reducible repeat (first | refine blk_drewN ?_ _ | refine blk_drew ?_ | refine blk_alloc ?_ _)); refine blk_far ?_ NB149_155.out _; (with_reducible repeat (first | refine blk_drewN ?_ _ | refine blk_drew ?_ | refine blk_alloc ?_ _)); refine blk_far ?_ NB149_155.out _; (with_reducible repeat (first | refine blk_drewN ?_ _ | refine blk_drew ?_ | refine blk_alloc ?_ _)); refine blk_far ?_ NB149_155.out _; (with_reducible repeat (first | refine blk_drewN ?_ _ | refine blk_drew ?_ | refine blk_alloc ?_ _)); refine blk_far ?_ NB149_155.out _; (with_reducible repeat (first | refine blk_drewN ?_ _ | refine blk_drew ?_ | refine blk_alloc ?_ _)); exact BK149.out⟩, ⟨by (with_reducible repeat (first | refine blk_drewN ?_ _ | refine blk_drew ?_ | refine blk_alloc ?_ _)); refine blk_put (cs := #[.bool t150, .bool t151, .bool true, .int .i64 t153, .int .i64 0]) ?_ 4 _ rfl; (with_reducible repeat (first | refine blk_drewN ?_ _ | refine blk_drew ?_ | refine blk_alloc ?_ _)); refine blk_put (cs := #[.bool t150, .bool t151, .bool true, .int .i64 0, .int .i64 0]) ?_ 3 _ rfl; (with_reducible repeat (first | refine blk_drewN ?_ _ | refine blk_drew ?_ | refine blk_alloc ?_ _)); refine blk_put (cs := #[.bool t150, .bool t151, .bool false, .int .i64 0, .int .i64 0]) ?_ 2 _ rfl; (with_reducible repeat (first | refine blk_drewN ?_ _ | refine blk_drew ?_ | refine blk_alloc ?_ _)); refine blk_put (cs := #[.bool t150, .bool false, .bool false, .int .i64 0, .int .i64 0]) ?_ 1 _ rfl; (with_reducible repeat (first | refine blk_drewN ?_ _ | refine blk_drew ?_ | refine blk_alloc ?_ _)); refine blk_put (cs := #[.bool false, .bool false, .bool false, .int .i64 0, .int .i64 0]) ?_ 0 _ rfl; (with_reducible repeat (first | refine blk_drewN ?_ _ | refine blk_drew ?_ | refine blk_alloc ?_ _)); exact BK155.out⟩, ⟨by repeat (first | (with_reducible first | exact HB.out | apply below_alloc | apply pw_below_drewN | apply below_drew1 | refine below_set ?_ GE149.out | refine below_set ?_ GE155.out) | exact HB.out)⟩⟩
      · replace c16 := Bool.eq_false_iff.mpr c16
        subst c16
        have H1 : (if t145 = true then (if t151 = true then (hearthref1_FloAdd.j0 k a0 a1 (t144 != t150) t144 t145 false t147 t148 t150 t151 false t153 t154) else (hearthref1_FloAdd.j0 k a0 a1 false t144 t145 false t147 t148 t150 t151 false t153 t154)) else (hearthref1_FloAdd.j0 k a0 a1 false t144 t145 false t147 t148 t150 t151 false t153 t154)) = some r := by rw [if_neg (show ¬ (false = true) by decide)] at H; exact H
        clear H
        have H := H1
        clear H1
        by_cases c20 : t145 = true
        · subst c20
          have H1 : (if t151 = true then (hearthref1_FloAdd.j0 k a0 a1 (t144 != t150) t144 true false t147 t148 t150 t151 false t153 t154) else (hearthref1_FloAdd.j0 k a0 a1 false t144 true false t147 t148 t150 t151 false t153 t154)) = some r := by rw [if_pos rfl] at H; exact H
          clear H
          have H := H1
          clear H1
          by_cases c21 : t151 = true
          · subst c21
            have H1 : (hearthref1_FloAdd.j0 k a0 a1 (t144 != t150) t144 true false t147 t148 t150 true false t153 t154) = some r := by rw [if_pos rfl] at H; exact H
            clear H
            have H := H1
            clear H1
            have H' := Aside0.mk H
            clear H
            have hnb22 := NB149_155.out
            have hnc22 := NB155_149.out
            have hcz23_0 : w10.cell? ⟨gb149, 0, none⟩ = some (.bool t144) := (blk_cell BK149.out 0).trans rfl
            have hcz23_1 : w10.cell? ⟨gb149, 1, none⟩ = some (.bool true) := (blk_cell BK149.out 1).trans rfl
            have hcz23_2 : w10.cell? ⟨gb149, 2, none⟩ = some (.bool false) := (blk_cell BK149.out 2).trans rfl
            have hcz23_3 : w10.cell? ⟨gb149, 3, none⟩ = some (.int .i64 t147) := (blk_cell BK149.out 3).trans rfl
            have hcz23_4 : w10.cell? ⟨gb149, 4, none⟩ = some (.int .i64 t148) := (blk_cell BK149.out 4).trans rfl
            have hfz23_0 := blk_frozen BK149.out 0
            have hfz23_1 := blk_frozen BK149.out 1
            have hfz23_2 := blk_frozen BK149.out 2
            have hfz23_3 := blk_frozen BK149.out 3
            have hfz23_4 := blk_frozen BK149.out 4
            have hcz24_0 : w10.cell? ⟨gb155, 0, none⟩ = some (.bool false) := (blk_cell BK155.out 0).trans rfl
            have hcz24_1 : w10.cell? ⟨gb155, 1, none⟩ = some (.bool false) := (blk_cell BK155.out 1).trans rfl
            have hcz24_2 : w10.cell? ⟨gb155, 2, none⟩ = some (.bool false) := (blk_cell BK155.out 2).trans rfl
            have hcz24_3 : w10.cell? ⟨gb155, 3, none⟩ = some (.int .i64 0) := (blk_cell BK155.out 3).trans rfl
            have hcz24_4 : w10.cell? ⟨gb155, 4, none⟩ = some (.int .i64 0) := (blk_cell BK155.out 4).trans rfl
            have hfz24_0 := blk_frozen BK155.out 0
            have hfz24_1 := blk_frozen BK155.out 1
            have hfz24_2 := blk_frozen BK155.out 2
            have hfz24_3 := blk_frozen BK155.out 3
            have hfz24_4 := blk_frozen BK155.out 4
            go_wp2
            go_meet
            case rel => exact ⟨_, ((t144 != t150)), (by first | rfl | (simp; done) | (simp [*]; done)), H', ⟨by first | omega | exact Nat.le_refl _⟩, ⟨by (with_reducible repeat (first | refine blk_drewN ?_ _ | refine blk_drew ?_ | refine blk_alloc ?_ _)); refine blk_far ?_ NB149_155.out _; (with_reducible repeat (first | refine blk_drewN ?_ _ | refine blk_drew ?_ | refine blk_alloc ?_ _)); refine blk_far ?_ NB149_155.out _; (with_reducible repeat (first | refine blk_drewN ?_ _ | refine blk_drew ?_ | refine blk_alloc ?_ _)); refine blk_far ?_ NB149_155.out _; (with_reducible repeat (first | refine blk_drewN ?_ _ | refine blk_drew ?_ | refine blk_alloc ?_ _)); refine blk_far ?_ NB149_155.out _; (with_reducible repeat (first | refine blk_drewN ?_ _ | refine blk_drew ?_ | refine blk_alloc ?_ _)); refine blk_far ?_ NB149_155.out _; (with_reducible repeat (first | refine blk_drewN ?_ _ | refine blk_drew ?_ | refine blk_alloc ?_ _)); exact BK149.out⟩, ⟨by (with_reducible repeat (first | refine blk_drewN ?_ _ | refine blk_drew ?_ | refine blk_alloc ?_ _)); refine blk_put (cs := #[.bool t150, .bool true, .bool false, .int .i64 t153, .int .i64 0]) ?_ 4 _ rfl; (with_reducible repeat (first | refine blk_drewN ?_ _ | refine blk_drew ?_ | refine blk_alloc ?_ _)); refine blk_put (cs := #[.bool t150, .bool true, .bool false, .int .i64 0, .int .i64 0]) ?_ 3 _ rfl; (with_reducible repeat (first | refine blk_drewN ?_ _ | refine blk_drew ?_ | refine blk_alloc ?_ _)); refine blk_put (cs := #[.bool t150, .bool true, .bool false, .int .i64 0, .int .i64 0]) ?_ 2 _ rfl; (with_reducible repeat (first | refine blk_drewN ?_ _ | refine blk_drew ?_ | refine blk_alloc ?_ _)); refine blk_put (cs := #[.bool t150, .bool false, .bool false, .int .i64 0, .int .i64 0]) ?_ 1 _ rfl; (with_reducible repeat (first | refine blk_drewN ?_ _ | refine blk_drew ?_ | refine blk_alloc ?_ _)); refine blk_put (cs := #[.bool false, .bool false, .bool false, .int .i64 0, .int .i64 0]) ?_ 0 _ rfl; (with_reducible repeat (first | refine blk_drewN ?_ _ | refine blk_drew ?_ | refine blk_alloc ?_ _)); exact BK155.out⟩, ⟨by repeat (first | (with_reducible first | exact HB.out | apply below_alloc | apply pw_below_drewN | apply below_drew1 | refine below_set ?_ GE149.out | refine below_set ?_ GE155.out) | exact HB.out)⟩⟩
          · replace c21 := Bool.eq_false_iff.mpr c21
            subst c21
            have H1 : (hearthref1_FloAdd.j0 k a0 a1 false t144 true false t147 t148 t150 false false t153 t154) = some r := by rw [if_neg (show ¬ (false = true) by decide)] at H; exact H
            clear H
            have H := H1
            clear H1
            have H' := Aside0.mk H
            clear H
            have hnb25 := NB149_155.out
            have hnc25 := NB155_149.out
            have hcz26_0 : w10.cell? ⟨gb149, 0, none⟩ = some (.bool t144) := (blk_cell BK149.out 0).trans rfl
            have hcz26_1 : w10.cell? ⟨gb149, 1, none⟩ = some (.bool true) := (blk_cell BK149.out 1).trans rfl
            have hcz26_2 : w10.cell? ⟨gb149, 2, none⟩ = some (.bool false) := (blk_cell BK149.out 2).trans rfl
            have hcz26_3 : w10.cell? ⟨gb149, 3, none⟩ = some (.int .i64 t147) := (blk_cell BK149.out 3).trans rfl
            have hcz26_4 : w10.cell? ⟨gb149, 4, none⟩ = some (.int .i64 t148) := (blk_cell BK149.out 4).trans rfl
            have hfz26_0 := blk_frozen BK149.out 0
            have hfz26_1 := blk_frozen BK149.out 1
            have hfz26_2 := blk_frozen BK149.out 2
            have hfz26_3 := blk_frozen BK149.out 3
            have hfz26_4 := blk_frozen BK149.out 4
            have hcz27_0 : w10.cell? ⟨gb155, 0, none⟩ = some (.bool false) := (blk_cell BK155.out 0).trans rfl
            have hcz27_1 : w10.cell? ⟨gb155, 1, none⟩ = some (.bool false) := (blk_cell BK155.out 1).trans rfl
            have hcz27_2 : w10.cell? ⟨gb155, 2, none⟩ = some (.bool false) := (blk_cell BK155.out 2).trans rfl
            have hcz27_3 : w10.cell? ⟨gb155, 3, none⟩ = some (.int .i64 0) := (blk_cell BK155.out 3).trans rfl
            have hcz27_4 : w10.cell? ⟨gb155, 4, none⟩ = some (.int .i64 0) := (blk_cell BK155.out 4).trans rfl
            have hfz27_0 := blk_frozen BK155.out 0
            have hfz27_1 := blk_frozen BK155.out 1
            have hfz27_2 := blk_frozen BK155.out 2
            have hfz27_3 := blk_frozen BK155.out 3
            have hfz27_4 := blk_frozen BK155.out 4
            go_wp2
            go_meet
            case rel => exact ⟨_, (false), (by first | rfl | (simp; done) | (simp [*]; done)), H', ⟨by first | omega | exact Nat.le_refl _⟩, ⟨by (with_reducible repeat (first | refine blk_drewN ?_ _ | refine blk_drew ?_ | refine blk_alloc ?_ _)); refine blk_far ?_ NB149_155.out _; (with_reducible repeat (first | refine blk_drewN ?_ _ | refine blk_drew ?_ | refine blk_alloc ?_ _)); refine blk_far ?_ NB149_155.out _; (with_reducible repeat (first | refine blk_drewN ?_ _ | refine blk_drew ?_ | refine blk_alloc ?_ _)); refine blk_far ?_ NB149_155.out _; (with_reducible repeat (first | refine blk_drewN ?_ _ | refine blk_drew ?_ | refine blk_alloc ?_ _)); refine blk_far ?_ NB149_155.out _; (with_reducible repeat (first | refine blk_drewN ?_ _ | refine blk_drew ?_ | refine blk_alloc ?_ _)); refine blk_far ?_ NB149_155.out _; (with_reducible repeat (first | refine blk_drewN ?_ _ | refine blk_drew ?_ | refine blk_alloc ?_ _)); exact BK149.out⟩, ⟨by (with_reducible repeat (first | refine blk_drewN ?_ _ | refine blk_drew ?_ | refine blk_alloc ?_ _)); refine blk_put (cs := #[.bool t150, .bool false, .bool false, .int .i64 t153, .int .i64 0]) ?_ 4 _ rfl; (with_reducible repeat (first | refine blk_drewN ?_ _ | refine blk_drew ?_ | refine blk_alloc ?_ _)); refine blk_put (cs := #[.bool t150, .bool false, .bool false, .int .i64 0, .int .i64 0]) ?_ 3 _ rfl; (with_reducible repeat (first | refine blk_drewN ?_ _ | refine blk_drew ?_ | refine blk_alloc ?_ _)); refine blk_put (cs := #[.bool t150, .bool false, .bool false, .int .i64 0, .int .i64 0]) ?_ 2 _ rfl; (with_reducible repeat (first | refine blk_drewN ?_ _ | refine blk_drew ?_ | refine blk_alloc ?_ _)); refine blk_put (cs := #[.bool t150, .bool false, .bool false, .int .i64 0, .int .i64 0]) ?_ 1 _ rfl; (with_reducible repeat (first | refine blk_drewN ?_ _ | refine blk_drew ?_ | refine blk_alloc ?_ _)); refine blk_put (cs := #[.bool false, .bool false, .bool false, .int .i64 0, .int .i64 0]) ?_ 0 _ rfl; (with_reducible repeat (first | refine blk_drewN ?_ _ | refine blk_drew ?_ | refine blk_alloc ?_ _)); exact BK155.out⟩, ⟨by repeat (first | (with_reducible first | exact HB.out | apply below_alloc | apply pw_below_drewN | apply below_drew1 | refine below_set ?_ GE149.out | refine below_set ?_ GE155.out) | exact HB.out)⟩⟩
        · replace c20 := Bool.eq_false_iff.mpr c20
          subst c20
          have H1 : (hearthref1_FloAdd.j0 k a0 a1 false t144 false false t147 t148 t150 t151 false t153 t154) = some r := by rw [if_neg (show ¬ (false = true) by decide)] at H; exact H
          clear H
          have H := H1
          clear H1
          have H' := Aside0.mk H
          clear H
          have hnb28 := NB149_155.out
          have hnc28 := NB155_149.out
          have hcz29_0 : w10.cell? ⟨gb149, 0, none⟩ = some (.bool t144) := (blk_cell BK149.out 0).trans rfl
          have hcz29_1 : w10.cell? ⟨gb149, 1, none⟩ = some (.bool false) := (blk_cell BK149.out 1).trans rfl
          have hcz29_2 : w10.cell? ⟨gb149, 2, none⟩ = some (.bool false) := (blk_cell BK149.out 2).trans rfl
          have hcz29_3 : w10.cell? ⟨gb149, 3, none⟩ = some (.int .i64 t147) := (blk_cell BK149.out 3).trans rfl
          have hcz29_4 : w10.cell? ⟨gb149, 4, none⟩ = some (.int .i64 t148) := (blk_cell BK149.out 4).trans rfl
          have hfz29_0 := blk_frozen BK149.out 0
          have hfz29_1 := blk_frozen BK149.out 1
          have hfz29_2 := blk_frozen BK149.out 2
          have hfz29_3 := blk_frozen BK149.out 3
          have hfz29_4 := blk_frozen BK149.out 4
          have hcz30_0 : w10.cell? ⟨gb155, 0, none⟩ = some (.bool false) := (blk_cell BK155.out 0).trans rfl
          have hcz30_1 : w10.cell? ⟨gb155, 1, none⟩ = some (.bool false) := (blk_cell BK155.out 1).trans rfl
          have hcz30_2 : w10.cell? ⟨gb155, 2, none⟩ = some (.bool false) := (blk_cell BK155.out 2).trans rfl
          have hcz30_3 : w10.cell? ⟨gb155, 3, none⟩ = some (.int .i64 0) := (blk_cell BK155.out 3).trans rfl
          have hcz30_4 : w10.cell? ⟨gb155, 4, none⟩ = some (.int .i64 0) := (blk_cell BK155.out 4).trans rfl
          have hfz30_0 := blk_frozen BK155.out 0
          have hfz30_1 := blk_frozen BK155.out 1
          have hfz30_2 := blk_frozen BK155.out 2
          have hfz30_3 := blk_frozen BK155.out 3
          have hfz30_4 := blk_frozen BK155.out 4
          go_wp2
          go_meet
          case rel => exact ⟨_, (false), (by first | rfl | (simp; done) | (simp [*]; done)), H', ⟨by first | omega | exact Nat.le_refl _⟩, ⟨by (with_reducible repeat (first | refine blk_drewN ?_ _ | refine blk_drew ?_ | refine blk_alloc ?_ _)); refine blk_far ?_ NB149_155.out _; (with_reducible repeat (first | refine blk_drewN ?_ _ | refine blk_drew ?_ | refine blk_alloc ?_ _)); refine blk_far ?_ NB149_155.out _; (with_reducible repeat (first | refine blk_drewN ?_ _ | refine blk_drew ?_ | refine blk_alloc ?_ _)); refine blk_far ?_ NB149_155.out _; (with_reducible repeat (first | refine blk_drewN ?_ _ | refine blk_drew ?_ | refine blk_alloc ?_ _)); refine blk_far ?_ NB149_155.out _; (with_reducible repeat (first | refine blk_drewN ?_ _ | refine blk_drew ?_ | refine blk_alloc ?_ _)); refine blk_far ?_ NB149_155.out _; (with_reducible repeat (first | refine blk_drewN ?_ _ | refine blk_drew ?_ | refine blk_alloc ?_ _)); exact BK149.out⟩, ⟨by (with_reducible repeat (first | refine blk_drewN ?_ _ | refine blk_drew ?_ | refine blk_alloc ?_ _)); refine blk_put (cs := #[.bool t150, .bool t151, .bool false, .int .i64 t153, .int .i64 0]) ?_ 4 _ rfl; (with_reducible repeat (first | refine blk_drewN ?_ _ | refine blk_drew ?_ | refine blk_alloc ?_ _)); refine blk_put (cs := #[.bool t150, .bool t151, .bool false, .int .i64 0, .int .i64 0]) ?_ 3 _ rfl; (with_reducible repeat (first | refine blk_drewN ?_ _ | refine blk_drew ?_ | refine blk_alloc ?_ _)); refine blk_put (cs := #[.bool t150, .bool t151, .bool false, .int .i64 0, .int .i64 0]) ?_ 2 _ rfl; (with_reducible repeat (first | refine blk_drewN ?_ _ | refine blk_drew ?_ | refine blk_alloc ?_ _)); refine blk_put (cs := #[.bool t150, .bool false, .bool false, .int .i64 0, .int .i64 0]) ?_ 1 _ rfl; (with_reducible repeat (first | refine blk_drewN ?_ _ | refine blk_drew ?_ | refine blk_alloc ?_ _)); refine blk_put (cs := #[.bool false, .bool false, .bool false, .int .i64 0, .int .i64 0]) ?_ 0 _ rfl; (with_reducible repeat (first | refine blk_drewN ?_ _ | refine blk_drew ?_ | refine blk_alloc ?_ _)); exact BK155.out⟩, ⟨by repeat (first | (with_reducible first | exact HB.out | apply below_alloc | apply pw_below_drewN | apply below_drew1 | refine below_set ?_ GE149.out | refine below_set ?_ GE155.out) | exact HB.out)⟩⟩
  case rest =>
    clear HC5
    try clear c1
    try clear c2
    try clear p2
    try clear c5
    try clear c11
    try clear c13
    try clear c14
    try clear c16
    try clear c17
    try clear c20
    try clear c21
    try clear c22
    try clear c23
    try clear c25
    try clear c28
    try clear hcz12_0
    try clear hcz12_1
    try clear hcz12_2
    try clear hcz12_3
    try clear hcz12_4
    try clear hcz15_0
    try clear hcz15_1
    try clear hcz15_2
    try clear hcz15_3
    try clear hcz15_4
    try clear hcz18_0
    try clear hcz18_1
    try clear hcz18_2
    try clear hcz18_3
    try clear hcz18_4
    try clear hcz19_0
    try clear hcz19_1
    try clear hcz19_2
    try clear hcz19_3
    try clear hcz19_4
    try clear hcz23_0
    try clear hcz23_1
    try clear hcz23_2
    try clear hcz23_3
    try clear hcz23_4
    try clear hcz24_0
    try clear hcz24_1
    try clear hcz24_2
    try clear hcz24_3
    try clear hcz24_4
    try clear hcz26_0
    try clear hcz26_1
    try clear hcz26_2
    try clear hcz26_3
    try clear hcz26_4
    try clear hcz27_0
    try clear hcz27_1
    try clear hcz27_2
    try clear hcz27_3
    try clear hcz27_4
    try clear hcz29_0
    try clear hcz29_1
    try clear hcz29_2
    try clear hcz29_3
    try clear hcz29_4
    try clear hcz30_0
    try clear hcz30_1
    try clear hcz30_2
    try clear hcz30_3
    try clear hcz30_4
    try clear hcz8_0
    try clear hcz8_1
    try clear hcz8_2
    try clear hcz8_3
    try clear hcz8_4
    try clear hfz12_0
    try clear hfz12_1
    try clear hfz12_2
    try clear hfz12_3
    try clear hfz12_4
    try clear hfz15_0
    try clear hfz15_1
    try clear hfz15_2
    try clear hfz15_3
    try clear hfz15_4
    try clear hfz18_0
    try clear hfz18_1
    try clear hfz18_2
    try clear hfz18_3
    try clear hfz18_4
    try clear hfz19_0
    try clear hfz19_1
    try clear hfz19_2
    try clear hfz19_3
    try clear hfz19_4
    try clear hfz23_0
    try clear hfz23_1
    try clear hfz23_2
    try clear hfz23_3
    try clear hfz23_4
    try clear hfz24_0
    try clear hfz24_1
    try clear hfz24_2
    try clear hfz24_3
    try clear hfz24_4
    try clear hfz26_0
    try clear hfz26_1
    try clear hfz26_2
    try clear hfz26_3
    try clear hfz26_4
    try clear hfz27_0
    try clear hfz27_1
    try clear hfz27_2
    try clear hfz27_3
    try clear hfz27_4
    try clear hfz29_0
    try clear hfz29_1
    try clear hfz29_2
    try clear hfz29_3
    try clear hfz29_4
    try clear hfz30_0
    try clear hfz30_1
    try clear hfz30_2
    try clear hfz30_3
    try clear hfz30_4
    try clear hfz8_0
    try clear hfz8_1
    try clear hfz8_2
    try clear hfz8_3
    try clear hfz8_4
    obtain ⟨kq, x15_4, rfl, HA, HJ4, BK149, BK155, HB⟩ := hcut
    cases kq with
    | zero => exact absurd HA.out (by simp [hearthref1_FloAdd.j0])
    | succ kj4 =>
      have H := HA.out
      clear HA
      simp only [hearthref1_FloAdd.j0] at H
      by_cases c31 : x15_4 = true
      · subst c31
        have H1 : (some 9221120237041090561) = some r := by rw [if_pos rfl] at H; exact H
        clear H
        have H := H1
        clear H1
        obtain rfl := Option.some.inj H
        go_wp2
        go_ret
        exact ⟨by first | rfl | (simp [errW_none, errW_some] <;> rfl) | (simp [*, errW_none, errW_some] <;> rfl), by repeat (first | (with_reducible first | exact HB.out | apply below_alloc | apply pw_below_drewN | apply below_drew1 | refine below_set ?_ GE149.out | refine below_set ?_ GE155.out) | exact HB.out)⟩
      · replace c31 := Bool.eq_false_iff.mpr c31
        subst c31
        have H1 : (if t145 = true then (some a0) else (if t151 = true then (some a1) else ((hearthref1_list.f kj4 t147 (wrap64 (t148 - (mn t148 t154)))).bind fun t156 => ((hearthref1_list.f kj4 t153 (wrap64 (t154 - (mn t148 t154)))).bind fun t159 => (if (t144 == t150) = true then ((hearthref1_summed.f kj4 t156 t159 false).bind fun t162 => ((hearthref1_rounded.f kj4 t144 t162 (mn t148 t154) false).bind fun t165 => (some t165))) else ((hearthref1_compared.f kj4 t156 t159).bind fun t166 => (if t166 = 0 then (some 0) else (if t166 > 0 then ((hearthref1_summed.f kj4 t156 t159 true).bind fun t167 => ((hearthref1_rounded.f kj4 t144 t167 (mn t148 t154) false).bind fun t170 => (some t170))) else ((hearthref1_summed.f kj4 t159 t156 true).bind fun t171 => ((hearthref1_rounded.f kj4 t150 t171 (mn t148 t154) false).bind fun t174 => (some t174))))))))))) = some r := by rw [if_neg (show ¬ (false = true) by decide)] at H; exact H
        clear H
        have H := H1
        clear H1
        by_cases c32 : t145 = true
        · subst c32
          have H1 : (some a0) = some r := by rw [if_pos rfl] at H; exact H
          clear H
          have H := H1
          clear H1
          obtain rfl := Option.some.inj H
          have hnb33 := NB149_155.out
          have hnc33 := NB155_149.out
          have hcz34_0 : wc.cell? ⟨gb149, 0, none⟩ = some (.bool t144) := (blk_cell BK149.out 0).trans rfl
          have hcz34_1 : wc.cell? ⟨gb149, 1, none⟩ = some (.bool true) := (blk_cell BK149.out 1).trans rfl
          have hcz34_2 : wc.cell? ⟨gb149, 2, none⟩ = some (.bool t146) := (blk_cell BK149.out 2).trans rfl
          have hcz34_3 : wc.cell? ⟨gb149, 3, none⟩ = some (.int .i64 t147) := (blk_cell BK149.out 3).trans rfl
          have hcz34_4 : wc.cell? ⟨gb149, 4, none⟩ = some (.int .i64 t148) := (blk_cell BK149.out 4).trans rfl
          have hfz34_0 := blk_frozen BK149.out 0
          have hfz34_1 := blk_frozen BK149.out 1
          have hfz34_2 := blk_frozen BK149.out 2
          have hfz34_3 := blk_frozen BK149.out 3
          have hfz34_4 := blk_frozen BK149.out 4
          go_wp2
          go_ret
          exact ⟨by first | rfl | (simp [errW_none, errW_some] <;> rfl) | (simp [*, errW_none, errW_some] <;> rfl), by repeat (first | (with_reducible first | exact HB.out | apply below_alloc | apply pw_below_drewN | apply below_drew1 | refine below_set ?_ GE149.out | refine below_set ?_ GE155.out) | exact HB.out)⟩
        · replace c32 := Bool.eq_false_iff.mpr c32
          subst c32
          have H1 : (if t151 = true then (some a1) else ((hearthref1_list.f kj4 t147 (wrap64 (t148 - (mn t148 t154)))).bind fun t156 => ((hearthref1_list.f kj4 t153 (wrap64 (t154 - (mn t148 t154)))).bind fun t159 => (if (t144 == t150) = true then ((hearthref1_summed.f kj4 t156 t159 false).bind fun t162 => ((hearthref1_rounded.f kj4 t144 t162 (mn t148 t154) false).bind fun t165 => (some t165))) else ((hearthref1_compared.f kj4 t156 t159).bind fun t166 => (if t166 = 0 then (some 0) else (if t166 > 0 then ((hearthref1_summed.f kj4 t156 t159 true).bind fun t167 => ((hearthref1_rounded.f kj4 t144 t167 (mn t148 t154) false).bind fun t170 => (some t170))) else ((hearthref1_summed.f kj4 t159 t156 true).bind fun t171 => ((hearthref1_rounded.f kj4 t150 t171 (mn t148 t154) false).bind fun t174 => (some t174)))))))))) = some r := by rw [if_neg (show ¬ (false = true) by decide)] at H; exact H
          clear H
          have H := H1
          clear H1
          by_cases c35 : t151 = true
          · subst c35
            have H1 : (some a1) = some r := by rw [if_pos rfl] at H; exact H
            clear H
            have H := H1
            clear H1
            obtain rfl := Option.some.inj H
            have hnb36 := NB149_155.out
            have hnc36 := NB155_149.out
            have hcz37_0 : wc.cell? ⟨gb149, 0, none⟩ = some (.bool t144) := (blk_cell BK149.out 0).trans rfl
            have hcz37_1 : wc.cell? ⟨gb149, 1, none⟩ = some (.bool false) := (blk_cell BK149.out 1).trans rfl
            have hcz37_2 : wc.cell? ⟨gb149, 2, none⟩ = some (.bool t146) := (blk_cell BK149.out 2).trans rfl
            have hcz37_3 : wc.cell? ⟨gb149, 3, none⟩ = some (.int .i64 t147) := (blk_cell BK149.out 3).trans rfl
            have hcz37_4 : wc.cell? ⟨gb149, 4, none⟩ = some (.int .i64 t148) := (blk_cell BK149.out 4).trans rfl
            have hfz37_0 := blk_frozen BK149.out 0
            have hfz37_1 := blk_frozen BK149.out 1
            have hfz37_2 := blk_frozen BK149.out 2
            have hfz37_3 := blk_frozen BK149.out 3
            have hfz37_4 := blk_frozen BK149.out 4
            have hcz38_0 : wc.cell? ⟨gb155, 0, none⟩ = some (.bool t150) := (blk_cell BK155.out 0).trans rfl
            have hcz38_1 : wc.cell? ⟨gb155, 1, none⟩ = some (.bool true) := (blk_cell BK155.out 1).trans rfl
            have hcz38_2 : wc.cell? ⟨gb155, 2, none⟩ = some (.bool t152) := (blk_cell BK155.out 2).trans rfl
            have hcz38_3 : wc.cell? ⟨gb155, 3, none⟩ = some (.int .i64 t153) := (blk_cell BK155.out 3).trans rfl
            have hcz38_4 : wc.cell? ⟨gb155, 4, none⟩ = some (.int .i64 t154) := (blk_cell BK155.out 4).trans rfl
            have hfz38_0 := blk_frozen BK155.out 0
            have hfz38_1 := blk_frozen BK155.out 1
            have hfz38_2 := blk_frozen BK155.out 2
            have hfz38_3 := blk_frozen BK155.out 3
            have hfz38_4 := blk_frozen BK155.out 4
            go_wp2
            go_ret
            exact ⟨by first | rfl | (simp [errW_none, errW_some] <;> rfl) | (simp [*, errW_none, errW_some] <;> rfl), by repeat (first | (with_reducible first | exact HB.out | apply below_alloc | apply pw_below_drewN | apply below_drew1 | refine below_set ?_ GE149.out | refine below_set ?_ GE155.out) | exact HB.out)⟩
          · replace c35 := Bool.eq_false_iff.mpr c35
            subst c35
            have H1 : ((hearthref1_list.f kj4 t147 (wrap64 (t148 - (mn t148 t154)))).bind fun t156 => ((hearthref1_list.f kj4 t153 (wrap64 (t154 - (mn t148 t154)))).bind fun t159 => (if (t144 == t150) = true then ((hearthref1_summed.f kj4 t156 t159 false).bind fun t162 => ((hearthref1_rounded.f kj4 t144 t162 (mn t148 t154) false).bind fun t165 => (some t165))) else ((hearthref1_compared.f kj4 t156 t159).bind fun t166 => (if t166 = 0 then (some 0) else (if t166 > 0 then ((hearthref1_summed.f kj4 t156 t159 true).bind fun t167 => ((hearthref1_rounded.f kj4 t144 t167 (mn t148 t154) false).bind fun t170 => (some t170))) else ((hearthref1_summed.f kj4 t159 t156 true).bind fun t171 => ((hearthref1_rounded.f kj4 t150 t171 (mn t148 t154) false).bind fun t174 => (some t174))))))))) = some r := by rw [if_neg (show ¬ (false = true) by decide)] at H; exact H
            clear H
            have H := H1
            clear H1
            obtain ⟨ji39, hji39⟩ : ∃ j_ : Int, (mn t148 t154) = j_ := ⟨_, rfl⟩
            replace H : ((hearthref1_list.f kj4 t147 (wrap64 (t148 - (ji39)))).bind fun t156 => ((hearthref1_list.f kj4 t153 (wrap64 (t154 - (ji39)))).bind fun t159 => (if (t144 == t150) = true then ((hearthref1_summed.f kj4 t156 t159 false).bind fun t162 => ((hearthref1_rounded.f kj4 t144 t162 (ji39) false).bind fun t165 => (some t165))) else ((hearthref1_compared.f kj4 t156 t159).bind fun t166 => (if t166 = 0 then (some 0) else (if t166 > 0 then ((hearthref1_summed.f kj4 t156 t159 true).bind fun t167 => ((hearthref1_rounded.f kj4 t144 t167 (ji39) false).bind fun t170 => (some t170))) else ((hearthref1_summed.f kj4 t159 t156 true).bind fun t171 => ((hearthref1_rounded.f kj4 t150 t171 (ji39) false).bind fun t174 => (some t174))))))))) = some r := by first | (rw [hji39] at H; exact H) | (simp only [hji39] at H ⊢; exact H)
            have hji39_ : (if t154 < t148 then t154 else t148) = ji39 := hji39
            replace H := Option.bind_eq_some_iff.mp H
            obtain ⟨t156, A400, H⟩ := H
            replace H : ((hearthref1_list.f kj4 t153 (wrap64 (t154 - (ji39)))).bind fun t159 => (if (t144 == t150) = true then ((hearthref1_summed.f kj4 t156 t159 false).bind fun t162 => ((hearthref1_rounded.f kj4 t144 t162 (ji39) false).bind fun t165 => (some t165))) else ((hearthref1_compared.f kj4 t156 t159).bind fun t166 => (if t166 = 0 then (some 0) else (if t166 > 0 then ((hearthref1_summed.f kj4 t156 t159 true).bind fun t167 => ((hearthref1_rounded.f kj4 t144 t167 (ji39) false).bind fun t170 => (some t170))) else ((hearthref1_summed.f kj4 t159 t156 true).bind fun t171 => ((hearthref1_rounded.f kj4 t150 t171 (ji39) false).bind fun t174 => (some t174)))))))) = some r := H
            have A40 := Aside0.mk A400
            clear A400
            replace H := Option.bind_eq_some_iff.mp H
            obtain ⟨t159, A410, H⟩ := H
            replace H : (if (t144 == t150) = true then ((hearthref1_summed.f kj4 t156 t159 false).bind fun t162 => ((hearthref1_rounded.f kj4 t144 t162 (ji39) false).bind fun t165 => (some t165))) else ((hearthref1_compared.f kj4 t156 t159).bind fun t166 => (if t166 = 0 then (some 0) else (if t166 > 0 then ((hearthref1_summed.f kj4 t156 t159 true).bind fun t167 => ((hearthref1_rounded.f kj4 t144 t167 (ji39) false).bind fun t170 => (some t170))) else ((hearthref1_summed.f kj4 t159 t156 true).bind fun t171 => ((hearthref1_rounded.f kj4 t150 t171 (ji39) false).bind fun t174 => (some t174))))))) = some r := H
            have A41 := Aside0.mk A410
            clear A410
            by_cases c42 : (t144 == t150) = true
            · rw [if_pos c42] at H
              have c42b0 : (t144 == t150) = true := c42
              (try (have c42b1 : decide (t144 = t150) = true := by simpa using c42))
              (try (have c42b2 : (t144 == t150) = true := by simpa using c42))
              clear c42
              replace H := Option.bind_eq_some_iff.mp H
              obtain ⟨t162, A430, H⟩ := H
              replace H : ((hearthref1_rounded.f kj4 t144 t162 (ji39) false).bind fun t165 => (some t165)) = some r := H
              have A43 := Aside0.mk A430
              clear A430
              replace H := Option.bind_eq_some_iff.mp H
              obtain ⟨t165, A440, H⟩ := H
              replace H : (some t165) = some r := H
              have A44 := Aside0.mk A440
              clear A440
              obtain rfl := Option.some.inj H
              have hnb45 := NB149_155.out
              have hnc45 := NB155_149.out
              have hcz46_0 : wc.cell? ⟨gb149, 0, none⟩ = some (.bool t144) := (blk_cell BK149.out 0).trans rfl
              have hcz46_1 : wc.cell? ⟨gb149, 1, none⟩ = some (.bool false) := (blk_cell BK149.out 1).trans rfl
              have hcz46_2 : wc.cell? ⟨gb149, 2, none⟩ = some (.bool t146) := (blk_cell BK149.out 2).trans rfl
              have hcz46_3 : wc.cell? ⟨gb149, 3, none⟩ = some (.int .i64 t147) := (blk_cell BK149.out 3).trans rfl
              have hcz46_4 : wc.cell? ⟨gb149, 4, none⟩ = some (.int .i64 t148) := (blk_cell BK149.out 4).trans rfl
              have hfz46_0 := blk_frozen BK149.out 0
              have hfz46_1 := blk_frozen BK149.out 1
              have hfz46_2 := blk_frozen BK149.out 2
              have hfz46_3 := blk_frozen BK149.out 3
              have hfz46_4 := blk_frozen BK149.out 4
              have hcz47_0 : wc.cell? ⟨gb155, 0, none⟩ = some (.bool t150) := (blk_cell BK155.out 0).trans rfl
              have hcz47_1 : wc.cell? ⟨gb155, 1, none⟩ = some (.bool false) := (blk_cell BK155.out 1).trans rfl
              have hcz47_2 : wc.cell? ⟨gb155, 2, none⟩ = some (.bool t152) := (blk_cell BK155.out 2).trans rfl
              have hcz47_3 : wc.cell? ⟨gb155, 3, none⟩ = some (.int .i64 t153) := (blk_cell BK155.out 3).trans rfl
              have hcz47_4 : wc.cell? ⟨gb155, 4, none⟩ = some (.int .i64 t154) := (blk_cell BK155.out 4).trans rfl
              have hfz47_0 := blk_frozen BK155.out 0
              have hfz47_1 := blk_frozen BK155.out 1
              have hfz47_2 := blk_frozen BK155.out 2
              have hfz47_3 := blk_frozen BK155.out 3
              have hfz47_4 := blk_frozen BK155.out 4
              try go_wp2_with (first | ((with_reducible refine gate_callee (f := 54) rfl ?_); refine goesL_ (some 56) rfl rfl Try.func54 (by kernel_rfl) rfl #[.int .i64 t147, .int .i64 (wrap64 (t148 - (ji39)))] rfl (by (try simp only [List.map_toArray, List.map_cons, List.map_nil]); first | done | (simp only [hji39]; rfl) | rfl | (simp only [List.length_drop, List.length_take]; rfl)) ?_; (with_reducible refine (hearthref1_list.calls kj4 t147 (wrap64 (t148 - (ji39))) t156 _ A40.out).mono ?_); rintro e w48 ⟨v157, rfl, ho0, hb⟩; refine ⟨_, rfl, ?_⟩; have n0_ := Aside0.mk (Kd.R_lower ho0 (below_size (by repeat (first | (with_reducible first | exact HB.out | apply below_alloc | apply pw_below_drewN | apply below_drew1 | refine below_set ?_ GE149.out | refine below_set ?_ GE155.out) | exact HB.out)))); have n1_ := Aside0.mk (blk_below (g := gb149) (o := .cells #[.bool t144, .bool false, .bool t146, .int .i64 t147, .int .i64 t148] 40 (0, 0)) (by (with_reducible repeat (first | refine blk_drewN ?_ _ | refine blk_drew ?_ | refine blk_alloc ?_ _)); exact BK149.out) hb); have n2_ := Aside0.mk (blk_below (g := gb155) (o := .cells #[.bool t150, .bool false, .bool t152, .int .i64 t153, .int .i64 t154] 40 (0, 0)) (by (with_reducible repeat (first | refine blk_drewN ?_ _ | refine blk_drew ?_ | refine blk_alloc ?_ _)); exact BK155.out) hb); have n3_ := Aside0.mk (below_step (by repeat (first | (with_reducible first | exact HB.out | apply below_alloc | apply pw_below_drewN | apply below_drew1 | refine below_set ?_ GE149.out | refine below_set ?_ GE155.out) | exact HB.out)) hb); clear BK149; clear BK155; clear HB; have HO158 := n0_; have BK149 := n1_; have BK155 := n2_; have HB := n3_; clear n0_ n1_ n2_ n3_; (try clear hb); (try clear hb2); (try clear hk); (try clear hi); (try clear ho0); have hcz49_0 : w48.cell? ⟨gb155, 0, none⟩ = some (.bool t150) := (blk_cell BK155.out 0).trans rfl; have hcz49_1 : w48.cell? ⟨gb155, 1, none⟩ = some (.bool false) := (blk_cell BK155.out 1).trans rfl; have hcz49_2 : w48.cell? ⟨gb155, 2, none⟩ = some (.bool t152) := (blk_cell BK155.out 2).trans rfl; have hcz49_3 : w48.cell? ⟨gb155, 3, none⟩ = some (.int .i64 t153) := (blk_cell BK155.out 3).trans rfl; have hcz49_4 : w48.cell? ⟨gb155, 4, none⟩ = some (.int .i64 t154) := (blk_cell BK155.out 4).trans rfl; have hfz49_0 := blk_frozen BK155.out 0; have hfz49_1 := blk_frozen BK155.out 1; have hfz49_2 := blk_frozen BK155.out 2; have hfz49_3 := blk_frozen BK155.out 3; have hfz49_4 := blk_frozen BK155.out 4) | ((with_reducible refine gate_callee (f := 54) rfl ?_); refine goesL_ (some 63) rfl rfl Try.func54 (by kernel_rfl) rfl #[.int .i64 t153, .int .i64 (wrap64 (t154 - (ji39)))] rfl (by (try simp only [List.map_toArray, List.map_cons, List.map_nil]); first | done | (simp only [hji39]; rfl) | rfl | (simp only [List.length_drop, List.length_take]; rfl)) ?_; (with_reducible refine (hearthref1_list.calls kj4 t153 (wrap64 (t154 - (ji39))) t159 _ A41.out).mono ?_); rintro e w50 ⟨v160, rfl, ho0, hb⟩; refine ⟨_, rfl, ?_⟩; have n0_ := Aside0.mk (Kd.R_elder' (by (with_reducible repeat (first | apply Kd.R_alloc | apply Kd.R_drewN | apply Kd.R_drew)); exact HO158.out) (Kd.R_base ho0) hb); have n1_ := Aside0.mk (Kd.R_lower (Kd.R_new' ho0 (Kd.R_lt (by (with_reducible repeat (first | apply Kd.R_alloc | apply Kd.R_drewN | apply Kd.R_drew)); exact HO158.out))) (below_size (by repeat (first | (with_reducible first | exact HB.out | apply below_alloc | apply pw_below_drewN | apply below_drew1 | refine below_set ?_ GE149.out | refine below_set ?_ GE155.out) | exact HB.out)))); have n2_ := Aside0.mk (blk_below (g := gb149) (o := .cells #[.bool t144, .bool false, .bool t146, .int .i64 t147, .int .i64 t148] 40 (0, 0)) (by (with_reducible repeat (first | refine blk_drewN ?_ _ | refine blk_drew ?_ | refine blk_alloc ?_ _)); exact BK149.out) hb); have n3_ := Aside0.mk (blk_below (g := gb155) (o := .cells #[.bool t150, .bool false, .bool t152, .int .i64 t153, .int .i64 t154] 40 (0, 0)) (by (with_reducible repeat (first | refine blk_drewN ?_ _ | refine blk_drew ?_ | refine blk_alloc ?_ _)); exact BK155.out) hb); have n4_ := Aside0.mk (below_step (by repeat (first | (with_reducible first | exact HB.out | apply below_alloc | apply pw_below_drewN | apply below_drew1 | refine below_set ?_ GE149.out | refine below_set ?_ GE155.out) | exact HB.out)) hb); clear HO158; clear BK149; clear BK155; clear HB; have HO158 := n0_; have HO161 := n1_; have BK149 := n2_; have BK155 := n3_; have HB := n4_; clear n0_ n1_ n2_ n3_ n4_; (try clear hb); (try clear hb2); (try clear hk); (try clear hi); (try clear ho0); have hcz51_0 : w50.cell? ⟨gb149, 0, none⟩ = some (.bool t144) := (blk_cell BK149.out 0).trans rfl; have hcz51_1 : w50.cell? ⟨gb149, 1, none⟩ = some (.bool false) := (blk_cell BK149.out 1).trans rfl; have hcz51_2 : w50.cell? ⟨gb149, 2, none⟩ = some (.bool t146) := (blk_cell BK149.out 2).trans rfl; have hcz51_3 : w50.cell? ⟨gb149, 3, none⟩ = some (.int .i64 t147) := (blk_cell BK149.out 3).trans rfl; have hcz51_4 : w50.cell? ⟨gb149, 4, none⟩ = some (.int .i64 t148) := (blk_cell BK149.out 4).trans rfl; have hfz51_0 := blk_frozen BK149.out 0; have hfz51_1 := blk_frozen BK149.out 1; have hfz51_2 := blk_frozen BK149.out 2; have hfz51_3 := blk_frozen BK149.out 3; have hfz51_4 := blk_frozen BK149.out 4; have hcz52_0 : w50.cell? ⟨gb155, 0, none⟩ = some (.bool t150) := (blk_cell BK155.out 0).trans rfl; have hcz52_1 : w50.cell? ⟨gb155, 1, none⟩ = some (.bool false) := (blk_cell BK155.out 1).trans rfl; have hcz52_2 : w50.cell? ⟨gb155, 2, none⟩ = some (.bool t152) := (blk_cell BK155.out 2).trans rfl; have hcz52_3 : w50.cell? ⟨gb155, 3, none⟩ = some (.int .i64 t153) := (blk_cell BK155.out 3).trans rfl; have hcz52_4 : w50.cell? ⟨gb155, 4, none⟩ = some (.int .i64 t154) := (blk_cell BK155.out 4).trans rfl; have hfz52_0 := blk_frozen BK155.out 0; have hfz52_1 := blk_frozen BK155.out 1; have hfz52_2 := blk_frozen BK155.out 2; have hfz52_3 := blk_frozen BK155.out 3; have hfz52_4 := blk_frozen BK155.out 4))
              have n0_ := Aside0.mk (Kd.R_drew HO158.out)
              have n1_ := Aside0.mk (Kd.R_drew HO161.out)
              have n2_ := Aside0.mk (blk_drew BK149.out)
              have n3_ := Aside0.mk (blk_drew BK155.out)
              have n4_ := Aside0.mk (below_drew1 HB.out)
              clear HO158
              clear HO161
              clear BK149
              clear BK155
              clear HB
              have HO158 := n0_
              have HO161 := n1_
              have BK149 := n2_
              have BK155 := n3_
              have HB := n4_
              clear n0_ n1_ n2_ n3_ n4_
              obtain ⟨Ao54, co54, eo54⟩ := Kd.R_slice HO158.out
              (first | subst eo54 | (injection eo54 with f1_ f2_ f3_; have f4_ := f1_.symm; have f5_ := f3_.symm; clear f1_ f2_ f3_; subst f4_; subst f5_))
              obtain ⟨Ao55, co55, eo55⟩ := Kd.R_slice HO161.out
              (first | subst eo55 | (injection eo55 with f1_ f2_ f3_; have f4_ := f1_.symm; have f5_ := f3_.symm; clear f1_ f2_ f3_; subst f4_; subst f5_))
              refine start_ (n := 8) (S := fun w' => w'.cell? ⟨gb149, 0, none⟩ = some (.bool t144) ∧ w'.cell? ⟨gb149, 1, none⟩ = some (.bool false) ∧ w'.cell? ⟨gb149, 2, none⟩ = some (.bool t146) ∧ w'.cell? ⟨gb149, 3, none⟩ = some (.int .i64 t147) ∧ w'.cell? ⟨gb149, 4, none⟩ = some (.int .i64 t148)) (ds := []) #[false, false, false, false, false, false, false, false] (by kernel_rfl) rfl rfl ⟨(blk_cell BK149.out 0).trans rfl, (blk_cell BK149.out 1).trans rfl, (blk_cell BK149.out 2).trans rfl, (blk_cell BK149.out 3).trans rfl, (blk_cell BK149.out 4).trans rfl⟩ (fun hHeld => ?_); refine with_tabW hearthref1_FloAdd.tab13 hearthref1_FloAdd.bits13 (fun HT_ HW_ => ?_)
              generalize w50.drew = w53 at HO158 HO161 BK149 BK155 HB hHeld ⊢
              refine pure_ (i := 0) (N := some 69) (v := ?_) (a' := ?_) #[true, false, false, false, false, false, false, false] rfl rfl (any_of HT_.out (by kernel_rfl)) (fun _ _ _ h => h) (Or.inl ⟨by rfl, ?_⟩) ?_ ?_
              rotate_left
              · intro w'
                go_simp
                with_reducible rfl
              rotate_left
              · simp only [Act.put, List.setIfInBounds_toArray, List.set_cons_zero, List.set_cons_succ, i64_w, i32_w]
                rfl
              refine pure_ (i := 2) (N := some 71) (v := ?_) (a' := ?_) #[true, false, true, false, false, false, false, false] rfl rfl (any_of HT_.out (by kernel_rfl)) (fun _ _ _ h => h) (Or.inl ⟨by rfl, ?_⟩) ?_ ?_
              rotate_left
              · intro w'
                go_simp
                with_reducible rfl
              rotate_left
              · simp only [Act.put, List.setIfInBounds_toArray, List.set_cons_zero, List.set_cons_succ, i64_w, i32_w]
                rfl
              refine pure_ (i := 3) (N := some 72) (v := ?_) (a' := ?_) #[true, false, true, true, false, false, false, false] rfl rfl (any_of HT_.out (by kernel_rfl)) (fun _ _ _ h => h) (Or.inl ⟨by rfl, ?_⟩) ?_ ?_
              rotate_left
              · intro w'
                go_simp
                with_reducible rfl
              rotate_left
              · simp only [Act.put, List.setIfInBounds_toArray, List.set_cons_zero, List.set_cons_succ, i64_w, i32_w]
                rfl
              refine pure_ (i := 5) (N := some 74) (v := ?_) (a' := ?_) #[true, false, true, true, false, true, false, false] rfl rfl (any_of HT_.out (by kernel_rfl)) (fun _ _ _ h => h) (Or.inl ⟨by rfl, ?_⟩) ?_ ?_
              rotate_left
              · intro w'
                go_simp
                with_reducible rfl
              rotate_left
              · simp only [Act.put, List.setIfInBounds_toArray, List.set_cons_zero, List.set_cons_succ, i64_w, i32_w]
                rfl
              refine take_ (i := 1) (N := some 70) (v := ?_) (a' := ?_) #[true, true, true, true, false, true, false, false] rfl rfl (take_ofW HT_.out HW_.out (by kernel_rfl)) (fun _ _ _ h => h) (Or.inl ⟨by rfl, ?_⟩) hHeld ?_ ?_
              rotate_left
              · rintro w' ⟨s0, s1, s2, s3, s4⟩
                go_simp
                with_reducible rfl
              rotate_left
              · simp only [Act.put, List.setIfInBounds_toArray, List.set_cons_zero, List.set_cons_succ, i64_w, i32_w]
                rfl
              refine one_ (i := 4) (N := some 73) #[true, true, true, true, true, true, false, false] rfl rfl (one_of HT_.out (by kernel_rfl)) (by decide) (fun K hK => ?_)
              refine goes_ Try.func56 (by kernel_rfl) rfl #[.slice Ao54 t156.length co54, .slice Ao55 t159.length co55, .bool false] (by rfl) rfl rfl (by (try simp only [List.map_toArray, List.map_cons, List.map_nil]); first | done | rfl | (simp only [List.length_drop, List.length_take]; rfl)) ?_
              with_reducible refine (hearthref1_summed.calls kj4 _ _ t156 _ _ t159 false t162 _ ?side1 ?side2 ?side3 ?side4 A43.out).mono ?_
              (case side1 => repeat (first | exact (Kd.R_reads' HO158.out).2.2 | (with_reducible refine Kd.C_alloc ?_ _) | (with_reducible refine Kd.C_drewN ?_ _) | (with_reducible refine Kd.C_drew ?_)))
              (case side2 => exact (Kd.R_reads' HO158.out).2.1)
              (case side3 => repeat (first | exact (Kd.R_reads' HO161.out).2.2 | (with_reducible refine Kd.C_alloc ?_ _) | (with_reducible refine Kd.C_drewN ?_ _) | (with_reducible refine Kd.C_drew ?_)))
              (case side4 => exact (Kd.R_reads' HO161.out).2.1)
              rintro e w56 ⟨v163, rfl, ho0, hb⟩
              refine ⟨_, rfl, ?_⟩
              have n0_ := Aside0.mk (Kd.R_elder' (by (with_reducible repeat (first | apply Kd.R_alloc | apply Kd.R_drewN | apply Kd.R_drew)); exact HO158.out) (Kd.R_base ho0) hb)
              have n1_ := Aside0.mk (Kd.R_elder' (by (with_reducible repeat (first | apply Kd.R_alloc | apply Kd.R_drewN | apply Kd.R_drew)); exact HO161.out) (Kd.R_base ho0) hb)
              have n2_ := Aside0.mk (Kd.R_lower (Kd.R_new' (Kd.R_new' ho0 (Kd.R_lt (by (with_reducible repeat (first | apply Kd.R_alloc | apply Kd.R_drewN | apply Kd.R_drew)); exact HO158.out))) (Kd.R_lt (by (with_reducible repeat (first | apply Kd.R_alloc | apply Kd.R_drewN | apply Kd.R_drew)); exact HO161.out))) (below_size (by repeat (first | (with_reducible first | exact HB.out | apply below_alloc | apply pw_below_drewN | apply below_drew1 | refine below_set ?_ GE149.out | refine below_set ?_ GE155.out) | exact HB.out))))
              have n3_ := Aside0.mk (blk_below (g := gb149) (o := .cells #[.bool t144, .bool false, .bool t146, .int .i64 t147, .int .i64 t148] 40 (0, 0)) (by (with_reducible repeat (first | refine blk_drewN ?_ _ | refine blk_drew ?_ | refine blk_alloc ?_ _)); exact BK149.out) hb)
              have n4_ := Aside0.mk (blk_below (g := gb155) (o := .cells #[.bool t150, .bool false, .bool t152, .int .i64 t153, .int .i64 t154] 40 (0, 0)) (by (with_reducible repeat (first | refine blk_drewN ?_ _ | refine blk_drew ?_ | refine blk_alloc ?_ _)); exact BK155.out) hb)
              have n5_ := Aside0.mk (below_step (by repeat (first | (with_reducible first | exact HB.out | apply below_alloc | apply pw_below_drewN | apply below_drew1 | refine below_set ?_ GE149.out | refine below_set ?_ GE155.out) | exact HB.out)) hb)
              clear HO158
              clear HO161
              clear BK149
              clear BK155
              clear HB
              have HO158 := n0_
              have HO161 := n1_
              have HO164 := n2_
              have BK149 := n3_
              have BK155 := n4_
              have HB := n5_
              clear n0_ n1_ n2_ n3_ n4_ n5_
              (try clear hb)
              (try clear hb2)
              (try clear hk)
              (try clear hi)
              (try clear ho0)
              obtain ⟨Ao57, co57, eo57⟩ := Kd.R_slice HO164.out
              (first | subst eo57 | (injection eo57 with f1_ f2_ f3_; have f4_ := f1_.symm; have f5_ := f3_.symm; clear f1_ f2_ f3_; subst f4_; subst f5_))
              refine hK.out _ _ ⟨(blk_cell BK149.out 0).trans rfl, (blk_cell BK149.out 1).trans rfl, (blk_cell BK149.out 2).trans rfl, (blk_cell BK149.out 3).trans rfl, (blk_cell BK149.out 4).trans rfl⟩ (fun hHeld => ?_)
              clear hK K
              refine norm_ (a' := ?_) ?_ ?_
              rotate_left
              · show Act.put _ (some 73) _ = _
                simp only [Act.put, List.setIfInBounds_toArray, List.set_cons_zero, List.set_cons_succ, i64_w, i32_w]
                rfl
              refine one_ (i := 6) (N := some 75) #[true, true, true, true, true, true, true, false] rfl rfl (one_of HT_.out (by kernel_rfl)) (by decide) (fun K hK => ?_)
              refine goes_ Try.func55 (by kernel_rfl) rfl #[.bool t144, .slice Ao57 t162.length co57, .int .i64 ji39, .bool false] (by rfl) rfl rfl (by (try simp only [List.map_toArray, List.map_cons, List.map_nil]); first | done | (simp only [hji39]; rfl) | rfl | (simp only [List.length_drop, List.length_take]; rfl)) ?_
              with_reducible refine (hearthref1_rounded.calls kj4 t144 _ _ t162 ji39 false t165 _ ?side1 ?side2 A44.out).mono ?_
              (case side1 => repeat (first | exact (Kd.R_reads' HO164.out).2.2 | (with_reducible refine Kd.C_alloc ?_ _) | (with_reducible refine Kd.C_drewN ?_ _) | (with_reducible refine Kd.C_drew ?_)))
              (case side2 => exact (Kd.R_reads' HO164.out).2.1)
              rintro e w58 ⟨rfl, hb⟩
              refine ⟨_, rfl, ?_⟩
              have n0_ := Aside0.mk (Kd.R_below (by (with_reducible repeat (first | apply Kd.R_alloc | apply Kd.R_drewN | apply Kd.R_drew)); exact HO158.out) hb)
              have n1_ := Aside0.mk (Kd.R_below (by (with_reducible repeat (first | apply Kd.R_alloc | apply Kd.R_drewN | apply Kd.R_drew)); exact HO161.out) hb)
              have n2_ := Aside0.mk (Kd.R_below (by (with_reducible repeat (first | apply Kd.R_alloc | apply Kd.R_drewN | apply Kd.R_drew)); exact HO164.out) hb)
              have n3_ := Aside0.mk (blk_below (g := gb149) (o := .cells #[.bool t144, .bool false, .bool t146, .int .i64 t147, .int .i64 t148] 40 (0, 0)) (by (with_reducible repeat (first | refine blk_drewN ?_ _ | refine blk_drew ?_ | refine blk_alloc ?_ _)); exact BK149.out) hb)
              have n4_ := Aside0.mk (blk_below (g := gb155) (o := .cells #[.bool t150, .bool false, .bool t152, .int .i64 t153, .int .i64 t154] 40 (0, 0)) (by (with_reducible repeat (first | refine blk_drewN ?_ _ | refine blk_drew ?_ | refine blk_alloc ?_ _)); exact BK155.out) hb)
              have n5_ := Aside0.mk (below_step (by repeat (first | (with_reducible first | exact HB.out | apply below_alloc | apply pw_below_drewN | apply below_drew1 | refine below_set ?_ GE149.out | refine below_set ?_ GE155.out) | exact HB.out)) hb)
              clear HO158
              clear HO161
              clear HO164
              clear BK149
              clear BK155
              clear HB
              have HO158 := n0_
              have HO161 := n1_
              have HO164 := n2_
              have BK149 := n3_
              have BK155 := n4_
              have HB := n5_
              clear n0_ n1_ n2_ n3_ n4_ n5_
              (try clear hb)
              (try clear hb2)
              (try clear hk)
              (try clear hi)
              refine hK.out _ _ ⟨(blk_cell BK149.out 0).trans rfl, (blk_cell BK149.out 1).trans rfl, (blk_cell BK149.out 2).trans rfl, (blk_cell BK149.out 3).trans rfl, (blk_cell BK149.out 4).trans rfl⟩ (fun hHeld => ?_)
              clear hK K
              refine norm_ (a' := ?_) ?_ ?_
              rotate_left
              · show Act.put _ (some 75) _ = _
                simp only [Act.put, List.setIfInBounds_toArray, List.set_cons_zero, List.set_cons_succ, i64_w, i32_w]
                rfl
              refine pure_ (i := 7) (N := some 4) (v := ?_) (a' := ?_) #[true, true, true, true, true, true, true, true] rfl rfl (any_of HT_.out (by kernel_rfl)) (fun _ _ _ h => h) (Or.inl ⟨by rfl, ?_⟩) ?_ ?_
              rotate_left
              · intro w'
                go_simp
                with_reducible rfl
              rotate_left
              · simp only [Act.put, List.setIfInBounds_toArray, List.set_cons_zero, List.set_cons_succ, i64_w, i32_w]
                rfl
              refine done_ (done_of HT_.out (by kernel_rfl)) ?_
              try go_wp2
              go_ret
              exact ⟨by first | rfl | (simp [errW_none, errW_some] <;> rfl) | (simp only [← hji39]; first | rfl | (simp [errW_none, errW_some] <;> rfl)) | (simp [*, errW_none, errW_some] <;> rfl), by repeat (first | (with_reducible first | exact HB.out | apply below_alloc | apply pw_below_drewN | apply below_drew1 | refine below_set ?_ GE149.out | refine below_set ?_ GE155.out) | exact HB.out)⟩
            · rw [if_neg c42] at H
              have c42b0 : (t144 == t150) = false := by simpa using c42
              (try (have c42b1 : decide (t144 = t150) = false := by simpa using c42))
              (try (have c42b2 : (t144 == t150) = false := by simpa using c42))
              (try (have c42b3 : ¬ (t144 = t150) := by simpa using c42))
              clear c42
              replace H := Option.bind_eq_some_iff.mp H
              obtain ⟨t166, A590, H⟩ := H
              replace H : (if t166 = 0 then (some 0) else (if t166 > 0 then ((hearthref1_summed.f kj4 t156 t159 true).bind fun t167 => ((hearthref1_rounded.f kj4 t144 t167 (ji39) false).bind fun t170 => (some t170))) else ((hearthref1_summed.f kj4 t159 t156 true).bind fun t171 => ((hearthref1_rounded.f kj4 t150 t171 (ji39) false).bind fun t174 => (some t174))))) = some r := H
              have A59 := Aside0.mk A590
              clear A590
              by_cases c60 : t166 = 0
              · rw [if_pos c60] at H
                have c60b0 : (t166 == 0) = true := beq_iff_eq.mpr c60
                have c60b1 : (t166 != 0) = false := bne_eq_false_iff_eq.mpr c60
                clear c60
                obtain rfl := Option.some.inj H
                have hnb61 := NB149_155.out
                have hnc61 := NB155_149.out
                have hcz62_0 : wc.cell? ⟨gb149, 0, none⟩ = some (.bool t144) := (blk_cell BK149.out 0).trans rfl
                have hcz62_1 : wc.cell? ⟨gb149, 1, none⟩ = some (.bool false) := (blk_cell BK149.out 1).trans rfl
                have hcz62_2 : wc.cell? ⟨gb149, 2, none⟩ = some (.bool t146) := (blk_cell BK149.out 2).trans rfl
                have hcz62_3 : wc.cell? ⟨gb149, 3, none⟩ = some (.int .i64 t147) := (blk_cell BK149.out 3).trans rfl
                have hcz62_4 : wc.cell? ⟨gb149, 4, none⟩ = some (.int .i64 t148) := (blk_cell BK149.out 4).trans rfl
                have hfz62_0 := blk_frozen BK149.out 0
                have hfz62_1 := blk_frozen BK149.out 1
                have hfz62_2 := blk_frozen BK149.out 2
                have hfz62_3 := blk_frozen BK149.out 3
                have hfz62_4 := blk_frozen BK149.out 4
                have hcz63_0 : wc.cell? ⟨gb155, 0, none⟩ = some (.bool t150) := (blk_cell BK155.out 0).trans rfl
                have hcz63_1 : wc.cell? ⟨gb155, 1, none⟩ = some (.bool false) := (blk_cell BK155.out 1).trans rfl
                have hcz63_2 : wc.cell? ⟨gb155, 2, none⟩ = some (.bool t152) := (blk_cell BK155.out 2).trans rfl
                have hcz63_3 : wc.cell? ⟨gb155, 3, none⟩ = some (.int .i64 t153) := (blk_cell BK155.out 3).trans rfl
                have hcz63_4 : wc.cell? ⟨gb155, 4, none⟩ = some (.int .i64 t154) := (blk_cell BK155.out 4).trans rfl
                have hfz63_0 := blk_frozen BK155.out 0
                have hfz63_1 := blk_frozen BK155.out 1
                have hfz63_2 := blk_frozen BK155.out 2
                have hfz63_3 := blk_frozen BK155.out 3
                have hfz63_4 := blk_frozen BK155.out 4
                go_wp2_with (first | ((with_reducible refine gate_callee (f := 54) rfl ?_); refine goesL_ (some 56) rfl rfl Try.func54 (by kernel_rfl) rfl #[.int .i64 t147, .int .i64 (wrap64 (t148 - (ji39)))] rfl (by (try simp only [List.map_toArray, List.map_cons, List.map_nil]); first | done | (simp only [hji39]; rfl) | rfl | (simp only [List.length_drop, List.length_take]; rfl)) ?_; (with_reducible refine (hearthref1_list.calls kj4 t147 (wrap64 (t148 - (ji39))) t156 _ A40.out).mono ?_); rintro e w64 ⟨v157, rfl, ho0, hb⟩; refine ⟨_, rfl, ?_⟩; have n0_ := Aside0.mk (Kd.R_lower ho0 (below_size (by repeat (first | (with_reducible first | exact HB.out | apply below_alloc | apply pw_below_drewN | apply below_drew1 | refine below_set ?_ GE149.out | refine below_set ?_ GE155.out) | exact HB.out)))); have n1_ := Aside0.mk (blk_below (g := gb149) (o := .cells #[.bool t144, .bool false, .bool t146, .int .i64 t147, .int .i64 t148] 40 (0, 0)) (by (with_reducible repeat (first | refine blk_drewN ?_ _ | refine blk_drew ?_ | refine blk_alloc ?_ _)); exact BK149.out) hb); have n2_ := Aside0.mk (blk_below (g := gb155) (o := .cells #[.bool t150, .bool false, .bool t152, .int .i64 t153, .int .i64 t154] 40 (0, 0)) (by (with_reducible repeat (first | refine blk_drewN ?_ _ | refine blk_drew ?_ | refine blk_alloc ?_ _)); exact BK155.out) hb); have n3_ := Aside0.mk (below_step (by repeat (first | (with_reducible first | exact HB.out | apply below_alloc | apply pw_below_drewN | apply below_drew1 | refine below_set ?_ GE149.out | refine below_set ?_ GE155.out) | exact HB.out)) hb); clear BK149; clear BK155; clear HB; have HO158 := n0_; have BK149 := n1_; have BK155 := n2_; have HB := n3_; clear n0_ n1_ n2_ n3_; (try clear hb); (try clear hb2); (try clear hk); (try clear hi); (try clear ho0); have hcz65_0 : w64.cell? ⟨gb155, 0, none⟩ = some (.bool t150) := (blk_cell BK155.out 0).trans rfl; have hcz65_1 : w64.cell? ⟨gb155, 1, none⟩ = some (.bool false) := (blk_cell BK155.out 1).trans rfl; have hcz65_2 : w64.cell? ⟨gb155, 2, none⟩ = some (.bool t152) := (blk_cell BK155.out 2).trans rfl; have hcz65_3 : w64.cell? ⟨gb155, 3, none⟩ = some (.int .i64 t153) := (blk_cell BK155.out 3).trans rfl; have hcz65_4 : w64.cell? ⟨gb155, 4, none⟩ = some (.int .i64 t154) := (blk_cell BK155.out 4).trans rfl; have hfz65_0 := blk_frozen BK155.out 0; have hfz65_1 := blk_frozen BK155.out 1; have hfz65_2 := blk_frozen BK155.out 2; have hfz65_3 := blk_frozen BK155.out 3; have hfz65_4 := blk_frozen BK155.out 4) | ((with_reducible refine gate_callee (f := 54) rfl ?_); refine goesL_ (some 63) rfl rfl Try.func54 (by kernel_rfl) rfl #[.int .i64 t153, .int .i64 (wrap64 (t154 - (ji39)))] rfl (by (try simp only [List.map_toArray, List.map_cons, List.map_nil]); first | done | (simp only [hji39]; rfl) | rfl | (simp only [List.length_drop, List.length_take]; rfl)) ?_; (with_reducible refine (hearthref1_list.calls kj4 t153 (wrap64 (t154 - (ji39))) t159 _ A41.out).mono ?_); rintro e w66 ⟨v160, rfl, ho0, hb⟩; refine ⟨_, rfl, ?_⟩; have n0_ := Aside0.mk (Kd.R_elder' (by (with_reducible repeat (first | apply Kd.R_alloc | apply Kd.R_drewN | apply Kd.R_drew)); exact HO158.out) (Kd.R_base ho0) hb); have n1_ := Aside0.mk (Kd.R_lower (Kd.R_new' ho0 (Kd.R_lt (by (with_reducible repeat (first | apply Kd.R_alloc | apply Kd.R_drewN | apply Kd.R_drew)); exact HO158.out))) (below_size (by repeat (first | (with_reducible first | exact HB.out | apply below_alloc | apply pw_below_drewN | apply below_drew1 | refine below_set ?_ GE149.out | refine below_set ?_ GE155.out) | exact HB.out)))); have n2_ := Aside0.mk (blk_below (g := gb149) (o := .cells #[.bool t144, .bool false, .bool t146, .int .i64 t147, .int .i64 t148] 40 (0, 0)) (by (with_reducible repeat (first | refine blk_drewN ?_ _ | refine blk_drew ?_ | refine blk_alloc ?_ _)); exact BK149.out) hb); have n3_ := Aside0.mk (blk_below (g := gb155) (o := .cells #[.bool t150, .bool false, .bool t152, .int .i64 t153, .int .i64 t154] 40 (0, 0)) (by (with_reducible repeat (first | refine blk_drewN ?_ _ | refine blk_drew ?_ | refine blk_alloc ?_ _)); exact BK155.out) hb); have n4_ := Aside0.mk (below_step (by repeat (first | (with_reducible first | exact HB.out | apply below_alloc | apply pw_below_drewN | apply below_drew1 | refine below_set ?_ GE149.out | refine below_set ?_ GE155.out) | exact HB.out)) hb); clear HO158; clear BK149; clear BK155; clear HB; have HO158 := n0_; have HO161 := n1_; have BK149 := n2_; have BK155 := n3_; have HB := n4_; clear n0_ n1_ n2_ n3_ n4_; (try clear hb); (try clear hb2); (try clear hk); (try clear hi); (try clear ho0); have hcz67_0 : w66.cell? ⟨gb149, 0, none⟩ = some (.bool t144) := (blk_cell BK149.out 0).trans rfl; have hcz67_1 : w66.cell? ⟨gb149, 1, none⟩ = some (.bool false) := (blk_cell BK149.out 1).trans rfl; have hcz67_2 : w66.cell? ⟨gb149, 2, none⟩ = some (.bool t146) := (blk_cell BK149.out 2).trans rfl; have hcz67_3 : w66.cell? ⟨gb149, 3, none⟩ = some (.int .i64 t147) := (blk_cell BK149.out 3).trans rfl; have hcz67_4 : w66.cell? ⟨gb149, 4, none⟩ = some (.int .i64 t148) := (blk_cell BK149.out 4).trans rfl; have hfz67_0 := blk_frozen BK149.out 0; have hfz67_1 := blk_frozen BK149.out 1; have hfz67_2 := blk_frozen BK149.out 2; have hfz67_3 := blk_frozen BK149.out 3; have hfz67_4 := blk_frozen BK149.out 4; have hcz68_0 : w66.cell? ⟨gb155, 0, none⟩ = some (.bool t150) := (blk_cell BK155.out 0).trans rfl; have hcz68_1 : w66.cell? ⟨gb155, 1, none⟩ = some (.bool false) := (blk_cell BK155.out 1).trans rfl; have hcz68_2 : w66.cell? ⟨gb155, 2, none⟩ = some (.bool t152) := (blk_cell BK155.out 2).trans rfl; have hcz68_3 : w66.cell? ⟨gb155, 3, none⟩ = some (.int .i64 t153) := (blk_cell BK155.out 3).trans rfl; have hcz68_4 : w66.cell? ⟨gb155, 4, none⟩ = some (.int .i64 t154) := (blk_cell BK155.out 4).trans rfl; have hfz68_0 := blk_frozen BK155.out 0; have hfz68_1 := blk_frozen BK155.out 1; have hfz68_2 := blk_frozen BK155.out 2; have hfz68_3 := blk_frozen BK155.out 3; have hfz68_4 := blk_frozen BK155.out 4; obtain ⟨Ao69, co69, eo69⟩ := Kd.R_slice HO158.out; subst eo69; obtain ⟨Ao70, co70, eo70⟩ := Kd.R_slice HO161.out; subst eo70) | ((with_reducible refine gate_callee (f := 57) rfl ?_); refine goesL_ (some 78) rfl rfl Try.func57 (by kernel_rfl) rfl #[.slice Ao69 t156.length co69, .slice Ao70 t159.length co70] rfl (by (try simp only [List.map_toArray, List.map_cons, List.map_nil]); first | done | rfl | (simp only [List.length_drop, List.length_take]; rfl)) ?_; (with_reducible refine (hearthref1_compared.calls kj4 _ _ t156 _ _ t159 t166 _ ?side1 ?side2 ?side3 ?side4 A59.out).mono ?_); (case side1 => repeat (first | exact (Kd.R_reads' HO158.out).2.2 | (with_reducible refine Kd.C_alloc ?_ _) | (with_reducible refine Kd.C_drewN ?_ _) | (with_reducible refine Kd.C_drew ?_))); (case side2 => exact (Kd.R_reads' HO158.out).2.1); (case side3 => repeat (first | exact (Kd.R_reads' HO161.out).2.2 | (with_reducible refine Kd.C_alloc ?_ _) | (with_reducible refine Kd.C_drewN ?_ _) | (with_reducible refine Kd.C_drew ?_))); (case side4 => exact (Kd.R_reads' HO161.out).2.1); rintro e w71 ⟨rfl, hb⟩; refine ⟨_, rfl, ?_⟩; have n0_ := Aside0.mk (Kd.R_below (by (with_reducible repeat (first | apply Kd.R_alloc | apply Kd.R_drewN | apply Kd.R_drew)); exact HO158.out) hb); have n1_ := Aside0.mk (Kd.R_below (by (with_reducible repeat (first | apply Kd.R_alloc | apply Kd.R_drewN | apply Kd.R_drew)); exact HO161.out) hb); have n2_ := Aside0.mk (blk_below (g := gb149) (o := .cells #[.bool t144, .bool false, .bool t146, .int .i64 t147, .int .i64 t148] 40 (0, 0)) (by (with_reducible repeat (first | refine blk_drewN ?_ _ | refine blk_drew ?_ | refine blk_alloc ?_ _)); exact BK149.out) hb); have n3_ := Aside0.mk (blk_below (g := gb155) (o := .cells #[.bool t150, .bool false, .bool t152, .int .i64 t153, .int .i64 t154] 40 (0, 0)) (by (with_reducible repeat (first | refine blk_drewN ?_ _ | refine blk_drew ?_ | refine blk_alloc ?_ _)); exact BK155.out) hb); have n4_ := Aside0.mk (below_step (by repeat (first | (with_reducible first | exact HB.out | apply below_alloc | apply pw_below_drewN | apply below_drew1 | refine below_set ?_ GE149.out | refine below_set ?_ GE155.out) | exact HB.out)) hb); clear HO158; clear HO161; clear BK149; clear BK155; clear HB; have HO158 := n0_; have HO161 := n1_; have BK149 := n2_; have BK155 := n3_; have HB := n4_; clear n0_ n1_ n2_ n3_ n4_; (try clear hb); (try clear hb2); (try clear hk); (try clear hi)))
                go_ret
                exact ⟨by first | rfl | (simp [errW_none, errW_some] <;> rfl) | (simp only [← hji39]; first | rfl | (simp [errW_none, errW_some] <;> rfl)) | (simp [*, errW_none, errW_some] <;> rfl), by repeat (first | (with_reducible first | exact HB.out | apply below_alloc | apply pw_below_drewN | apply below_drew1 | refine below_set ?_ GE149.out | refine below_set ?_ GE155.out) | exact HB.out)⟩
              · rw [if_neg c60] at H
                have c60b0 : (t166 == 0) = false := beq_eq_false_iff_ne.mpr c60
                have c60b1 : (t166 != 0) = true := bne_iff_ne.mpr c60
                by_cases c72 : t166 > 0
                · rw [if_pos c72] at H
                  have c72b0 : decide (0 < t166) = true := decide_eq_true c72
                  clear c72
                  replace H := Option.bind_eq_some_iff.mp H
                  obtain ⟨t167, A730, H⟩ := H
                  replace H : ((hearthref1_rounded.f kj4 t144 t167 (ji39) false).bind fun t170 => (some t170)) = some r := H
                  have A73 := Aside0.mk A730
                  clear A730
                  replace H := Option.bind_eq_some_iff.mp H
                  obtain ⟨t170, A740, H⟩ := H
                  replace H : (some t170) = some r := H
                  have A74 := Aside0.mk A740
                  clear A740
                  obtain rfl := Option.some.inj H
                  have hnb75 := NB149_155.out
                  have hnc75 := NB155_149.out
                  have hcz76_0 : wc.cell? ⟨gb149, 0, none⟩ = some (.bool t144) := (blk_cell BK149.out 0).trans rfl
                  have hcz76_1 : wc.cell? ⟨gb149, 1, none⟩ = some (.bool false) := (blk_cell BK149.out 1).trans rfl
                  have hcz76_2 : wc.cell? ⟨gb149, 2, none⟩ = some (.bool t146) := (blk_cell BK149.out 2).trans rfl
                  have hcz76_3 : wc.cell? ⟨gb149, 3, none⟩ = some (.int .i64 t147) := (blk_cell BK149.out 3).trans rfl
                  have hcz76_4 : wc.cell? ⟨gb149, 4, none⟩ = some (.int .i64 t148) := (blk_cell BK149.out 4).trans rfl
                  have hfz76_0 := blk_frozen BK149.out 0
                  have hfz76_1 := blk_frozen BK149.out 1
                  have hfz76_2 := blk_frozen BK149.out 2
                  have hfz76_3 := blk_frozen BK149.out 3
                  have hfz76_4 := blk_frozen BK149.out 4
                  have hcz77_0 : wc.cell? ⟨gb155, 0, none⟩ = some (.bool t150) := (blk_cell BK155.out 0).trans rfl
                  have hcz77_1 : wc.cell? ⟨gb155, 1, none⟩ = some (.bool false) := (blk_cell BK155.out 1).trans rfl
                  have hcz77_2 : wc.cell? ⟨gb155, 2, none⟩ = some (.bool t152) := (blk_cell BK155.out 2).trans rfl
                  have hcz77_3 : wc.cell? ⟨gb155, 3, none⟩ = some (.int .i64 t153) := (blk_cell BK155.out 3).trans rfl
                  have hcz77_4 : wc.cell? ⟨gb155, 4, none⟩ = some (.int .i64 t154) := (blk_cell BK155.out 4).trans rfl
                  have hfz77_0 := blk_frozen BK155.out 0
                  have hfz77_1 := blk_frozen BK155.out 1
                  have hfz77_2 := blk_frozen BK155.out 2
                  have hfz77_3 := blk_frozen BK155.out 3
                  have hfz77_4 := blk_frozen BK155.out 4
                  try go_wp2_with (first | ((with_reducible refine gate_callee (f := 54) rfl ?_); refine goesL_ (some 56) rfl rfl Try.func54 (by kernel_rfl) rfl #[.int .i64 t147, .int .i64 (wrap64 (t148 - (ji39)))] rfl (by (try simp only [List.map_toArray, List.map_cons, List.map_nil]); first | done | (simp only [hji39]; rfl) | rfl | (simp only [List.length_drop, List.length_take]; rfl)) ?_; (with_reducible refine (hearthref1_list.calls kj4 t147 (wrap64 (t148 - (ji39))) t156 _ A40.out).mono ?_); rintro e w78 ⟨v157, rfl, ho0, hb⟩; refine ⟨_, rfl, ?_⟩; have n0_ := Aside0.mk (Kd.R_lower ho0 (below_size (by repeat (first | (with_reducible first | exact HB.out | apply below_alloc | apply pw_below_drewN | apply below_drew1 | refine below_set ?_ GE149.out | refine below_set ?_ GE155.out) | exact HB.out)))); have n1_ := Aside0.mk (blk_below (g := gb149) (o := .cells #[.bool t144, .bool false, .bool t146, .int .i64 t147, .int .i64 t148] 40 (0, 0)) (by (with_reducible repeat (first | refine blk_drewN ?_ _ | refine blk_drew ?_ | refine blk_alloc ?_ _)); exact BK149.out) hb); have n2_ := Aside0.mk (blk_below (g := gb155) (o := .cells #[.bool t150, .bool false, .bool t152, .int .i64 t153, .int .i64 t154] 40 (0, 0)) (by (with_reducible repeat (first | refine blk_drewN ?_ _ | refine blk_drew ?_ | refine blk_alloc ?_ _)); exact BK155.out) hb); have n3_ := Aside0.mk (below_step (by repeat (first | (with_reducible first | exact HB.out | apply below_alloc | apply pw_below_drewN | apply below_drew1 | refine below_set ?_ GE149.out | refine below_set ?_ GE155.out) | exact HB.out)) hb); clear BK149; clear BK155; clear HB; have HO158 := n0_; have BK149 := n1_; have BK155 := n2_; have HB := n3_; clear n0_ n1_ n2_ n3_; (try clear hb); (try clear hb2); (try clear hk); (try clear hi); (try clear ho0); have hcz79_0 : w78.cell? ⟨gb155, 0, none⟩ = some (.bool t150) := (blk_cell BK155.out 0).trans rfl; have hcz79_1 : w78.cell? ⟨gb155, 1, none⟩ = some (.bool false) := (blk_cell BK155.out 1).trans rfl; have hcz79_2 : w78.cell? ⟨gb155, 2, none⟩ = some (.bool t152) := (blk_cell BK155.out 2).trans rfl; have hcz79_3 : w78.cell? ⟨gb155, 3, none⟩ = some (.int .i64 t153) := (blk_cell BK155.out 3).trans rfl; have hcz79_4 : w78.cell? ⟨gb155, 4, none⟩ = some (.int .i64 t154) := (blk_cell BK155.out 4).trans rfl; have hfz79_0 := blk_frozen BK155.out 0; have hfz79_1 := blk_frozen BK155.out 1; have hfz79_2 := blk_frozen BK155.out 2; have hfz79_3 := blk_frozen BK155.out 3; have hfz79_4 := blk_frozen BK155.out 4) | ((with_reducible refine gate_callee (f := 54) rfl ?_); refine goesL_ (some 63) rfl rfl Try.func54 (by kernel_rfl) rfl #[.int .i64 t153, .int .i64 (wrap64 (t154 - (ji39)))] rfl (by (try simp only [List.map_toArray, List.map_cons, List.map_nil]); first | done | (simp only [hji39]; rfl) | rfl | (simp only [List.length_drop, List.length_take]; rfl)) ?_; (with_reducible refine (hearthref1_list.calls kj4 t153 (wrap64 (t154 - (ji39))) t159 _ A41.out).mono ?_); rintro e w80 ⟨v160, rfl, ho0, hb⟩; refine ⟨_, rfl, ?_⟩; have n0_ := Aside0.mk (Kd.R_elder' (by (with_reducible repeat (first | apply Kd.R_alloc | apply Kd.R_drewN | apply Kd.R_drew)); exact HO158.out) (Kd.R_base ho0) hb); have n1_ := Aside0.mk (Kd.R_lower (Kd.R_new' ho0 (Kd.R_lt (by (with_reducible repeat (first | apply Kd.R_alloc | apply Kd.R_drewN | apply Kd.R_drew)); exact HO158.out))) (below_size (by repeat (first | (with_reducible first | exact HB.out | apply below_alloc | apply pw_below_drewN | apply below_drew1 | refine below_set ?_ GE149.out | refine below_set ?_ GE155.out) | exact HB.out)))); have n2_ := Aside0.mk (blk_below (g := gb149) (o := .cells #[.bool t144, .bool false, .bool t146, .int .i64 t147, .int .i64 t148] 40 (0, 0)) (by (with_reducible repeat (first | refine blk_drewN ?_ _ | refine blk_drew ?_ | refine blk_alloc ?_ _)); exact BK149.out) hb); have n3_ := Aside0.mk (blk_below (g := gb155) (o := .cells #[.bool t150, .bool false, .bool t152, .int .i64 t153, .int .i64 t154] 40 (0, 0)) (by (with_reducible repeat (first | refine blk_drewN ?_ _ | refine blk_drew ?_ | refine blk_alloc ?_ _)); exact BK155.out) hb); have n4_ := Aside0.mk (below_step (by repeat (first | (with_reducible first | exact HB.out | apply below_alloc | apply pw_below_drewN | apply below_drew1 | refine below_set ?_ GE149.out | refine below_set ?_ GE155.out) | exact HB.out)) hb); clear HO158; clear BK149; clear BK155; clear HB; have HO158 := n0_; have HO161 := n1_; have BK149 := n2_; have BK155 := n3_; have HB := n4_; clear n0_ n1_ n2_ n3_ n4_; (try clear hb); (try clear hb2); (try clear hk); (try clear hi); (try clear ho0); have hcz81_0 : w80.cell? ⟨gb149, 0, none⟩ = some (.bool t144) := (blk_cell BK149.out 0).trans rfl; have hcz81_1 : w80.cell? ⟨gb149, 1, none⟩ = some (.bool false) := (blk_cell BK149.out 1).trans rfl; have hcz81_2 : w80.cell? ⟨gb149, 2, none⟩ = some (.bool t146) := (blk_cell BK149.out 2).trans rfl; have hcz81_3 : w80.cell? ⟨gb149, 3, none⟩ = some (.int .i64 t147) := (blk_cell BK149.out 3).trans rfl; have hcz81_4 : w80.cell? ⟨gb149, 4, none⟩ = some (.int .i64 t148) := (blk_cell BK149.out 4).trans rfl; have hfz81_0 := blk_frozen BK149.out 0; have hfz81_1 := blk_frozen BK149.out 1; have hfz81_2 := blk_frozen BK149.out 2; have hfz81_3 := blk_frozen BK149.out 3; have hfz81_4 := blk_frozen BK149.out 4; have hcz82_0 : w80.cell? ⟨gb155, 0, none⟩ = some (.bool t150) := (blk_cell BK155.out 0).trans rfl; have hcz82_1 : w80.cell? ⟨gb155, 1, none⟩ = some (.bool false) := (blk_cell BK155.out 1).trans rfl; have hcz82_2 : w80.cell? ⟨gb155, 2, none⟩ = some (.bool t152) := (blk_cell BK155.out 2).trans rfl; have hcz82_3 : w80.cell? ⟨gb155, 3, none⟩ = some (.int .i64 t153) := (blk_cell BK155.out 3).trans rfl; have hcz82_4 : w80.cell? ⟨gb155, 4, none⟩ = some (.int .i64 t154) := (blk_cell BK155.out 4).trans rfl; have hfz82_0 := blk_frozen BK155.out 0; have hfz82_1 := blk_frozen BK155.out 1; have hfz82_2 := blk_frozen BK155.out 2; have hfz82_3 := blk_frozen BK155.out 3; have hfz82_4 := blk_frozen BK155.out 4; obtain ⟨Ao83, co83, eo83⟩ := Kd.R_slice HO158.out; subst eo83; obtain ⟨Ao84, co84, eo84⟩ := Kd.R_slice HO161.out; subst eo84) | ((with_reducible refine gate_callee (f := 57) rfl ?_); refine goesL_ (some 78) rfl rfl Try.func57 (by kernel_rfl) rfl #[.slice Ao83 t156.length co83, .slice Ao84 t159.length co84] rfl (by (try simp only [List.map_toArray, List.map_cons, List.map_nil]); first | done | rfl | (simp only [List.length_drop, List.length_take]; rfl)) ?_; (with_reducible refine (hearthref1_compared.calls kj4 _ _ t156 _ _ t159 t166 _ ?side1 ?side2 ?side3 ?side4 A59.out).mono ?_); (case side1 => repeat (first | exact (Kd.R_reads' HO158.out).2.2 | (with_reducible refine Kd.C_alloc ?_ _) | (with_reducible refine Kd.C_drewN ?_ _) | (with_reducible refine Kd.C_drew ?_))); (case side2 => exact (Kd.R_reads' HO158.out).2.1); (case side3 => repeat (first | exact (Kd.R_reads' HO161.out).2.2 | (with_reducible refine Kd.C_alloc ?_ _) | (with_reducible refine Kd.C_drewN ?_ _) | (with_reducible refine Kd.C_drew ?_))); (case side4 => exact (Kd.R_reads' HO161.out).2.1); rintro e w85 ⟨rfl, hb⟩; refine ⟨_, rfl, ?_⟩; have n0_ := Aside0.mk (Kd.R_below (by (with_reducible repeat (first | apply Kd.R_alloc | apply Kd.R_drewN | apply Kd.R_drew)); exact HO158.out) hb); have n1_ := Aside0.mk (Kd.R_below (by (with_reducible repeat (first | apply Kd.R_alloc | apply Kd.R_drewN | apply Kd.R_drew)); exact HO161.out) hb); have n2_ := Aside0.mk (blk_below (g := gb149) (o := .cells #[.bool t144, .bool false, .bool t146, .int .i64 t147, .int .i64 t148] 40 (0, 0)) (by (with_reducible repeat (first | refine blk_drewN ?_ _ | refine blk_drew ?_ | refine blk_alloc ?_ _)); exact BK149.out) hb); have n3_ := Aside0.mk (blk_below (g := gb155) (o := .cells #[.bool t150, .bool false, .bool t152, .int .i64 t153, .int .i64 t154] 40 (0, 0)) (by (with_reducible repeat (first | refine blk_drewN ?_ _ | refine blk_drew ?_ | refine blk_alloc ?_ _)); exact BK155.out) hb); have n4_ := Aside0.mk (below_step (by repeat (first | (with_reducible first | exact HB.out | apply below_alloc | apply pw_below_drewN | apply below_drew1 | refine below_set ?_ GE149.out | refine below_set ?_ GE155.out) | exact HB.out)) hb); clear HO158; clear HO161; clear BK149; clear BK155; clear HB; have HO158 := n0_; have HO161 := n1_; have BK149 := n2_; have BK155 := n3_; have HB := n4_; clear n0_ n1_ n2_ n3_ n4_; (try clear hb); (try clear hb2); (try clear hk); (try clear hi)))
                  have n0_ := Aside0.mk (Kd.R_drew HO158.out)
                  have n1_ := Aside0.mk (Kd.R_drew HO161.out)
                  have n2_ := Aside0.mk (blk_drew BK149.out)
                  have n3_ := Aside0.mk (blk_drew BK155.out)
                  have n4_ := Aside0.mk (below_drew1 HB.out)
                  clear HO158
                  clear HO161
                  clear BK149
                  clear BK155
                  clear HB
                  have HO158 := n0_
                  have HO161 := n1_
                  have BK149 := n2_
                  have BK155 := n3_
                  have HB := n4_
                  clear n0_ n1_ n2_ n3_ n4_
                  refine start_ (n := 8) (S := fun w' => w'.cell? ⟨gb149, 0, none⟩ = some (.bool t144) ∧ w'.cell? ⟨gb149, 1, none⟩ = some (.bool false) ∧ w'.cell? ⟨gb149, 2, none⟩ = some (.bool t146) ∧ w'.cell? ⟨gb149, 3, none⟩ = some (.int .i64 t147) ∧ w'.cell? ⟨gb149, 4, none⟩ = some (.int .i64 t148)) (ds := []) #[false, false, false, false, false, false, false, false] (by kernel_rfl) rfl rfl ⟨(blk_cell BK149.out 0).trans rfl, (blk_cell BK149.out 1).trans rfl, (blk_cell BK149.out 2).trans rfl, (blk_cell BK149.out 3).trans rfl, (blk_cell BK149.out 4).trans rfl⟩ (fun hHeld => ?_); refine with_tabW hearthref1_FloAdd.tab18 hearthref1_FloAdd.bits18 (fun HT_ HW_ => ?_)
                  generalize w85.drew = w86 at HO158 HO161 BK149 BK155 HB hHeld ⊢
                  refine pure_ (i := 0) (N := some 83) (v := ?_) (a' := ?_) #[true, false, false, false, false, false, false, false] rfl rfl (any_of HT_.out (by kernel_rfl)) (fun _ _ _ h => h) (Or.inl ⟨by rfl, ?_⟩) ?_ ?_
                  rotate_left
                  · intro w'
                    go_simp
                    with_reducible rfl
                  rotate_left
                  · simp only [Act.put, List.setIfInBounds_toArray, List.set_cons_zero, List.set_cons_succ, i64_w, i32_w]
                    rfl
                  refine pure_ (i := 2) (N := some 85) (v := ?_) (a' := ?_) #[true, false, true, false, false, false, false, false] rfl rfl (any_of HT_.out (by kernel_rfl)) (fun _ _ _ h => h) (Or.inl ⟨by rfl, ?_⟩) ?_ ?_
                  rotate_left
                  · intro w'
                    go_simp
                    with_reducible rfl
                  rotate_left
                  · simp only [Act.put, List.setIfInBounds_toArray, List.set_cons_zero, List.set_cons_succ, i64_w, i32_w]
                    rfl
                  refine pure_ (i := 3) (N := some 86) (v := ?_) (a' := ?_) #[true, false, true, true, false, false, false, false] rfl rfl (any_of HT_.out (by kernel_rfl)) (fun _ _ _ h => h) (Or.inl ⟨by rfl, ?_⟩) ?_ ?_
                  rotate_left
                  · intro w'
                    go_simp
                    with_reducible rfl
                  rotate_left
                  · simp only [Act.put, List.setIfInBounds_toArray, List.set_cons_zero, List.set_cons_succ, i64_w, i32_w]
                    rfl
                  refine pure_ (i := 5) (N := some 88) (v := ?_) (a' := ?_) #[true, false, true, true, false, true, false, false] rfl rfl (any_of HT_.out (by kernel_rfl)) (fun _ _ _ h => h) (Or.inl ⟨by rfl, ?_⟩) ?_ ?_
                  rotate_left
                  · intro w'
                    go_simp
                    with_reducible rfl
                  rotate_left
                  · simp only [Act.put, List.setIfInBounds_toArray, List.set_cons_zero, List.set_cons_succ, i64_w, i32_w]
                    rfl
                  refine take_ (i := 1) (N := some 84) (v := ?_) (a' := ?_) #[true, true, true, true, false, true, false, false] rfl rfl (take_ofW HT_.out HW_.out (by kernel_rfl)) (fun _ _ _ h => h) (Or.inl ⟨by rfl, ?_⟩) hHeld ?_ ?_
                  rotate_left
                  · rintro w' ⟨s0, s1, s2, s3, s4⟩
                    go_simp
                    with_reducible rfl
                  rotate_left
                  · simp only [Act.put, List.setIfInBounds_toArray, List.set_cons_zero, List.set_cons_succ, i64_w, i32_w]
                    rfl
                  refine one_ (i := 4) (N := some 87) #[true, true, true, true, true, true, false, false] rfl rfl (one_of HT_.out (by kernel_rfl)) (by decide) (fun K hK => ?_)
                  refine goes_ Try.func56 (by kernel_rfl) rfl #[.slice Ao83 t156.length co83, .slice Ao84 t159.length co84, .bool true] (by rfl) rfl rfl (by (try simp only [List.map_toArray, List.map_cons, List.map_nil]); first | done | rfl | (simp only [List.length_drop, List.length_take]; rfl)) ?_
                  with_reducible refine (hearthref1_summed.calls kj4 _ _ t156 _ _ t159 true t167 _ ?side1 ?side2 ?side3 ?side4 A73.out).mono ?_
                  (case side1 => repeat (first | exact (Kd.R_reads' HO158.out).2.2 | (with_reducible refine Kd.C_alloc ?_ _) | (with_reducible refine Kd.C_drewN ?_ _) | (with_reducible refine Kd.C_drew ?_)))
                  (case side2 => exact (Kd.R_reads' HO158.out).2.1)
                  (case side3 => repeat (first | exact (Kd.R_reads' HO161.out).2.2 | (with_reducible refine Kd.C_alloc ?_ _) | (with_reducible refine Kd.C_drewN ?_ _) | (with_reducible refine Kd.C_drew ?_)))
                  (case side4 => exact (Kd.R_reads' HO161.out).2.1)
                  rintro e w87 ⟨v168, rfl, ho0, hb⟩
                  refine ⟨_, rfl, ?_⟩
                  have n0_ := Aside0.mk (Kd.R_elder' (by (with_reducible repeat (first | apply Kd.R_alloc | apply Kd.R_drewN | apply Kd.R_drew)); exact HO158.out) (Kd.R_base ho0) hb)
                  have n1_ := Aside0.mk (Kd.R_elder' (by (with_reducible repeat (first | apply Kd.R_alloc | apply Kd.R_drewN | apply Kd.R_drew)); exact HO161.out) (Kd.R_base ho0) hb)
                  have n2_ := Aside0.mk (Kd.R_lower (Kd.R_new' (Kd.R_new' ho0 (Kd.R_lt (by (with_reducible repeat (first | apply Kd.R_alloc | apply Kd.R_drewN | apply Kd.R_drew)); exact HO158.out))) (Kd.R_lt (by (with_reducible repeat (first | apply Kd.R_alloc | apply Kd.R_drewN | apply Kd.R_drew)); exact HO161.out))) (below_size (by repeat (first | (with_reducible first | exact HB.out | apply below_alloc | apply pw_below_drewN | apply below_drew1 | refine below_set ?_ GE149.out | refine below_set ?_ GE155.out) | exact HB.out))))
                  have n3_ := Aside0.mk (blk_below (g := gb149) (o := .cells #[.bool t144, .bool false, .bool t146, .int .i64 t147, .int .i64 t148] 40 (0, 0)) (by (with_reducible repeat (first | refine blk_drewN ?_ _ | refine blk_drew ?_ | refine blk_alloc ?_ _)); exact BK149.out) hb)
                  have n4_ := Aside0.mk (blk_below (g := gb155) (o := .cells #[.bool t150, .bool false, .bool t152, .int .i64 t153, .int .i64 t154] 40 (0, 0)) (by (with_reducible repeat (first | refine blk_drewN ?_ _ | refine blk_drew ?_ | refine blk_alloc ?_ _)); exact BK155.out) hb)
                  have n5_ := Aside0.mk (below_step (by repeat (first | (with_reducible first | exact HB.out | apply below_alloc | apply pw_below_drewN | apply below_drew1 | refine below_set ?_ GE149.out | refine below_set ?_ GE155.out) | exact HB.out)) hb)
                  clear HO158
                  clear HO161
                  clear BK149
                  clear BK155
                  clear HB
                  have HO158 := n0_
                  have HO161 := n1_
                  have HO169 := n2_
                  have BK149 := n3_
                  have BK155 := n4_
                  have HB := n5_
                  clear n0_ n1_ n2_ n3_ n4_ n5_
                  (try clear hb)
                  (try clear hb2)
                  (try clear hk)
                  (try clear hi)
                  (try clear ho0)
                  obtain ⟨Ao88, co88, eo88⟩ := Kd.R_slice HO169.out
                  (first | subst eo88 | (injection eo88 with f1_ f2_ f3_; have f4_ := f1_.symm; have f5_ := f3_.symm; clear f1_ f2_ f3_; subst f4_; subst f5_))
                  refine hK.out _ _ ⟨(blk_cell BK149.out 0).trans rfl, (blk_cell BK149.out 1).trans rfl, (blk_cell BK149.out 2).trans rfl, (blk_cell BK149.out 3).trans rfl, (blk_cell BK149.out 4).trans rfl⟩ (fun hHeld => ?_)
                  clear hK K
                  refine norm_ (a' := ?_) ?_ ?_
                  rotate_left
                  · show Act.put _ (some 87) _ = _
                    simp only [Act.put, List.setIfInBounds_toArray, List.set_cons_zero, List.set_cons_succ, i64_w, i32_w]
                    rfl
                  refine one_ (i := 6) (N := some 89) #[true, true, true, true, true, true, true, false] rfl rfl (one_of HT_.out (by kernel_rfl)) (by decide) (fun K hK => ?_)
                  refine goes_ Try.func55 (by kernel_rfl) rfl #[.bool t144, .slice Ao88 t167.length co88, .int .i64 ji39, .bool false] (by rfl) rfl rfl (by (try simp only [List.map_toArray, List.map_cons, List.map_nil]); first | done | (simp only [hji39]; rfl) | rfl | (simp only [List.length_drop, List.length_take]; rfl)) ?_
                  with_reducible refine (hearthref1_rounded.calls kj4 t144 _ _ t167 ji39 false t170 _ ?side1 ?side2 A74.out).mono ?_
                  (case side1 => repeat (first | exact (Kd.R_reads' HO169.out).2.2 | (with_reducible refine Kd.C_alloc ?_ _) | (with_reducible refine Kd.C_drewN ?_ _) | (with_reducible refine Kd.C_drew ?_)))
                  (case side2 => exact (Kd.R_reads' HO169.out).2.1)
                  rintro e w89 ⟨rfl, hb⟩
                  refine ⟨_, rfl, ?_⟩
                  have n0_ := Aside0.mk (Kd.R_below (by (with_reducible repeat (first | apply Kd.R_alloc | apply Kd.R_drewN | apply Kd.R_drew)); exact HO158.out) hb)
                  have n1_ := Aside0.mk (Kd.R_below (by (with_reducible repeat (first | apply Kd.R_alloc | apply Kd.R_drewN | apply Kd.R_drew)); exact HO161.out) hb)
                  have n2_ := Aside0.mk (Kd.R_below (by (with_reducible repeat (first | apply Kd.R_alloc | apply Kd.R_drewN | apply Kd.R_drew)); exact HO169.out) hb)
                  have n3_ := Aside0.mk (blk_below (g := gb149) (o := .cells #[.bool t144, .bool false, .bool t146, .int .i64 t147, .int .i64 t148] 40 (0, 0)) (by (with_reducible repeat (first | refine blk_drewN ?_ _ | refine blk_drew ?_ | refine blk_alloc ?_ _)); exact BK149.out) hb)
                  have n4_ := Aside0.mk (blk_below (g := gb155) (o := .cells #[.bool t150, .bool false, .bool t152, .int .i64 t153, .int .i64 t154] 40 (0, 0)) (by (with_reducible repeat (first | refine blk_drewN ?_ _ | refine blk_drew ?_ | refine blk_alloc ?_ _)); exact BK155.out) hb)
                  have n5_ := Aside0.mk (below_step (by repeat (first | (with_reducible first | exact HB.out | apply below_alloc | apply pw_below_drewN | apply below_drew1 | refine below_set ?_ GE149.out | refine below_set ?_ GE155.out) | exact HB.out)) hb)
                  clear HO158
                  clear HO161
                  clear HO169
                  clear BK149
                  clear BK155
                  clear HB
                  have HO158 := n0_
                  have HO161 := n1_
                  have HO169 := n2_
                  have BK149 := n3_
                  have BK155 := n4_
                  have HB := n5_
                  clear n0_ n1_ n2_ n3_ n4_ n5_
                  (try clear hb)
                  (try clear hb2)
                  (try clear hk)
                  (try clear hi)
                  refine hK.out _ _ ⟨(blk_cell BK149.out 0).trans rfl, (blk_cell BK149.out 1).trans rfl, (blk_cell BK149.out 2).trans rfl, (blk_cell BK149.out 3).trans rfl, (blk_cell BK149.out 4).trans rfl⟩ (fun hHeld => ?_)
                  clear hK K
                  refine norm_ (a' := ?_) ?_ ?_
                  rotate_left
                  · show Act.put _ (some 89) _ = _
                    simp only [Act.put, List.setIfInBounds_toArray, List.set_cons_zero, List.set_cons_succ, i64_w, i32_w]
                    rfl
                  refine pure_ (i := 7) (N := some 4) (v := ?_) (a' := ?_) #[true, true, true, true, true, true, true, true] rfl rfl (any_of HT_.out (by kernel_rfl)) (fun _ _ _ h => h) (Or.inl ⟨by rfl, ?_⟩) ?_ ?_
                  rotate_left
                  · intro w'
                    go_simp
                    with_reducible rfl
                  rotate_left
                  · simp only [Act.put, List.setIfInBounds_toArray, List.set_cons_zero, List.set_cons_succ, i64_w, i32_w]
                    rfl
                  refine done_ (done_of HT_.out (by kernel_rfl)) ?_
                  try go_wp2
                  go_ret
                  exact ⟨by first | rfl | (simp [errW_none, errW_some] <;> rfl) | (simp only [← hji39]; first | rfl | (simp [errW_none, errW_some] <;> rfl)) | (simp [*, errW_none, errW_some] <;> rfl), by repeat (first | (with_reducible first | exact HB.out | apply below_alloc | apply pw_below_drewN | apply below_drew1 | refine below_set ?_ GE149.out | refine below_set ?_ GE155.out) | exact HB.out)⟩
                · rw [if_neg c72] at H
                  have c72b0 : decide (0 < t166) = false := decide_eq_false c72
                  clear c72
                  replace H := Option.bind_eq_some_iff.mp H
                  obtain ⟨t171, A900, H⟩ := H
                  replace H : ((hearthref1_rounded.f kj4 t150 t171 (ji39) false).bind fun t174 => (some t174)) = some r := H
                  have A90 := Aside0.mk A900
                  clear A900
                  replace H := Option.bind_eq_some_iff.mp H
                  obtain ⟨t174, A910, H⟩ := H
                  replace H : (some t174) = some r := H
                  have A91 := Aside0.mk A910
                  clear A910
                  obtain rfl := Option.some.inj H
                  have hnb92 := NB149_155.out
                  have hnc92 := NB155_149.out
                  have hcz93_0 : wc.cell? ⟨gb149, 0, none⟩ = some (.bool t144) := (blk_cell BK149.out 0).trans rfl
                  have hcz93_1 : wc.cell? ⟨gb149, 1, none⟩ = some (.bool false) := (blk_cell BK149.out 1).trans rfl
                  have hcz93_2 : wc.cell? ⟨gb149, 2, none⟩ = some (.bool t146) := (blk_cell BK149.out 2).trans rfl
                  have hcz93_3 : wc.cell? ⟨gb149, 3, none⟩ = some (.int .i64 t147) := (blk_cell BK149.out 3).trans rfl
                  have hcz93_4 : wc.cell? ⟨gb149, 4, none⟩ = some (.int .i64 t148) := (blk_cell BK149.out 4).trans rfl
                  have hfz93_0 := blk_frozen BK149.out 0
                  have hfz93_1 := blk_frozen BK149.out 1
                  have hfz93_2 := blk_frozen BK149.out 2
                  have hfz93_3 := blk_frozen BK149.out 3
                  have hfz93_4 := blk_frozen BK149.out 4
                  have hcz94_0 : wc.cell? ⟨gb155, 0, none⟩ = some (.bool t150) := (blk_cell BK155.out 0).trans rfl
                  have hcz94_1 : wc.cell? ⟨gb155, 1, none⟩ = some (.bool false) := (blk_cell BK155.out 1).trans rfl
                  have hcz94_2 : wc.cell? ⟨gb155, 2, none⟩ = some (.bool t152) := (blk_cell BK155.out 2).trans rfl
                  have hcz94_3 : wc.cell? ⟨gb155, 3, none⟩ = some (.int .i64 t153) := (blk_cell BK155.out 3).trans rfl
                  have hcz94_4 : wc.cell? ⟨gb155, 4, none⟩ = some (.int .i64 t154) := (blk_cell BK155.out 4).trans rfl
                  have hfz94_0 := blk_frozen BK155.out 0
                  have hfz94_1 := blk_frozen BK155.out 1
                  have hfz94_2 := blk_frozen BK155.out 2
                  have hfz94_3 := blk_frozen BK155.out 3
                  have hfz94_4 := blk_frozen BK155.out 4
                  try go_wp2_with (first | ((with_reducible refine gate_callee (f := 54) rfl ?_); refine goesL_ (some 56) rfl rfl Try.func54 (by kernel_rfl) rfl #[.int .i64 t147, .int .i64 (wrap64 (t148 - (ji39)))] rfl (by (try simp only [List.map_toArray, List.map_cons, List.map_nil]); first | done | (simp only [hji39]; rfl) | rfl | (simp only [List.length_drop, List.length_take]; rfl)) ?_; (with_reducible refine (hearthref1_list.calls kj4 t147 (wrap64 (t148 - (ji39))) t156 _ A40.out).mono ?_); rintro e w95 ⟨v157, rfl, ho0, hb⟩; refine ⟨_, rfl, ?_⟩; have n0_ := Aside0.mk (Kd.R_lower ho0 (below_size (by repeat (first | (with_reducible first | exact HB.out | apply below_alloc | apply pw_below_drewN | apply below_drew1 | refine below_set ?_ GE149.out | refine below_set ?_ GE155.out) | exact HB.out)))); have n1_ := Aside0.mk (blk_below (g := gb149) (o := .cells #[.bool t144, .bool false, .bool t146, .int .i64 t147, .int .i64 t148] 40 (0, 0)) (by (with_reducible repeat (first | refine blk_drewN ?_ _ | refine blk_drew ?_ | refine blk_alloc ?_ _)); exact BK149.out) hb); have n2_ := Aside0.mk (blk_below (g := gb155) (o := .cells #[.bool t150, .bool false, .bool t152, .int .i64 t153, .int .i64 t154] 40 (0, 0)) (by (with_reducible repeat (first | refine blk_drewN ?_ _ | refine blk_drew ?_ | refine blk_alloc ?_ _)); exact BK155.out) hb); have n3_ := Aside0.mk (below_step (by repeat (first | (with_reducible first | exact HB.out | apply below_alloc | apply pw_below_drewN | apply below_drew1 | refine below_set ?_ GE149.out | refine below_set ?_ GE155.out) | exact HB.out)) hb); clear BK149; clear BK155; clear HB; have HO158 := n0_; have BK149 := n1_; have BK155 := n2_; have HB := n3_; clear n0_ n1_ n2_ n3_; (try clear hb); (try clear hb2); (try clear hk); (try clear hi); (try clear ho0); have hcz96_0 : w95.cell? ⟨gb155, 0, none⟩ = some (.bool t150) := (blk_cell BK155.out 0).trans rfl; have hcz96_1 : w95.cell? ⟨gb155, 1, none⟩ = some (.bool false) := (blk_cell BK155.out 1).trans rfl; have hcz96_2 : w95.cell? ⟨gb155, 2, none⟩ = some (.bool t152) := (blk_cell BK155.out 2).trans rfl; have hcz96_3 : w95.cell? ⟨gb155, 3, none⟩ = some (.int .i64 t153) := (blk_cell BK155.out 3).trans rfl; have hcz96_4 : w95.cell? ⟨gb155, 4, none⟩ = some (.int .i64 t154) := (blk_cell BK155.out 4).trans rfl; have hfz96_0 := blk_frozen BK155.out 0; have hfz96_1 := blk_frozen BK155.out 1; have hfz96_2 := blk_frozen BK155.out 2; have hfz96_3 := blk_frozen BK155.out 3; have hfz96_4 := blk_frozen BK155.out 4) | ((with_reducible refine gate_callee (f := 54) rfl ?_); refine goesL_ (some 63) rfl rfl Try.func54 (by kernel_rfl) rfl #[.int .i64 t153, .int .i64 (wrap64 (t154 - (ji39)))] rfl (by (try simp only [List.map_toArray, List.map_cons, List.map_nil]); first | done | (simp only [hji39]; rfl) | rfl | (simp only [List.length_drop, List.length_take]; rfl)) ?_; (with_reducible refine (hearthref1_list.calls kj4 t153 (wrap64 (t154 - (ji39))) t159 _ A41.out).mono ?_); rintro e w97 ⟨v160, rfl, ho0, hb⟩; refine ⟨_, rfl, ?_⟩; have n0_ := Aside0.mk (Kd.R_elder' (by (with_reducible repeat (first | apply Kd.R_alloc | apply Kd.R_drewN | apply Kd.R_drew)); exact HO158.out) (Kd.R_base ho0) hb); have n1_ := Aside0.mk (Kd.R_lower (Kd.R_new' ho0 (Kd.R_lt (by (with_reducible repeat (first | apply Kd.R_alloc | apply Kd.R_drewN | apply Kd.R_drew)); exact HO158.out))) (below_size (by repeat (first | (with_reducible first | exact HB.out | apply below_alloc | apply pw_below_drewN | apply below_drew1 | refine below_set ?_ GE149.out | refine below_set ?_ GE155.out) | exact HB.out)))); have n2_ := Aside0.mk (blk_below (g := gb149) (o := .cells #[.bool t144, .bool false, .bool t146, .int .i64 t147, .int .i64 t148] 40 (0, 0)) (by (with_reducible repeat (first | refine blk_drewN ?_ _ | refine blk_drew ?_ | refine blk_alloc ?_ _)); exact BK149.out) hb); have n3_ := Aside0.mk (blk_below (g := gb155) (o := .cells #[.bool t150, .bool false, .bool t152, .int .i64 t153, .int .i64 t154] 40 (0, 0)) (by (with_reducible repeat (first | refine blk_drewN ?_ _ | refine blk_drew ?_ | refine blk_alloc ?_ _)); exact BK155.out) hb); have n4_ := Aside0.mk (below_step (by repeat (first | (with_reducible first | exact HB.out | apply below_alloc | apply pw_below_drewN | apply below_drew1 | refine below_set ?_ GE149.out | refine below_set ?_ GE155.out) | exact HB.out)) hb); clear HO158; clear BK149; clear BK155; clear HB; have HO158 := n0_; have HO161 := n1_; have BK149 := n2_; have BK155 := n3_; have HB := n4_; clear n0_ n1_ n2_ n3_ n4_; (try clear hb); (try clear hb2); (try clear hk); (try clear hi); (try clear ho0); have hcz98_0 : w97.cell? ⟨gb149, 0, none⟩ = some (.bool t144) := (blk_cell BK149.out 0).trans rfl; have hcz98_1 : w97.cell? ⟨gb149, 1, none⟩ = some (.bool false) := (blk_cell BK149.out 1).trans rfl; have hcz98_2 : w97.cell? ⟨gb149, 2, none⟩ = some (.bool t146) := (blk_cell BK149.out 2).trans rfl; have hcz98_3 : w97.cell? ⟨gb149, 3, none⟩ = some (.int .i64 t147) := (blk_cell BK149.out 3).trans rfl; have hcz98_4 : w97.cell? ⟨gb149, 4, none⟩ = some (.int .i64 t148) := (blk_cell BK149.out 4).trans rfl; have hfz98_0 := blk_frozen BK149.out 0; have hfz98_1 := blk_frozen BK149.out 1; have hfz98_2 := blk_frozen BK149.out 2; have hfz98_3 := blk_frozen BK149.out 3; have hfz98_4 := blk_frozen BK149.out 4; have hcz99_0 : w97.cell? ⟨gb155, 0, none⟩ = some (.bool t150) := (blk_cell BK155.out 0).trans rfl; have hcz99_1 : w97.cell? ⟨gb155, 1, none⟩ = some (.bool false) := (blk_cell BK155.out 1).trans rfl; have hcz99_2 : w97.cell? ⟨gb155, 2, none⟩ = some (.bool t152) := (blk_cell BK155.out 2).trans rfl; have hcz99_3 : w97.cell? ⟨gb155, 3, none⟩ = some (.int .i64 t153) := (blk_cell BK155.out 3).trans rfl; have hcz99_4 : w97.cell? ⟨gb155, 4, none⟩ = some (.int .i64 t154) := (blk_cell BK155.out 4).trans rfl; have hfz99_0 := blk_frozen BK155.out 0; have hfz99_1 := blk_frozen BK155.out 1; have hfz99_2 := blk_frozen BK155.out 2; have hfz99_3 := blk_frozen BK155.out 3; have hfz99_4 := blk_frozen BK155.out 4; obtain ⟨Ao100, co100, eo100⟩ := Kd.R_slice HO158.out; subst eo100; obtain ⟨Ao101, co101, eo101⟩ := Kd.R_slice HO161.out; subst eo101) | ((with_reducible refine gate_callee (f := 57) rfl ?_); refine goesL_ (some 78) rfl rfl Try.func57 (by kernel_rfl) rfl #[.slice Ao100 t156.length co100, .slice Ao101 t159.length co101] rfl (by (try simp only [List.map_toArray, List.map_cons, List.map_nil]); first | done | rfl | (simp only [List.length_drop, List.length_take]; rfl)) ?_; (with_reducible refine (hearthref1_compared.calls kj4 _ _ t156 _ _ t159 t166 _ ?side1 ?side2 ?side3 ?side4 A59.out).mono ?_); (case side1 => repeat (first | exact (Kd.R_reads' HO158.out).2.2 | (with_reducible refine Kd.C_alloc ?_ _) | (with_reducible refine Kd.C_drewN ?_ _) | (with_reducible refine Kd.C_drew ?_))); (case side2 => exact (Kd.R_reads' HO158.out).2.1); (case side3 => repeat (first | exact (Kd.R_reads' HO161.out).2.2 | (with_reducible refine Kd.C_alloc ?_ _) | (with_reducible refine Kd.C_drewN ?_ _) | (with_reducible refine Kd.C_drew ?_))); (case side4 => exact (Kd.R_reads' HO161.out).2.1); rintro e w102 ⟨rfl, hb⟩; refine ⟨_, rfl, ?_⟩; have n0_ := Aside0.mk (Kd.R_below (by (with_reducible repeat (first | apply Kd.R_alloc | apply Kd.R_drewN | apply Kd.R_drew)); exact HO158.out) hb); have n1_ := Aside0.mk (Kd.R_below (by (with_reducible repeat (first | apply Kd.R_alloc | apply Kd.R_drewN | apply Kd.R_drew)); exact HO161.out) hb); have n2_ := Aside0.mk (blk_below (g := gb149) (o := .cells #[.bool t144, .bool false, .bool t146, .int .i64 t147, .int .i64 t148] 40 (0, 0)) (by (with_reducible repeat (first | refine blk_drewN ?_ _ | refine blk_drew ?_ | refine blk_alloc ?_ _)); exact BK149.out) hb); have n3_ := Aside0.mk (blk_below (g := gb155) (o := .cells #[.bool t150, .bool false, .bool t152, .int .i64 t153, .int .i64 t154] 40 (0, 0)) (by (with_reducible repeat (first | refine blk_drewN ?_ _ | refine blk_drew ?_ | refine blk_alloc ?_ _)); exact BK155.out) hb); have n4_ := Aside0.mk (below_step (by repeat (first | (with_reducible first | exact HB.out | apply below_alloc | apply pw_below_drewN | apply below_drew1 | refine below_set ?_ GE149.out | refine below_set ?_ GE155.out) | exact HB.out)) hb); clear HO158; clear HO161; clear BK149; clear BK155; clear HB; have HO158 := n0_; have HO161 := n1_; have BK149 := n2_; have BK155 := n3_; have HB := n4_; clear n0_ n1_ n2_ n3_ n4_; (try clear hb); (try clear hb2); (try clear hk); (try clear hi)))
                  have n0_ := Aside0.mk (Kd.R_drew HO158.out)
                  have n1_ := Aside0.mk (Kd.R_drew HO161.out)
                  have n2_ := Aside0.mk (blk_drew BK149.out)
                  have n3_ := Aside0.mk (blk_drew BK155.out)
                  have n4_ := Aside0.mk (below_drew1 HB.out)
                  clear HO158
                  clear HO161
                  clear BK149
                  clear BK155
                  clear HB
                  have HO158 := n0_
                  have HO161 := n1_
                  have BK149 := n2_
                  have BK155 := n3_
                  have HB := n4_
                  clear n0_ n1_ n2_ n3_ n4_
                  refine start_ (n := 8) (S := fun w' => w'.cell? ⟨gb155, 0, none⟩ = some (.bool t150) ∧ w'.cell? ⟨gb155, 1, none⟩ = some (.bool false) ∧ w'.cell? ⟨gb155, 2, none⟩ = some (.bool t152) ∧ w'.cell? ⟨gb155, 3, none⟩ = some (.int .i64 t153) ∧ w'.cell? ⟨gb155, 4, none⟩ = some (.int .i64 t154)) (ds := []) #[false, false, false, false, false, false, false, false] (by kernel_rfl) rfl rfl ⟨(blk_cell BK155.out 0).trans rfl, (blk_cell BK155.out 1).trans rfl, (blk_cell BK155.out 2).trans rfl, (blk_cell BK155.out 3).trans rfl, (blk_cell BK155.out 4).trans rfl⟩ (fun hHeld => ?_); refine with_tabW hearthref1_FloAdd.tab19 hearthref1_FloAdd.bits19 (fun HT_ HW_ => ?_)
                  generalize w102.drew = w103 at HO158 HO161 BK149 BK155 HB hHeld ⊢
                  refine pure_ (i := 0) (N := some 90) (v := ?_) (a' := ?_) #[true, false, false, false, false, false, false, false] rfl rfl (any_of HT_.out (by kernel_rfl)) (fun _ _ _ h => h) (Or.inl ⟨by rfl, ?_⟩) ?_ ?_
                  rotate_left
                  · intro w'
                    go_simp
                    with_reducible rfl
                  rotate_left
                  · simp only [Act.put, List.setIfInBounds_toArray, List.set_cons_zero, List.set_cons_succ, i64_w, i32_w]
                    rfl
                  refine pure_ (i := 2) (N := some 92) (v := ?_) (a' := ?_) #[true, false, true, false, false, false, false, false] rfl rfl (any_of HT_.out (by kernel_rfl)) (fun _ _ _ h => h) (Or.inl ⟨by rfl, ?_⟩) ?_ ?_
                  rotate_left
                  · intro w'
                    go_simp
                    with_reducible rfl
                  rotate_left
                  · simp only [Act.put, List.setIfInBounds_toArray, List.set_cons_zero, List.set_cons_succ, i64_w, i32_w]
                    rfl
                  refine pure_ (i := 3) (N := some 93) (v := ?_) (a' := ?_) #[true, false, true, true, false, false, false, false] rfl rfl (any_of HT_.out (by kernel_rfl)) (fun _ _ _ h => h) (Or.inl ⟨by rfl, ?_⟩) ?_ ?_
                  rotate_left
                  · intro w'
                    go_simp
                    with_reducible rfl
                  rotate_left
                  · simp only [Act.put, List.setIfInBounds_toArray, List.set_cons_zero, List.set_cons_succ, i64_w, i32_w]
                    rfl
                  refine pure_ (i := 5) (N := some 95) (v := ?_) (a' := ?_) #[true, false, true, true, false, true, false, false] rfl rfl (any_of HT_.out (by kernel_rfl)) (fun _ _ _ h => h) (Or.inl ⟨by rfl, ?_⟩) ?_ ?_
                  rotate_left
                  · intro w'
                    go_simp
                    with_reducible rfl
                  rotate_left
                  · simp only [Act.put, List.setIfInBounds_toArray, List.set_cons_zero, List.set_cons_succ, i64_w, i32_w]
                    rfl
                  refine take_ (i := 1) (N := some 91) (v := ?_) (a' := ?_) #[true, true, true, true, false, true, false, false] rfl rfl (take_ofW HT_.out HW_.out (by kernel_rfl)) (fun _ _ _ h => h) (Or.inl ⟨by rfl, ?_⟩) hHeld ?_ ?_
                  rotate_left
                  · rintro w' ⟨s0, s1, s2, s3, s4⟩
                    go_simp
                    with_reducible rfl
                  rotate_left
                  · simp only [Act.put, List.setIfInBounds_toArray, List.set_cons_zero, List.set_cons_succ, i64_w, i32_w]
                    rfl
                  refine one_ (i := 4) (N := some 94) #[true, true, true, true, true, true, false, false] rfl rfl (one_of HT_.out (by kernel_rfl)) (by decide) (fun K hK => ?_)
                  refine goes_ Try.func56 (by kernel_rfl) rfl #[.slice Ao101 t159.length co101, .slice Ao100 t156.length co100, .bool true] (by rfl) rfl rfl (by (try simp only [List.map_toArray, List.map_cons, List.map_nil]); first | done | rfl | (simp only [List.length_drop, List.length_take]; rfl)) ?_
                  with_reducible refine (hearthref1_summed.calls kj4 _ _ t159 _ _ t156 true t171 _ ?side1 ?side2 ?side3 ?side4 A90.out).mono ?_
                  (case side1 => repeat (first | exact (Kd.R_reads' HO161.out).2.2 | (with_reducible refine Kd.C_alloc ?_ _) | (with_reducible refine Kd.C_drewN ?_ _) | (with_reducible refine Kd.C_drew ?_)))
                  (case side2 => exact (Kd.R_reads' HO161.out).2.1)
                  (case side3 => repeat (first | exact (Kd.R_reads' HO158.out).2.2 | (with_reducible refine Kd.C_alloc ?_ _) | (with_reducible refine Kd.C_drewN ?_ _) | (with_reducible refine Kd.C_drew ?_)))
                  (case side4 => exact (Kd.R_reads' HO158.out).2.1)
                  rintro e w104 ⟨v172, rfl, ho0, hb⟩
                  refine ⟨_, rfl, ?_⟩
                  have n0_ := Aside0.mk (Kd.R_elder' (by (with_reducible repeat (first | apply Kd.R_alloc | apply Kd.R_drewN | apply Kd.R_drew)); exact HO158.out) (Kd.R_base ho0) hb)
                  have n1_ := Aside0.mk (Kd.R_elder' (by (with_reducible repeat (first | apply Kd.R_alloc | apply Kd.R_drewN | apply Kd.R_drew)); exact HO161.out) (Kd.R_base ho0) hb)
                  have n2_ := Aside0.mk (Kd.R_lower (Kd.R_new' (Kd.R_new' ho0 (Kd.R_lt (by (with_reducible repeat (first | apply Kd.R_alloc | apply Kd.R_drewN | apply Kd.R_drew)); exact HO158.out))) (Kd.R_lt (by (with_reducible repeat (first | apply Kd.R_alloc | apply Kd.R_drewN | apply Kd.R_drew)); exact HO161.out))) (below_size (by repeat (first | (with_reducible first | exact HB.out | apply below_alloc | apply pw_below_drewN | apply below_drew1 | refine below_set ?_ GE149.out | refine below_set ?_ GE155.out) | exact HB.out))))
                  have n3_ := Aside0.mk (blk_below (g := gb149) (o := .cells #[.bool t144, .bool false, .bool t146, .int .i64 t147, .int .i64 t148] 40 (0, 0)) (by (with_reducible repeat (first | refine blk_drewN ?_ _ | refine blk_drew ?_ | refine blk_alloc ?_ _)); exact BK149.out) hb)
                  have n4_ := Aside0.mk (blk_below (g := gb155) (o := .cells #[.bool t150, .bool false, .bool t152, .int .i64 t153, .int .i64 t154] 40 (0, 0)) (by (with_reducible repeat (first | refine blk_drewN ?_ _ | refine blk_drew ?_ | refine blk_alloc ?_ _)); exact BK155.out) hb)
                  have n5_ := Aside0.mk (below_step (by repeat (first | (with_reducible first | exact HB.out | apply below_alloc | apply pw_below_drewN | apply below_drew1 | refine below_set ?_ GE149.out | refine below_set ?_ GE155.out) | exact HB.out)) hb)
                  clear HO158
                  clear HO161
                  clear BK149
                  clear BK155
                  clear HB
                  have HO158 := n0_
                  have HO161 := n1_
                  have HO173 := n2_
                  have BK149 := n3_
                  have BK155 := n4_
                  have HB := n5_
                  clear n0_ n1_ n2_ n3_ n4_ n5_
                  (try clear hb)
                  (try clear hb2)
                  (try clear hk)
                  (try clear hi)
                  (try clear ho0)
                  obtain ⟨Ao105, co105, eo105⟩ := Kd.R_slice HO173.out
                  (first | subst eo105 | (injection eo105 with f1_ f2_ f3_; have f4_ := f1_.symm; have f5_ := f3_.symm; clear f1_ f2_ f3_; subst f4_; subst f5_))
                  refine hK.out _ _ ⟨(blk_cell BK155.out 0).trans rfl, (blk_cell BK155.out 1).trans rfl, (blk_cell BK155.out 2).trans rfl, (blk_cell BK155.out 3).trans rfl, (blk_cell BK155.out 4).trans rfl⟩ (fun hHeld => ?_)
                  clear hK K
                  refine norm_ (a' := ?_) ?_ ?_
                  rotate_left
                  · show Act.put _ (some 94) _ = _
                    simp only [Act.put, List.setIfInBounds_toArray, List.set_cons_zero, List.set_cons_succ, i64_w, i32_w]
                    rfl
                  refine one_ (i := 6) (N := some 96) #[true, true, true, true, true, true, true, false] rfl rfl (one_of HT_.out (by kernel_rfl)) (by decide) (fun K hK => ?_)
                  refine goes_ Try.func55 (by kernel_rfl) rfl #[.bool t150, .slice Ao105 t171.length co105, .int .i64 ji39, .bool false] (by rfl) rfl rfl (by (try simp only [List.map_toArray, List.map_cons, List.map_nil]); first | done | (simp only [hji39]; rfl) | rfl | (simp only [List.length_drop, List.length_take]; rfl)) ?_
                  with_reducible refine (hearthref1_rounded.calls kj4 t150 _ _ t171 ji39 false t174 _ ?side1 ?side2 A91.out).mono ?_
                  (case side1 => repeat (first | exact (Kd.R_reads' HO173.out).2.2 | (with_reducible refine Kd.C_alloc ?_ _) | (with_reducible refine Kd.C_drewN ?_ _) | (with_reducible refine Kd.C_drew ?_)))
                  (case side2 => exact (Kd.R_reads' HO173.out).2.1)
                  rintro e w106 ⟨rfl, hb⟩
                  refine ⟨_, rfl, ?_⟩
                  have n0_ := Aside0.mk (Kd.R_below (by (with_reducible repeat (first | apply Kd.R_alloc | apply Kd.R_drewN | apply Kd.R_drew)); exact HO158.out) hb)
                  have n1_ := Aside0.mk (Kd.R_below (by (with_reducible repeat (first | apply Kd.R_alloc | apply Kd.R_drewN | apply Kd.R_drew)); exact HO161.out) hb)
                  have n2_ := Aside0.mk (Kd.R_below (by (with_reducible repeat (first | apply Kd.R_alloc | apply Kd.R_drewN | apply Kd.R_drew)); exact HO173.out) hb)
                  have n3_ := Aside0.mk (blk_below (g := gb149) (o := .cells #[.bool t144, .bool false, .bool t146, .int .i64 t147, .int .i64 t148] 40 (0, 0)) (by (with_reducible repeat (first | refine blk_drewN ?_ _ | refine blk_drew ?_ | refine blk_alloc ?_ _)); exact BK149.out) hb)
                  have n4_ := Aside0.mk (blk_below (g := gb155) (o := .cells #[.bool t150, .bool false, .bool t152, .int .i64 t153, .int .i64 t154] 40 (0, 0)) (by (with_reducible repeat (first | refine blk_drewN ?_ _ | refine blk_drew ?_ | refine blk_alloc ?_ _)); exact BK155.out) hb)
                  have n5_ := Aside0.mk (below_step (by repeat (first | (with_reducible first | exact HB.out | apply below_alloc | apply pw_below_drewN | apply below_drew1 | refine below_set ?_ GE149.out | refine below_set ?_ GE155.out) | exact HB.out)) hb)
                  clear HO158
                  clear HO161
                  clear HO173
                  clear BK149
                  clear BK155
                  clear HB
                  have HO158 := n0_
                  have HO161 := n1_
                  have HO173 := n2_
                  have BK149 := n3_
                  have BK155 := n4_
                  have HB := n5_
                  clear n0_ n1_ n2_ n3_ n4_ n5_
                  (try clear hb)
                  (try clear hb2)
                  (try clear hk)
                  (try clear hi)
                  refine hK.out _ _ ⟨(blk_cell BK155.out 0).trans rfl, (blk_cell BK155.out 1).trans rfl, (blk_cell BK155.out 2).trans rfl, (blk_cell BK155.out 3).trans rfl, (blk_cell BK155.out 4).trans rfl⟩ (fun hHeld => ?_)
                  clear hK K
                  refine norm_ (a' := ?_) ?_ ?_
                  rotate_left
                  · show Act.put _ (some 96) _ = _
                    simp only [Act.put, List.setIfInBounds_toArray, List.set_cons_zero, List.set_cons_succ, i64_w, i32_w]
                    rfl
                  refine pure_ (i := 7) (N := some 4) (v := ?_) (a' := ?_) #[true, true, true, true, true, true, true, true] rfl rfl (any_of HT_.out (by kernel_rfl)) (fun _ _ _ h => h) (Or.inl ⟨by rfl, ?_⟩) ?_ ?_
                  rotate_left
                  · intro w'
                    go_simp
                    with_reducible rfl
                  rotate_left
                  · simp only [Act.put, List.setIfInBounds_toArray, List.set_cons_zero, List.set_cons_succ, i64_w, i32_w]
                    rfl
                  refine done_ (done_of HT_.out (by kernel_rfl)) ?_
                  try go_wp2
                  go_ret
                  exact ⟨by first | rfl | (simp [errW_none, errW_some] <;> rfl) | (simp only [← hji39]; first | rfl | (simp [errW_none, errW_some] <;> rfl)) | (simp [*, errW_none, errW_some] <;> rfl), by repeat (first | (with_reducible first | exact HB.out | apply below_alloc | apply pw_below_drewN | apply below_drew1 | refine below_set ?_ GE149.out | refine below_set ?_ GE155.out) | exact HB.out)⟩

end Go.Proofs.Ytpjcheenihlagaa.PFixAll
