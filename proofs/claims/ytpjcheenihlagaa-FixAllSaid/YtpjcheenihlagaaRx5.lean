/- What functions of chapter 1 and of its reference come to, and that the Go text comes to it (after the kit's print; one walk turned). No conditions beyond those in each lemma. -/
import Derived.Test.YtpjcheenihlagaaBas
import Derived.Test.YtpjcheenihlagaaRx1
import Derived.Test.YtpjcheenihlagaaRx4
namespace Go.Proofs.Ytpjcheenihlagaa.PFixAll
open Go.RowKit Go.Proofs.YtpjcheenihlagaaW.PrintWords Go.Proofs.YtpjcheenihlagaaW.PrintLast Go.Proofs.YtpjcheenihlagaaW.PrintMore
attribute [local go_sem] max2_int min2_int max_two min_two max_three min_three max_four min_four   -- for this text's walks alone
set_option linter.unusedVariables false
set_option linter.unusedSimpArgs false

-- NOT PRINTED: function 24 (fix_FloSub)

/-! ### hearthref1_FloSub: function 25 -/
def hearthref1_FloSub.f (k : Nat) (a0 : Int) (a1 : Int) : Option (Int) := (hearthref1_Parts.f k a1).bind fun bt175 => (if bt175.2.2.1 = true then (some 9221120237041090561) else ((hearthref1_FloAdd.f k a0 (wrap64 (a1 + (-9223372036854775808)))).bind fun t180 => (some t180)))
theorem hearthref1_FloSub.mono : ∀ a0 a1 k, LeO (hearthref1_FloSub.f k a0 a1) (hearthref1_FloSub.f (k + 1) a0 a1) := by
  intro a0 a1 k
  unfold hearthref1_FloSub.f
  repeat' first
      | (with_reducible exact hearthref1_FloAdd.mono _ _ _)
      | (with_reducible exact hearthref1_Parts.mono _ _)
      | (with_reducible exact LeO.refl _)
      | (with_reducible exact LeO.none _)
      | (with_reducible refine LeO.ite ?_ ?_)
      | (with_reducible refine LeO.bind ?_ (fun _ => ?_))
      | exact hearthref1_FloAdd.mono _ _ _
      | exact hearthref1_Parts.mono _ _
      | exact LeO.none _
      | refine LeO.ite ?_ ?_
      | refine LeO.bind ?_ (fun _ => ?_)
set_option maxHeartbeats 8000000 in
set_option maxRecDepth 100000 in
theorem hearthref1_FloSub.calls (k : Nat) (a0 : Int) (a1 : Int) (r : Int) (w : World) (h : hearthref1_FloSub.f k a0 a1 = some r) :
    Calls Try.prog 25 #[.int .i64 a0, .int .i64 a1] w fun e w' => e = .returned (.int .i64 r) ∧ Below w.heap.size w w' := by
  have hu40 := Try.underlying40
  have hf40 : ∀ (x0 x1 x2 : Bool) (x3 x4 : Int) (w : World), (Instr.field 40 (.agg #[.bool x0, .bool x1, .bool x2, .int .i64 x3, .int .i64 x4]) 2).run Try.prog w = .ok (.bool x2) w := fun _ _ _ _ _ _ => by kernel_rfl
  have HB := Aside0.mk (Below.refl w.heap.size w)
  have H : ((hearthref1_Parts.f k a1).bind fun bt175 => (if bt175.2.2.1 = true then (some 9221120237041090561) else ((hearthref1_FloAdd.f k a0 (wrap64 (a1 + (-9223372036854775808)))).bind fun t180 => (some t180)))) = some r := h
  clear h
  replace H := Option.bind_eq_some_iff.mp H
  obtain ⟨⟨t175, t176, t177, t178, t179⟩, A30, H⟩ := H
  replace H : (if t177 = true then (some 9221120237041090561) else ((hearthref1_FloAdd.f k a0 (wrap64 (a1 + (-9223372036854775808)))).bind fun t180 => (some t180))) = some r := H
  have A3 := Aside0.mk A30
  clear A30
  by_cases c4 : t177 = true
  · subst c4
    have H1 : (some 9221120237041090561) = some r := by rw [if_pos rfl] at H; exact H
    clear H
    have H := H1
    clear H1
    obtain rfl := Option.some.inj H
    go_enter Try.func25, Try.ntmps25
    go_wp2_with (first | ((with_reducible refine gate_callee (f := 51) rfl ?_); refine goesL_ (some 6) rfl rfl Try.func51 (by kernel_rfl) rfl #[.int .i64 a1] rfl (by (try simp only [List.map_toArray, List.map_cons, List.map_nil]); first | done | rfl | (simp only [List.length_drop, List.length_take]; rfl)) ?_; (with_reducible refine (hearthref1_Parts.calls k a1 t175 t176 true t178 t179 _ A3.out).mono ?_); rintro e w5 ⟨rfl, hb⟩; refine ⟨_, rfl, ?_⟩; have n0_ := Aside0.mk (below_step (by repeat (first | (with_reducible first | exact HB.out | apply below_alloc | apply pw_below_drewN | apply below_drew1) | exact HB.out)) hb); clear HB; have HB := n0_; clear n0_; (try clear hb); (try clear hb2); (try clear hk); (try clear hi)))
    go_ret
    exact ⟨by first | rfl | (simp [errW_none, errW_some] <;> rfl) | (simp [*, errW_none, errW_some] <;> rfl), by repeat (first | (with_reducible first | exact HB.out | apply below_alloc | apply pw_below_drewN | apply below_drew1) | exact HB.out)⟩
  · replace c4 := Bool.eq_false_iff.mpr c4
    subst c4
    have H1 : ((hearthref1_FloAdd.f k a0 (wrap64 (a1 + (-9223372036854775808)))).bind fun t180 => (some t180)) = some r := by rw [if_neg (show ¬ (false = true) by decide)] at H; exact H
    clear H
    have H := H1
    clear H1
    replace H := Option.bind_eq_some_iff.mp H
    obtain ⟨t180, A60, H⟩ := H
    replace H : (some t180) = some r := H
    have A6 := Aside0.mk A60
    clear A60
    obtain rfl := Option.some.inj H
    go_enter Try.func25, Try.ntmps25
    go_wp2_with (first | ((with_reducible refine gate_callee (f := 51) rfl ?_); refine goesL_ (some 6) rfl rfl Try.func51 (by kernel_rfl) rfl #[.int .i64 a1] rfl (by (try simp only [List.map_toArray, List.map_cons, List.map_nil]); first | done | rfl | (simp only [List.length_drop, List.length_take]; rfl)) ?_; (with_reducible refine (hearthref1_Parts.calls k a1 t175 t176 false t178 t179 _ A3.out).mono ?_); rintro e w7 ⟨rfl, hb⟩; refine ⟨_, rfl, ?_⟩; have n0_ := Aside0.mk (below_step (by repeat (first | (with_reducible first | exact HB.out | apply below_alloc | apply pw_below_drewN | apply below_drew1) | exact HB.out)) hb); clear HB; have HB := n0_; clear n0_; (try clear hb); (try clear hb2); (try clear hk); (try clear hi)) | ((with_reducible refine gate_callee (f := 23) rfl ?_); refine goesL_ (some 11) rfl rfl Try.func23 (by kernel_rfl) rfl #[.int .i64 a0, .int .i64 (wrap64 (a1 + (-9223372036854775808)))] rfl (by (try simp only [List.map_toArray, List.map_cons, List.map_nil]); first | done | rfl | (simp only [List.length_drop, List.length_take]; rfl)) ?_; (with_reducible refine (hearthref1_FloAdd.calls k a0 (wrap64 (a1 + (-9223372036854775808))) t180 _ A6.out).mono ?_); rintro e w8 ⟨rfl, hb⟩; refine ⟨_, rfl, ?_⟩; have n0_ := Aside0.mk (below_step (by repeat (first | (with_reducible first | exact HB.out | apply below_alloc | apply pw_below_drewN | apply below_drew1) | exact HB.out)) hb); clear HB; have HB := n0_; clear n0_; (try clear hb); (try clear hb2); (try clear hk); (try clear hi)))
    go_ret
    exact ⟨by first | rfl | (simp [errW_none, errW_some] <;> rfl) | (simp [*, errW_none, errW_some] <;> rfl), by repeat (first | (with_reducible first | exact HB.out | apply below_alloc | apply pw_below_drewN | apply below_drew1) | exact HB.out)⟩

-- NOT PRINTED: function 5 (hearthlaw1_FixSums)

-- NOT PRINTED: function 26 (fix_FloLess)

/-! ### hearthref1_FloLess: function 27 -/
def hearthref1_FloLess.j0 : Nat → Int → Int → Bool → Bool → Bool → Bool → Int → Int → Bool → Bool → Bool → Int → Int → Option (Bool)
  | 0, _, _, _, _, _, _, _, _, _, _, _, _, _ => none
  | k + 1, x0, x1, x18, x187000, x187001, x187002, x187003, x187004, x193000, x193001, x193002, x193003, x193004 => if x18 = true then (some false) else (if x187000 = true then (if x193000 = true then (some (decide ((wrap64 (-(wrap64 (x0 - (-9223372036854775808))))) < (wrap64 (-(wrap64 (x1 - (-9223372036854775808)))))))) else (some (decide ((wrap64 (-(wrap64 (x0 - (-9223372036854775808))))) < x1)))) else (if x193000 = true then (some (decide (x0 < (wrap64 (-(wrap64 (x1 - (-9223372036854775808)))))))) else (some (decide (x0 < x1)))))
def hearthref1_FloLess.f (k : Nat) (a0 : Int) (a1 : Int) : Option (Bool) := (hearthref1_Parts.f k a0).bind fun bt181 => ((hearthref1_Parts.f k a1).bind fun bt187 => (if bt181.2.2.1 = true then (hearthref1_FloLess.j0 k a0 a1 true bt181.1 bt181.2.1 bt181.2.2.1 bt181.2.2.2.1 bt181.2.2.2.2 bt187.1 bt187.2.1 bt187.2.2.1 bt187.2.2.2.1 bt187.2.2.2.2) else (hearthref1_FloLess.j0 k a0 a1 bt187.2.2.1 bt181.1 bt181.2.1 bt181.2.2.1 bt181.2.2.2.1 bt181.2.2.2.2 bt187.1 bt187.2.1 bt187.2.2.1 bt187.2.2.2.1 bt187.2.2.2.2)))
theorem hearthref1_FloLess.mono_l : ∀ k, (∀ y0 y1 y2 y3 y4 y5 y6 y7 y8 y9 y10 y11 y12, LeO (hearthref1_FloLess.j0 k y0 y1 y2 y3 y4 y5 y6 y7 y8 y9 y10 y11 y12) (hearthref1_FloLess.j0 (k + 1) y0 y1 y2 y3 y4 y5 y6 y7 y8 y9 y10 y11 y12))
  | 0 => fun _ _ _ _ _ _ _ _ _ _ _ _ _ r h => by simp [hearthref1_FloLess.j0] at h
  | k + 1 => by
    have ih0 := hearthref1_FloLess.mono_l k
    · intro y0 y1 y2 y3 y4 y5 y6 y7 y8 y9 y10 y11 y12
      unfold hearthref1_FloLess.j0
      repeat' first
      | (with_reducible exact ih0 _ _ _ _ _ _ _ _ _ _ _ _ _)
      | (with_reducible exact hearthref1_Parts.mono _ _)
      | (with_reducible exact LeO.refl _)
      | (with_reducible exact LeO.none _)
      | (with_reducible refine LeO.ite ?_ ?_)
      | (with_reducible refine LeO.bind ?_ (fun _ => ?_))
      | exact ih0 _ _ _ _ _ _ _ _ _ _ _ _ _
      | exact hearthref1_Parts.mono _ _
      | exact LeO.none _
      | refine LeO.ite ?_ ?_
      | refine LeO.bind ?_ (fun _ => ?_)
theorem hearthref1_FloLess.mono : ∀ a0 a1 k, LeO (hearthref1_FloLess.f k a0 a1) (hearthref1_FloLess.f (k + 1) a0 a1) := by
  intro a0 a1 k
  have ih0 := hearthref1_FloLess.mono_l k
  unfold hearthref1_FloLess.f
  repeat' first
      | (with_reducible exact ih0 _ _ _ _ _ _ _ _ _ _ _ _ _)
      | (with_reducible exact hearthref1_Parts.mono _ _)
      | (with_reducible exact LeO.refl _)
      | (with_reducible exact LeO.none _)
      | (with_reducible refine LeO.ite ?_ ?_)
      | (with_reducible refine LeO.bind ?_ (fun _ => ?_))
      | exact ih0 _ _ _ _ _ _ _ _ _ _ _ _ _
      | exact hearthref1_Parts.mono _ _
      | exact LeO.none _
      | refine LeO.ite ?_ ?_
      | refine LeO.bind ?_ (fun _ => ?_)
set_option maxHeartbeats 8000000 in
set_option maxRecDepth 100000 in
theorem hearthref1_FloLess.calls (k : Nat) (a0 : Int) (a1 : Int) (r : Bool) (w : World) (h : hearthref1_FloLess.f k a0 a1 = some r) :
    Calls Try.prog 27 #[.int .i64 a0, .int .i64 a1] w fun e w' => e = .returned (.bool r) ∧ Below w.heap.size w w' := by
  have hu40 := Try.underlying40
  have HB := Aside0.mk (Below.refl w.heap.size w)
  have H : ((hearthref1_Parts.f k a0).bind fun bt181 => ((hearthref1_Parts.f k a1).bind fun bt187 => (if bt181.2.2.1 = true then (hearthref1_FloLess.j0 k a0 a1 true bt181.1 bt181.2.1 bt181.2.2.1 bt181.2.2.2.1 bt181.2.2.2.2 bt187.1 bt187.2.1 bt187.2.2.1 bt187.2.2.2.1 bt187.2.2.2.2) else (hearthref1_FloLess.j0 k a0 a1 bt187.2.2.1 bt181.1 bt181.2.1 bt181.2.2.1 bt181.2.2.2.1 bt181.2.2.2.2 bt187.1 bt187.2.1 bt187.2.2.1 bt187.2.2.2.1 bt187.2.2.2.2)))) = some r := h
  clear h
  replace H := Option.bind_eq_some_iff.mp H
  obtain ⟨⟨t181, t182, t183, t184, t185⟩, A30, H⟩ := H
  replace H : ((hearthref1_Parts.f k a1).bind fun bt187 => (if t183 = true then (hearthref1_FloLess.j0 k a0 a1 true t181 t182 t183 t184 t185 bt187.1 bt187.2.1 bt187.2.2.1 bt187.2.2.2.1 bt187.2.2.2.2) else (hearthref1_FloLess.j0 k a0 a1 bt187.2.2.1 t181 t182 t183 t184 t185 bt187.1 bt187.2.1 bt187.2.2.1 bt187.2.2.2.1 bt187.2.2.2.2))) = some r := H
  have A3 := Aside0.mk A30
  clear A30
  replace H := Option.bind_eq_some_iff.mp H
  obtain ⟨⟨t187, t188, t189, t190, t191⟩, A40, H⟩ := H
  replace H : (if t183 = true then (hearthref1_FloLess.j0 k a0 a1 true t181 t182 t183 t184 t185 t187 t188 t189 t190 t191) else (hearthref1_FloLess.j0 k a0 a1 t189 t181 t182 t183 t184 t185 t187 t188 t189 t190 t191)) = some r := H
  have A4 := Aside0.mk A40
  clear A40
  have HC5 := Aside0.mk H
  clear H
  go_enter Try.func27, Try.ntmps27
  go_upto_region 3 with (first | ((with_reducible refine gate_callee (f := 51) rfl ?_); refine goesL_ (some 10) rfl rfl Try.func51 (by kernel_rfl) rfl #[.int .i64 a0] rfl (by (try simp only [List.map_toArray, List.map_cons, List.map_nil]); first | done | rfl | (simp only [List.length_drop, List.length_take]; rfl)) ?_; (with_reducible refine (hearthref1_Parts.calls k a0 t181 t182 t183 t184 t185 _ A3.out).mono ?_); rintro e w6 ⟨rfl, hb⟩; refine ⟨_, rfl, ?_⟩; have n0_ := Aside0.mk (below_step (by repeat (first | (with_reducible first | exact HB.out | apply below_alloc | apply pw_below_drewN | apply below_drew1) | exact HB.out)) hb); clear HB; have HB := n0_; clear n0_; (try clear hb); (try clear hb2); (try clear hk); (try clear hi)) | ((with_reducible refine gate_dst (N := 5) rfl ?_); refine box_event ?hg (N := 5) ?hd (cs := #[.bool false, .bool false, .bool false, .int .i64 0, .int .i64 0]) (t := 40) ?hr ?_; (case hd => rfl); (case hg => rfl); (case hr => first | (go_simp; done) | (go_simp; rfl)); intro gb186 hg w7 hbox hb; have n0_ := Aside0.mk (below_step (by repeat (first | (with_reducible first | exact HB.out | apply below_alloc | apply pw_below_drewN | apply below_drew1) | exact HB.out)) hb); have n1_ := Aside0.mk (hbox); have n2_ := Aside0.mk ((by rw [hg]; exact (below_size (by repeat (first | (with_reducible first | exact HB.out | apply below_alloc | apply pw_below_drewN | apply below_drew1) | exact HB.out))) : w.heap.size ≤ gb186)); have n3_ := Aside0.mk ((by rw [hg]; exact (below_size (by repeat (first | (with_reducible first | exact HB.out | apply below_alloc | apply pw_below_drewN | apply below_drew1) | exact HB.out))) : w.heap.size ≤ gb186)); clear HB; have HB := n0_; have BK186 := n1_; have GW186 := n2_; have GE186 := n3_; clear n0_ n1_ n2_ n3_; clear hb hbox hg; have hcz8_0 : w7.cell? ⟨gb186, 0, none⟩ = some (.bool false) := (blk_cell BK186.out 0).trans rfl; have hcz8_1 : w7.cell? ⟨gb186, 1, none⟩ = some (.bool false) := (blk_cell BK186.out 1).trans rfl; have hcz8_2 : w7.cell? ⟨gb186, 2, none⟩ = some (.bool false) := (blk_cell BK186.out 2).trans rfl; have hcz8_3 : w7.cell? ⟨gb186, 3, none⟩ = some (.int .i64 0) := (blk_cell BK186.out 3).trans rfl; have hcz8_4 : w7.cell? ⟨gb186, 4, none⟩ = some (.int .i64 0) := (blk_cell BK186.out 4).trans rfl; have hfz8_0 := blk_frozen BK186.out 0; have hfz8_1 := blk_frozen BK186.out 1; have hfz8_2 := blk_frozen BK186.out 2; have hfz8_3 := blk_frozen BK186.out 3; have hfz8_4 := blk_frozen BK186.out 4) | ((with_reducible refine gate_callee (f := 51) rfl ?_); refine goesL_ (some 12) rfl rfl Try.func51 (by kernel_rfl) rfl #[.int .i64 a1] rfl (by (try simp only [List.map_toArray, List.map_cons, List.map_nil]); first | done | rfl | (simp only [List.length_drop, List.length_take]; rfl)) ?_; (with_reducible refine (hearthref1_Parts.calls k a1 t187 t188 t189 t190 t191 _ A4.out).mono ?_); rintro e w9 ⟨rfl, hb⟩; refine ⟨_, rfl, ?_⟩; have n0_ := Aside0.mk (blk_below (g := gb186) (o := .cells #[.bool t181, .bool t182, .bool t183, .int .i64 t184, .int .i64 t185] 40 (0, 0)) (by (with_reducible repeat (first | refine blk_drewN ?_ _ | refine blk_drew ?_ | refine blk_alloc ?_ _)); refine blk_put (cs := #[.bool t181, .bool t182, .bool t183, .int .i64 t184, .int .i64 0]) ?_ 4 _ rfl; (with_reducible repeat (first | refine blk_drewN ?_ _ | refine blk_drew ?_ | refine blk_alloc ?_ _)); refine blk_put (cs := #[.bool t181, .bool t182, .bool t183, .int .i64 0, .int .i64 0]) ?_ 3 _ rfl; (with_reducible repeat (first | refine blk_drewN ?_ _ | refine blk_drew ?_ | refine blk_alloc ?_ _)); refine blk_put (cs := #[.bool t181, .bool t182, .bool false, .int .i64 0, .int .i64 0]) ?_ 2 _ rfl; (with_reducible repeat (first | refine blk_drewN ?_ _ | refine blk_drew ?_ | refine blk_alloc ?_ _)); refine blk_put (cs := #[.bool t181, .bool false, .bool false, .int .i64 0, .int .i64 0]) ?_ 1 _ rfl; (with_reducible repeat (first | refine blk_drewN ?_ _ | refine blk_drew ?_ | refine blk_alloc ?_ _)); refine blk_put (cs := #[.bool false, .bool false, .bool false, .int .i64 0, .int .i64 0]) ?_ 0 _ rfl; (with_reducible repeat (first | refine blk_drewN ?_ _ | refine blk_drew ?_ | refine blk_alloc ?_ _)); exact BK186.out) hb); have n1_ := Aside0.mk (below_step (by repeat (first | (with_reducible first | exact HB.out | apply below_alloc | apply pw_below_drewN | apply below_drew1 | refine below_set ?_ GE186.out) | exact HB.out)) hb); clear BK186; clear HB; have BK186 := n0_; have HB := n1_; clear n0_ n1_; (try clear hb); (try clear hb2); (try clear hk); (try clear hi)) | ((with_reducible refine gate_dst (N := 6) rfl ?_); refine box_event ?hg (N := 6) ?hd (cs := #[.bool false, .bool false, .bool false, .int .i64 0, .int .i64 0]) (t := 40) ?hr ?_; (case hd => rfl); (case hg => rfl); (case hr => first | (go_simp; done) | (go_simp; rfl)); intro gb192 hg w10 hbox hb; have n0_ := Aside0.mk (blk_below (g := gb186) (o := .cells #[.bool t181, .bool t182, .bool t183, .int .i64 t184, .int .i64 t185] 40 (0, 0)) (by (with_reducible repeat (first | refine blk_drewN ?_ _ | refine blk_drew ?_ | refine blk_alloc ?_ _)); exact BK186.out) hb); have n1_ := Aside0.mk (below_step (by repeat (first | (with_reducible first | exact HB.out | apply below_alloc | apply pw_below_drewN | apply below_drew1 | refine below_set ?_ GE186.out) | exact HB.out)) hb); have n2_ := Aside0.mk (hbox); have n3_ := Aside0.mk ((by rw [hg]; exact (below_size (by repeat (first | (with_reducible first | exact HB.out | apply below_alloc | apply pw_below_drewN | apply below_drew1 | refine below_set ?_ GE186.out) | exact HB.out))) : w.heap.size ≤ gb192)); have n4_ := Aside0.mk ((by rw [hg]; exact (below_size (by repeat (first | (with_reducible first | exact HB.out | apply below_alloc | apply pw_below_drewN | apply below_drew1 | refine below_set ?_ GE186.out) | exact HB.out))) : w.heap.size ≤ gb192)); have n5_ := Aside0.mk ((by rw [hg]; exact Nat.ne_of_lt (blk_lt (g := gb186) (o := .cells #[.bool t181, .bool t182, .bool t183, .int .i64 t184, .int .i64 t185] 40 (0, 0)) (by (with_reducible repeat (first | refine blk_drewN ?_ _ | refine blk_drew ?_ | refine blk_alloc ?_ _)); exact BK186.out)) : gb186 ≠ gb192)); have n6_ := Aside0.mk ((by rw [hg]; exact Nat.ne_of_gt (blk_lt (g := gb186) (o := .cells #[.bool t181, .bool t182, .bool t183, .int .i64 t184, .int .i64 t185] 40 (0, 0)) (by (with_reducible repeat (first | refine blk_drewN ?_ _ | refine blk_drew ?_ | refine blk_alloc ?_ _)); exact BK186.out)) : gb192 ≠ gb186)); clear BK186; clear HB; have BK186 := n0_; have HB := n1_; have BK192 := n2_; have GW192 := n3_; have GE192 := n4_; have NB186_192 := n5_; have NB192_186 := n6_; clear n0_ n1_ n2_ n3_ n4_ n5_ n6_; clear hb hbox hg; have hnb11 := NB192_186.out; have hnc11 := NB186_192.out; have hcz12_0 : w10.cell? ⟨gb192, 0, none⟩ = some (.bool false) := (blk_cell BK192.out 0).trans rfl; have hcz12_1 : w10.cell? ⟨gb192, 1, none⟩ = some (.bool false) := (blk_cell BK192.out 1).trans rfl; have hcz12_2 : w10.cell? ⟨gb192, 2, none⟩ = some (.bool false) := (blk_cell BK192.out 2).trans rfl; have hcz12_3 : w10.cell? ⟨gb192, 3, none⟩ = some (.int .i64 0) := (blk_cell BK192.out 3).trans rfl; have hcz12_4 : w10.cell? ⟨gb192, 4, none⟩ = some (.int .i64 0) := (blk_cell BK192.out 4).trans rfl; have hfz12_0 := blk_frozen BK192.out 0; have hfz12_1 := blk_frozen BK192.out 1; have hfz12_2 := blk_frozen BK192.out 2; have hfz12_3 := blk_frozen BK192.out 3; have hfz12_4 := blk_frozen BK192.out 4))
  (try simp only [Act.put, List.setIfInBounds_toArray, List.set_cons_zero, List.set_cons_succ])
  go_cut [18] (fun v18 wc => ∃ (kq : Nat) (x18_4 : Bool), v18 = .bool x18_4 ∧ Aside0 (hearthref1_FloLess.j0 kq a0 a1 x18_4 t181 t182 t183 t184 t185 t187 t188 t189 t190 t191 = some r) ∧ Aside0 (kq ≤ k) ∧ Aside0 (wc.heap[gb186]? = some (.cells #[.bool t181, .bool t182, .bool t183, .int .i64 t184, .int .i64 t185] 40 (0, 0))) ∧ Aside0 (wc.heap[gb192]? = some (.cells #[.bool t187, .bool t188, .bool t189, .int .i64 t190, .int .i64 t191] 40 (0, 0))) ∧ Aside0 (Below w.heap.size w wc))
  case first =>
    have H := HC5.out
    clear HC5
    by_cases c13 : t183 = true
    · subst c13
      have H1 : (hearthref1_FloLess.j0 k a0 a1 true t181 t182 true t184 t185 t187 t188 t189 t190 t191) = some r := by rw [if_pos rfl] at H; exact H
      clear H
      have H := H1
      clear H1
      have H' := Aside0.mk H
      clear H
      have hnb14 := NB186_192.out
      have hnc14 := NB192_186.out
      have hcz15_0 : w10.cell? ⟨gb186, 0, none⟩ = some (.bool t181) := (blk_cell BK186.out 0).trans rfl
      have hcz15_1 : w10.cell? ⟨gb186, 1, none⟩ = some (.bool t182) := (blk_cell BK186.out 1).trans rfl
      have hcz15_2 : w10.cell? ⟨gb186, 2, none⟩ = some (.bool true) := (blk_cell BK186.out 2).trans rfl
      have hcz15_3 : w10.cell? ⟨gb186, 3, none⟩ = some (.int .i64 t184) := (blk_cell BK186.out 3).trans rfl
      have hcz15_4 : w10.cell? ⟨gb186, 4, none⟩ = some (.int .i64 t185) := (blk_cell BK186.out 4).trans rfl
      have hfz15_0 := blk_frozen BK186.out 0
      have hfz15_1 := blk_frozen BK186.out 1
      have hfz15_2 := blk_frozen BK186.out 2
      have hfz15_3 := blk_frozen BK186.out 3
      have hfz15_4 := blk_frozen BK186.out 4
      go_wp2
      go_meet
      case rel => exact ⟨_, (true), (by first | rfl | (simp; done) | (simp [*]; done)), H', ⟨by first | omega | exact Nat.le_refl _⟩, ⟨by (with_reducible repeat (first | refine blk_drewN ?_ _ | refine blk_drew ?_ | refine blk_alloc ?_ _)); refine blk_far ?_ NB186_192.out _; (with_reducible repeat (first | refine blk_drewN ?_ _ | refine blk_drew ?_ | refine blk_alloc ?_ _)); refine blk_far ?_ NB186_192.out _; (with_reducible repeat (first | refine blk_drewN ?_ _ | refine blk_drew ?_ | refine blk_alloc ?_ _)); refine blk_far ?_ NB186_192.out _; (with_reducible repeat (first | refine blk_drewN ?_ _ | refine blk_drew ?_ | refine blk_alloc ?_ _)); refine blk_far ?_ NB186_192.out _; (with_reducible repeat (first | refine blk_drewN ?_ _ | refine blk_drew ?_ | refine blk_alloc ?_ _)); refine blk_far ?_ NB186_192.out _; (with_reducible repeat (first | refine blk_drewN ?_ _ | refine blk_drew ?_ | refine blk_alloc ?_ _)); exact BK186.out⟩, ⟨by (with_reducible repeat (first | refine blk_drewN ?_ _ | refine blk_drew ?_ | refine blk_alloc ?_ _)); refine blk_put (cs := #[.bool t187, .bool t188, .bool t189, .int .i64 t190, .int .i64 0]) ?_ 4 _ rfl; (with_reducible repeat (first | refine blk_drewN ?_ _ | refine blk_drew ?_ | refine blk_alloc ?_ _)); refine blk_put (cs := #[.bool t187, .bool t188, .bool t189, .int .i64 0, .int .i64 0]) ?_ 3 _ rfl; (with_reducible repeat (first | refine blk_drewN ?_ _ | refine blk_drew ?_ | refine blk_alloc ?_ _)); refine blk_put (cs := #[.bool t187, .bool t188, .bool false, .int .i64 0, .int .i64 0]) ?_ 2 _ rfl; (with_reducible repeat (first | refine blk_drewN ?_ _ | refine blk_drew ?_ | refine blk_alloc ?_ _)); refine blk_put (cs := #[.bool t187, .bool false, .bool false, .int .i64 0, .int .i64 0]) ?_ 1 _ rfl; (with_reducible repeat (first | refine blk_drewN ?_ _ | refine blk_drew ?_ | refine blk_alloc ?_ _)); refine blk_put (cs := #[.bool false, .bool false, .bool false, .int .i64 0, .int .i64 0]) ?_ 0 _ rfl; (with_reducible repeat (first | refine blk_drewN ?_ _ | refine blk_drew ?_ | refine blk_alloc ?_ _)); exact BK192.out⟩, ⟨by repeat (first | (with_reducible first | exact HB.out | apply below_alloc | apply pw_below_drewN | apply below_drew1 | refine below_set ?_ GE186.out | refine below_set ?_ GE192.out) | exact HB.out)⟩⟩
    · replace c13 := Bool.eq_false_iff.mpr c13
      subst c13
      have H1 : (hearthref1_FloLess.j0 k a0 a1 t189 t181 t182 false t184 t185 t187 t188 t189 t190 t191) = some r := by rw [if_neg (show ¬ (false = true) by decide)] at H; exact H
      clear H
      have H := H1
      clear H1
      have H' := Aside0.mk H
      clear H
      have hnb16 := NB186_192.out
      have hnc16 := NB192_186.out
      have hcz17_0 : w10.cell? ⟨gb186, 0, none⟩ = some (.bool t181) := (blk_cell BK186.out 0).trans rfl
      have hcz17_1 : w10.cell? ⟨gb186, 1, none⟩ = some (.bool t182) := (blk_cell BK186.out 1).trans rfl
      have hcz17_2 : w10.cell? ⟨gb186, 2, none⟩ = some (.bool false) := (blk_cell BK186.out 2).trans rfl
      have hcz17_3 : w10.cell? ⟨gb186, 3, none⟩ = some (.int .i64 t184) := (blk_cell BK186.out 3).trans rfl
      have hcz17_4 : w10.cell? ⟨gb186, 4, none⟩ = some (.int .i64 t185) := (blk_cell BK186.out 4).trans rfl
      have hfz17_0 := blk_frozen BK186.out 0
      have hfz17_1 := blk_frozen BK186.out 1
      have hfz17_2 := blk_frozen BK186.out 2
      have hfz17_3 := blk_frozen BK186.out 3
      have hfz17_4 := blk_frozen BK186.out 4
      have hcz18_0 : w10.cell? ⟨gb192, 0, none⟩ = some (.bool false) := (blk_cell BK192.out 0).trans rfl
      have hcz18_1 : w10.cell? ⟨gb192, 1, none⟩ = some (.bool false) := (blk_cell BK192.out 1).trans rfl
      have hcz18_2 : w10.cell? ⟨gb192, 2, none⟩ = some (.bool false) := (blk_cell BK192.out 2).trans rfl
      have hcz18_3 : w10.cell? ⟨gb192, 3, none⟩ = some (.int .i64 0) := (blk_cell BK192.out 3).trans rfl
      have hcz18_4 : w10.cell? ⟨gb192, 4, none⟩ = some (.int .i64 0) := (blk_cell BK192.out 4).trans rfl
      have hfz18_0 := blk_frozen BK192.out 0
      have hfz18_1 := blk_frozen BK192.out 1
      have hfz18_2 := blk_frozen BK192.out 2
      have hfz18_3 := blk_frozen BK192.out 3
      have hfz18_4 := blk_frozen BK192.out 4
      go_wp2
      go_meet
      case rel => exact ⟨_, (t189), (by first | rfl | (simp; done) | (simp [*]; done)), H', ⟨by first | omega | exact Nat.le_refl _⟩, ⟨by (with_reducible repeat (first | refine blk_drewN ?_ _ | refine blk_drew ?_ | refine blk_alloc ?_ _)); refine blk_far ?_ NB186_192.out _; (with_reducible repeat (first | refine blk_drewN ?_ _ | refine blk_drew ?_ | refine blk_alloc ?_ _)); refine blk_far ?_ NB186_192.out _; (with_reducible repeat (first | refine blk_drewN ?_ _ | refine blk_drew ?_ | refine blk_alloc ?_ _)); refine blk_far ?_ NB186_192.out _; (with_reducible repeat (first | refine blk_drewN ?_ _ | refine blk_drew ?_ | refine blk_alloc ?_ _)); refine blk_far ?_ NB186_192.out _; (with_reducible repeat (first | refine blk_drewN ?_ _ | refine blk_drew ?_ | refine blk_alloc ?_ _)); refine blk_far ?_ NB186_192.out _; (with_reducible repeat (first | refine blk_drewN ?_ _ | refine blk_drew ?_ | refine blk_alloc ?_ _)); exact BK186.out⟩, ⟨by (with_reducible repeat (first | refine blk_drewN ?_ _ | refine blk_drew ?_ | refine blk_alloc ?_ _)); refine blk_put (cs := #[.bool t187, .bool t188, .bool t189, .int .i64 t190, .int .i64 0]) ?_ 4 _ rfl; (with_reducible repeat (first | refine blk_drewN ?_ _ | refine blk_drew ?_ | refine blk_alloc ?_ _)); refine blk_put (cs := #[.bool t187, .bool t188, .bool t189, .int .i64 0, .int .i64 0]) ?_ 3 _ rfl; (with_reducible repeat (first | refine blk_drewN ?_ _ | refine blk_drew ?_ | refine blk_alloc ?_ _)); refine blk_put (cs := #[.bool t187, .bool t188, .bool false, .int .i64 0, .int .i64 0]) ?_ 2 _ rfl; (with_reducible repeat (first | refine blk_drewN ?_ _ | refine blk_drew ?_ | refine blk_alloc ?_ _)); refine blk_put (cs := #[.bool t187, .bool false, .bool false, .int .i64 0, .int .i64 0]) ?_ 1 _ rfl; (with_reducible repeat (first | refine blk_drewN ?_ _ | refine blk_drew ?_ | refine blk_alloc ?_ _)); refine blk_put (cs := #[.bool false, .bool false, .bool false, .int .i64 0, .int .i64 0]) ?_ 0 _ rfl; (with_reducible repeat (first | refine blk_drewN ?_ _ | refine blk_drew ?_ | refine blk_alloc ?_ _)); exact BK192.out⟩, ⟨by repeat (first | (with_reducible first | exact HB.out | apply below_alloc | apply pw_below_drewN | apply below_drew1 | refine below_set ?_ GE186.out | refine below_set ?_ GE192.out) | exact HB.out)⟩⟩
  case rest =>
    clear HC5
    try clear c1
    try clear c2
    try clear p2
    try clear c5
    try clear c11
    try clear c13
    try clear c14
    try clear c16
    try clear hcz12_0
    try clear hcz12_1
    try clear hcz12_2
    try clear hcz12_3
    try clear hcz12_4
    try clear hcz15_0
    try clear hcz15_1
    try clear hcz15_2
    try clear hcz15_3
    try clear hcz15_4
    try clear hcz17_0
    try clear hcz17_1
    try clear hcz17_2
    try clear hcz17_3
    try clear hcz17_4
    try clear hcz18_0
    try clear hcz18_1
    try clear hcz18_2
    try clear hcz18_3
    try clear hcz18_4
    try clear hcz8_0
    try clear hcz8_1
    try clear hcz8_2
    try clear hcz8_3
    try clear hcz8_4
    try clear hfz12_0
    try clear hfz12_1
    try clear hfz12_2
    try clear hfz12_3
    try clear hfz12_4
    try clear hfz15_0
    try clear hfz15_1
    try clear hfz15_2
    try clear hfz15_3
    try clear hfz15_4
    try clear hfz17_0
    try clear hfz17_1
    try clear hfz17_2
    try clear hfz17_3
    try clear hfz17_4
    try clear hfz18_0
    try clear hfz18_1
    try clear hfz18_2
    try clear hfz18_3
    try clear hfz18_4
    try clear hfz8_0
    try clear hfz8_1
    try clear hfz8_2
    try clear hfz8_3
    try clear hfz8_4
    obtain ⟨kq, x18_4, rfl, HA, HJ4, BK186, BK192, HB⟩ := hcut
    cases kq with
    | zero => exact absurd HA.out (by simp [hearthref1_FloLess.j0])
    | succ kj4 =>
      have H := HA.out
      clear HA
      simp only [hearthref1_FloLess.j0] at H
      by_cases c19 : x18_4 = true
      · subst c19
        have H1 : (some false) = some r := by rw [if_pos rfl] at H; exact H
        clear H
        have H := H1
        clear H1
        obtain rfl := Option.some.inj H
        go_wp2
        go_ret
        exact ⟨by first | rfl | (simp [errW_none, errW_some] <;> rfl) | (simp [*, errW_none, errW_some] <;> rfl), by repeat (first | (with_reducible first | exact HB.out | apply below_alloc | apply pw_below_drewN | apply below_drew1 | refine below_set ?_ GE186.out | refine below_set ?_ GE192.out) | exact HB.out)⟩
      · replace c19 := Bool.eq_false_iff.mpr c19
        subst c19
        have H1 : (if t181 = true then (if t187 = true then (some (decide ((wrap64 (-(wrap64 (a0 - (-9223372036854775808))))) < (wrap64 (-(wrap64 (a1 - (-9223372036854775808)))))))) else (some (decide ((wrap64 (-(wrap64 (a0 - (-9223372036854775808))))) < a1)))) else (if t187 = true then (some (decide (a0 < (wrap64 (-(wrap64 (a1 - (-9223372036854775808)))))))) else (some (decide (a0 < a1))))) = some r := by rw [if_neg (show ¬ (false = true) by decide)] at H; exact H
        clear H
        have H := H1
        clear H1
        by_cases c20 : t181 = true
        · subst c20
          have H1 : (if t187 = true then (some (decide ((wrap64 (-(wrap64 (a0 - (-9223372036854775808))))) < (wrap64 (-(wrap64 (a1 - (-9223372036854775808)))))))) else (some (decide ((wrap64 (-(wrap64 (a0 - (-9223372036854775808))))) < a1)))) = some r := by rw [if_pos rfl] at H; exact H
          clear H
          have H := H1
          clear H1
          by_cases c21 : t187 = true
          · subst c21
            have H1 : (some (decide ((wrap64 (-(wrap64 (a0 - (-9223372036854775808))))) < (wrap64 (-(wrap64 (a1 - (-9223372036854775808)))))))) = some r := by rw [if_pos rfl] at H; exact H
            clear H
            have H := H1
            clear H1
            obtain rfl := Option.some.inj H
            have hnb22 := NB186_192.out
            have hnc22 := NB192_186.out
            have hcz23_0 : wc.cell? ⟨gb186, 0, none⟩ = some (.bool true) := (blk_cell BK186.out 0).trans rfl
            have hcz23_1 : wc.cell? ⟨gb186, 1, none⟩ = some (.bool t182) := (blk_cell BK186.out 1).trans rfl
            have hcz23_2 : wc.cell? ⟨gb186, 2, none⟩ = some (.bool t183) := (blk_cell BK186.out 2).trans rfl
            have hcz23_3 : wc.cell? ⟨gb186, 3, none⟩ = some (.int .i64 t184) := (blk_cell BK186.out 3).trans rfl
            have hcz23_4 : wc.cell? ⟨gb186, 4, none⟩ = some (.int .i64 t185) := (blk_cell BK186.out 4).trans rfl
            have hfz23_0 := blk_frozen BK186.out 0
            have hfz23_1 := blk_frozen BK186.out 1
            have hfz23_2 := blk_frozen BK186.out 2
            have hfz23_3 := blk_frozen BK186.out 3
            have hfz23_4 := blk_frozen BK186.out 4
            have hcz24_0 : wc.cell? ⟨gb192, 0, none⟩ = some (.bool true) := (blk_cell BK192.out 0).trans rfl
            have hcz24_1 : wc.cell? ⟨gb192, 1, none⟩ = some (.bool t188) := (blk_cell BK192.out 1).trans rfl
            have hcz24_2 : wc.cell? ⟨gb192, 2, none⟩ = some (.bool t189) := (blk_cell BK192.out 2).trans rfl
            have hcz24_3 : wc.cell? ⟨gb192, 3, none⟩ = some (.int .i64 t190) := (blk_cell BK192.out 3).trans rfl
            have hcz24_4 : wc.cell? ⟨gb192, 4, none⟩ = some (.int .i64 t191) := (blk_cell BK192.out 4).trans rfl
            have hfz24_0 := blk_frozen BK192.out 0
            have hfz24_1 := blk_frozen BK192.out 1
            have hfz24_2 := blk_frozen BK192.out 2
            have hfz24_3 := blk_frozen BK192.out 3
            have hfz24_4 := blk_frozen BK192.out 4
            go_wp2
            go_ret
            exact ⟨by first | rfl | (simp [errW_none, errW_some] <;> rfl) | (simp [*, errW_none, errW_some] <;> rfl), by repeat (first | (with_reducible first | exact HB.out | apply below_alloc | apply pw_below_drewN | apply below_drew1 | refine below_set ?_ GE186.out | refine below_set ?_ GE192.out) | exact HB.out)⟩
          · replace c21 := Bool.eq_false_iff.mpr c21
            subst c21
            have H1 : (some (decide ((wrap64 (-(wrap64 (a0 - (-9223372036854775808))))) < a1))) = some r := by rw [if_neg (show ¬ (false = true) by decide)] at H; exact H
            clear H
            have H := H1
            clear H1
            obtain rfl := Option.some.inj H
            have hnb25 := NB186_192.out
            have hnc25 := NB192_186.out
            have hcz26_0 : wc.cell? ⟨gb186, 0, none⟩ = some (.bool true) := (blk_cell BK186.out 0).trans rfl
            have hcz26_1 : wc.cell? ⟨gb186, 1, none⟩ = some (.bool t182) := (blk_cell BK186.out 1).trans rfl
            have hcz26_2 : wc.cell? ⟨gb186, 2, none⟩ = some (.bool t183) := (blk_cell BK186.out 2).trans rfl
            have hcz26_3 : wc.cell? ⟨gb186, 3, none⟩ = some (.int .i64 t184) := (blk_cell BK186.out 3).trans rfl
            have hcz26_4 : wc.cell? ⟨gb186, 4, none⟩ = some (.int .i64 t185) := (blk_cell BK186.out 4).trans rfl
            have hfz26_0 := blk_frozen BK186.out 0
            have hfz26_1 := blk_frozen BK186.out 1
            have hfz26_2 := blk_frozen BK186.out 2
            have hfz26_3 := blk_frozen BK186.out 3
            have hfz26_4 := blk_frozen BK186.out 4
            have hcz27_0 : wc.cell? ⟨gb192, 0, none⟩ = some (.bool false) := (blk_cell BK192.out 0).trans rfl
            have hcz27_1 : wc.cell? ⟨gb192, 1, none⟩ = some (.bool t188) := (blk_cell BK192.out 1).trans rfl
            have hcz27_2 : wc.cell? ⟨gb192, 2, none⟩ = some (.bool t189) := (blk_cell BK192.out 2).trans rfl
            have hcz27_3 : wc.cell? ⟨gb192, 3, none⟩ = some (.int .i64 t190) := (blk_cell BK192.out 3).trans rfl
            have hcz27_4 : wc.cell? ⟨gb192, 4, none⟩ = some (.int .i64 t191) := (blk_cell BK192.out 4).trans rfl
            have hfz27_0 := blk_frozen BK192.out 0
            have hfz27_1 := blk_frozen BK192.out 1
            have hfz27_2 := blk_frozen BK192.out 2
            have hfz27_3 := blk_frozen BK192.out 3
            have hfz27_4 := blk_frozen BK192.out 4
            go_wp2
            go_ret
            exact ⟨by first | rfl | (simp [errW_none, errW_some] <;> rfl) | (simp [*, errW_none, errW_some] <;> rfl), by repeat (first | (with_reducible first | exact HB.out | apply below_alloc | apply pw_below_drewN | apply below_drew1 | refine below_set ?_ GE186.out | refine below_set ?_ GE192.out) | exact HB.out)⟩
        · replace c20 := Bool.eq_false_iff.mpr c20
          subst c20
          have H1 : (if t187 = true then (some (decide (a0 < (wrap64 (-(wrap64 (a1 - (-9223372036854775808)))))))) else (some (decide (a0 < a1)))) = some r := by rw [if_neg (show ¬ (false = true) by decide)] at H; exact H
          clear H
          have H := H1
          clear H1
          by_cases c28 : t187 = true
          · subst c28
            have H1 : (some (decide (a0 < (wrap64 (-(wrap64 (a1 - (-9223372036854775808)))))))) = some r := by rw [if_pos rfl] at H; exact H
            clear H
            have H := H1
            clear H1
            obtain rfl := Option.some.inj H
            have hnb29 := NB186_192.out
            have hnc29 := NB192_186.out
            have hcz30_0 : wc.cell? ⟨gb186, 0, none⟩ = some (.bool false) := (blk_cell BK186.out 0).trans rfl
            have hcz30_1 : wc.cell? ⟨gb186, 1, none⟩ = some (.bool t182) := (blk_cell BK186.out 1).trans rfl
            have hcz30_2 : wc.cell? ⟨gb186, 2, none⟩ = some (.bool t183) := (blk_cell BK186.out 2).trans rfl
            have hcz30_3 : wc.cell? ⟨gb186, 3, none⟩ = some (.int .i64 t184) := (blk_cell BK186.out 3).trans rfl
            have hcz30_4 : wc.cell? ⟨gb186, 4, none⟩ = some (.int .i64 t185) := (blk_cell BK186.out 4).trans rfl
            have hfz30_0 := blk_frozen BK186.out 0
            have hfz30_1 := blk_frozen BK186.out 1
            have hfz30_2 := blk_frozen BK186.out 2
            have hfz30_3 := blk_frozen BK186.out 3
            have hfz30_4 := blk_frozen BK186.out 4
            have hcz31_0 : wc.cell? ⟨gb192, 0, none⟩ = some (.bool true) := (blk_cell BK192.out 0).trans rfl
            have hcz31_1 : wc.cell? ⟨gb192, 1, none⟩ = some (.bool t188) := (blk_cell BK192.out 1).trans rfl
            have hcz31_2 : wc.cell? ⟨gb192, 2, none⟩ = some (.bool t189) := (blk_cell BK192.out 2).trans rfl
            have hcz31_3 : wc.cell? ⟨gb192, 3, none⟩ = some (.int .i64 t190) := (blk_cell BK192.out 3).trans rfl
            have hcz31_4 : wc.cell? ⟨gb192, 4, none⟩ = some (.int .i64 t191) := (blk_cell BK192.out 4).trans rfl
            have hfz31_0 := blk_frozen BK192.out 0
            have hfz31_1 := blk_frozen BK192.out 1
            have hfz31_2 := blk_frozen BK192.out 2
            have hfz31_3 := blk_frozen BK192.out 3
            have hfz31_4 := blk_frozen BK192.out 4
            go_wp2
            go_ret
            exact ⟨by first | rfl | (simp [errW_none, errW_some] <;> rfl) | (simp [*, errW_none, errW_some] <;> rfl), by repeat (first | (with_reducible first | exact HB.out | apply below_alloc | apply pw_below_drewN | apply below_drew1 | refine below_set ?_ GE186.out | refine below_set ?_ GE192.out) | exact HB.out)⟩
          · replace c28 := Bool.eq_false_iff.mpr c28
            subst c28
            have H1 : (some (decide (a0 < a1))) = some r := by rw [if_neg (show ¬ (false = true) by decide)] at H; exact H
            clear H
            have H := H1
            clear H1
            obtain rfl := Option.some.inj H
            have hnb32 := NB186_192.out
            have hnc32 := NB192_186.out
            have hcz33_0 : wc.cell? ⟨gb186, 0, none⟩ = some (.bool false) := (blk_cell BK186.out 0).trans rfl
            have hcz33_1 : wc.cell? ⟨gb186, 1, none⟩ = some (.bool t182) := (blk_cell BK186.out 1).trans rfl
            have hcz33_2 : wc.cell? ⟨gb186, 2, none⟩ = some (.bool t183) := (blk_cell BK186.out 2).trans rfl
            have hcz33_3 : wc.cell? ⟨gb186, 3, none⟩ = some (.int .i64 t184) := (blk_cell BK186.out 3).trans rfl
            have hcz33_4 : wc.cell? ⟨gb186, 4, none⟩ = some (.int .i64 t185) := (blk_cell BK186.out 4).trans rfl
            have hfz33_0 := blk_frozen BK186.out 0
            have hfz33_1 := blk_frozen BK186.out 1
            have hfz33_2 := blk_frozen BK186.out 2
            have hfz33_3 := blk_frozen BK186.out 3
            have hfz33_4 := blk_frozen BK186.out 4
            have hcz34_0 : wc.cell? ⟨gb192, 0, none⟩ = some (.bool false) := (blk_cell BK192.out 0).trans rfl
            have hcz34_1 : wc.cell? ⟨gb192, 1, none⟩ = some (.bool t188) := (blk_cell BK192.out 1).trans rfl
            have hcz34_2 : wc.cell? ⟨gb192, 2, none⟩ = some (.bool t189) := (blk_cell BK192.out 2).trans rfl
            have hcz34_3 : wc.cell? ⟨gb192, 3, none⟩ = some (.int .i64 t190) := (blk_cell BK192.out 3).trans rfl
            have hcz34_4 : wc.cell? ⟨gb192, 4, none⟩ = some (.int .i64 t191) := (blk_cell BK192.out 4).trans rfl
            have hfz34_0 := blk_frozen BK192.out 0
            have hfz34_1 := blk_frozen BK192.out 1
            have hfz34_2 := blk_frozen BK192.out 2
            have hfz34_3 := blk_frozen BK192.out 3
            have hfz34_4 := blk_frozen BK192.out 4
            go_wp2
            go_ret
            exact ⟨by first | rfl | (simp [errW_none, errW_some] <;> rfl) | (simp [*, errW_none, errW_some] <;> rfl), by repeat (first | (with_reducible first | exact HB.out | apply below_alloc | apply pw_below_drewN | apply below_drew1 | refine below_set ?_ GE186.out | refine below_set ?_ GE192.out) | exact HB.out)⟩

-- NOT PRINTED: function 6 (hearthlaw1_FixLess)

-- NOT PRINTED: function 31 (fix_FloMul)

end Go.Proofs.Ytpjcheenihlagaa.PFixAll
