/- What functions of chapter 1 and of its reference come to, and that the Go text comes to it (after the kit's print; one walk turned). No conditions beyond those in each lemma. -/
import Derived.Test.YtpjcheenihlagaaBas
import Derived.Test.YtpjcheenihlagaaWRepsOne
import Derived.Test.YtpjcheenihlagaaRx1
import Derived.Test.YtpjcheenihlagaaRx2
namespace Go.Proofs.Ytpjcheenihlagaa.PFixAll
open Go.RowKit Go.Proofs.YtpjcheenihlagaaW.PrintWords Go.Proofs.YtpjcheenihlagaaW.PrintLast Go.Proofs.YtpjcheenihlagaaW.PrintMore
attribute [local go_sem] max2_int min2_int max_two min_two max_three min_three max_four min_four   -- for this text's walks alone
set_option linter.unusedVariables false
set_option linter.unusedSimpArgs false

/-! ### hearthref1_FloMul: function 32 -/
mutual
def hearthref1_FloMul.j0 : Nat → Bool → Bool → Bool → Bool → Bool → Int → Int → Bool → Bool → Bool → Int → Int → Option (Int)
  | 0, _, _, _, _, _, _, _, _, _, _, _, _ => none
  | k + 1, x7, x8, x199000, x199001, x199002, x199003, x199004, x205000, x205001, x205002, x205003, x205004 => if x199002 = true then (hearthref1_FloMul.j1 k x7 true x199000 x199001 x199002 x199003 x199004 x205000 x205001 x205002 x205003 x205004) else (if x205002 = true then (hearthref1_FloMul.j1 k x7 true x199000 x199001 x199002 x199003 x199004 x205000 x205001 x205002 x205003 x205004) else (if x199001 = true then (hearthref1_FloMul.j1 k x7 x8 x199000 x199001 x199002 x199003 x199004 x205000 x205001 x205002 x205003 x205004) else (if x205001 = true then (hearthref1_FloMul.j1 k x7 x8 x199000 x199001 x199002 x199003 x199004 x205000 x205001 x205002 x205003 x205004) else (hearthref1_FloMul.j1 k x7 false x199000 x199001 x199002 x199003 x199004 x205000 x205001 x205002 x205003 x205004))))
def hearthref1_FloMul.j1 : Nat → Bool → Bool → Bool → Bool → Bool → Int → Int → Bool → Bool → Bool → Int → Int → Option (Int)
  | 0, _, _, _, _, _, _, _, _, _, _, _, _ => none
  | k + 1, x7, x39, x199000, x199001, x199002, x199003, x199004, x205000, x205001, x205002, x205003, x205004 => if x39 = true then (some 9221120237041090561) else (if x199001 = true then ((hearthref1_infinity.f x7).bind fun t205 => (some t205)) else (if x205001 = true then ((hearthref1_infinity.f x7).bind fun t206 => (some t206)) else ((hearthref1_list.f k x199003 0).bind fun t210 => (hearthref1_FloMul.l0 k x7 (([0] : List Int)) t210 0 x199000 x199001 x199002 x199003 x199004 x205000 x205001 x205002 x205003 x205004))))
def hearthref1_FloMul.l0 : Nat → Bool → List Int → List Int → Int → Bool → Bool → Bool → Int → Int → Bool → Bool → Bool → Int → Int → Option (Int)
  | 0, _, _, _, _, _, _, _, _, _, _, _, _, _, _ => none
  | k + 1, x7, x9, x10, x11, x199000, x199001, x199002, x199003, x199004, x205000, x205001, x205002, x205003, x205004 => if x11 < (x10.length : Int) then (if 0 ≤ x11 then (if (rd x10 x11) = 1 then ((hearthref1_list.f k x205003 x11).bind fun t215 => ((hearthref1_summed.f k x9 t215 false).bind fun t218 => (hearthref1_FloMul.l0 k x7 t218 x10 (wrap64 (x11 + 1)) x199000 x199001 x199002 x199003 x199004 x205000 x205001 x205002 x205003 x205004))) else (hearthref1_FloMul.l0 k x7 x9 x10 (wrap64 (x11 + 1)) x199000 x199001 x199002 x199003 x199004 x205000 x205001 x205002 x205003 x205004)) else (none)) else ((hearthref1_rounded.f k x7 x9 (wrap64 (x199004 + x205004)) false).bind fun t213 => (some t213))
end
def hearthref1_FloMul.f (k : Nat) (a0 : Int) (a1 : Int) : Option (Int) := (hearthref1_Parts.f k a0).bind fun bt193 => ((hearthref1_Parts.f k a1).bind fun bt199 => (if bt193.2.1 = true then (if bt199.2.1 = true then (hearthref1_FloMul.j0 k (bt193.1 != bt199.1) false bt193.1 bt193.2.1 bt193.2.2.1 bt193.2.2.2.1 bt193.2.2.2.2 bt199.1 bt199.2.1 bt199.2.2.1 bt199.2.2.2.1 bt199.2.2.2.2) else (hearthref1_FloMul.j0 k (bt193.1 != bt199.1) (bt199.2.2.2.1 == 0) bt193.1 bt193.2.1 bt193.2.2.1 bt193.2.2.2.1 bt193.2.2.2.2 bt199.1 bt199.2.1 bt199.2.2.1 bt199.2.2.2.1 bt199.2.2.2.2)) else (if bt193.2.2.2.1 = 0 then (hearthref1_FloMul.j0 k (bt193.1 != bt199.1) true bt193.1 bt193.2.1 bt193.2.2.1 bt193.2.2.2.1 bt193.2.2.2.2 bt199.1 bt199.2.1 bt199.2.2.1 bt199.2.2.2.1 bt199.2.2.2.2) else (if bt199.2.1 = true then (hearthref1_FloMul.j0 k (bt193.1 != bt199.1) false bt193.1 bt193.2.1 bt193.2.2.1 bt193.2.2.2.1 bt193.2.2.2.2 bt199.1 bt199.2.1 bt199.2.2.1 bt199.2.2.2.1 bt199.2.2.2.2) else (hearthref1_FloMul.j0 k (bt193.1 != bt199.1) (bt199.2.2.2.1 == 0) bt193.1 bt193.2.1 bt193.2.2.1 bt193.2.2.2.1 bt193.2.2.2.2 bt199.1 bt199.2.1 bt199.2.2.1 bt199.2.2.2.1 bt199.2.2.2.2)))))
theorem hearthref1_FloMul.mono_l : ∀ k, (∀ y0 y1 y2 y3 y4 y5 y6 y7 y8 y9 y10 y11, LeO (hearthref1_FloMul.j0 k y0 y1 y2 y3 y4 y5 y6 y7 y8 y9 y10 y11) (hearthref1_FloMul.j0 (k + 1) y0 y1 y2 y3 y4 y5 y6 y7 y8 y9 y10 y11)) ∧ (∀ y0 y1 y2 y3 y4 y5 y6 y7 y8 y9 y10 y11, LeO (hearthref1_FloMul.j1 k y0 y1 y2 y3 y4 y5 y6 y7 y8 y9 y10 y11) (hearthref1_FloMul.j1 (k + 1) y0 y1 y2 y3 y4 y5 y6 y7 y8 y9 y10 y11)) ∧ (∀ y0 y1 y2 y3 y4 y5 y6 y7 y8 y9 y10 y11 y12 y13, LeO (hearthref1_FloMul.l0 k y0 y1 y2 y3 y4 y5 y6 y7 y8 y9 y10 y11 y12 y13) (hearthref1_FloMul.l0 (k + 1) y0 y1 y2 y3 y4 y5 y6 y7 y8 y9 y10 y11 y12 y13))
  | 0 => ⟨fun _ _ _ _ _ _ _ _ _ _ _ _ r h => by simp [hearthref1_FloMul.j0] at h, fun _ _ _ _ _ _ _ _ _ _ _ _ r h => by simp [hearthref1_FloMul.j1] at h, fun _ _ _ _ _ _ _ _ _ _ _ _ _ _ r h => by simp [hearthref1_FloMul.l0] at h⟩
  | k + 1 => by
    obtain ⟨ih0, ih1, ih2⟩ := hearthref1_FloMul.mono_l k
    refine ⟨?_, ?_, ?_⟩
    · intro y0 y1 y2 y3 y4 y5 y6 y7 y8 y9 y10 y11
      unfold hearthref1_FloMul.j0
      repeat' first
      | (with_reducible exact ih0 _ _ _ _ _ _ _ _ _ _ _ _)
      | (with_reducible exact ih1 _ _ _ _ _ _ _ _ _ _ _ _)
      | (with_reducible exact ih2 _ _ _ _ _ _ _ _ _ _ _ _ _ _)
      | (with_reducible exact hearthref1_Parts.mono _ _)
      | (with_reducible exact hearthref1_list.mono _ _ _)
      | (with_reducible exact hearthref1_rounded.mono _ _ _ _ _)
      | (with_reducible exact hearthref1_summed.mono _ _ _ _)
      | (with_reducible exact LeO.refl _)
      | (with_reducible exact LeO.none _)
      | (with_reducible refine LeO.ite ?_ ?_)
      | (with_reducible refine LeO.bind ?_ (fun _ => ?_))
      | exact ih0 _ _ _ _ _ _ _ _ _ _ _ _
      | exact ih1 _ _ _ _ _ _ _ _ _ _ _ _
      | exact ih2 _ _ _ _ _ _ _ _ _ _ _ _ _ _
      | exact hearthref1_Parts.mono _ _
      | exact hearthref1_list.mono _ _ _
      | exact hearthref1_rounded.mono _ _ _ _ _
      | exact hearthref1_summed.mono _ _ _ _
      | exact LeO.none _
      | refine LeO.ite ?_ ?_
      | refine LeO.bind ?_ (fun _ => ?_)
    · intro y0 y1 y2 y3 y4 y5 y6 y7 y8 y9 y10 y11
      unfold hearthref1_FloMul.j1
      repeat' first
      | (with_reducible exact ih0 _ _ _ _ _ _ _ _ _ _ _ _)
      | (with_reducible exact ih1 _ _ _ _ _ _ _ _ _ _ _ _)
      | (with_reducible exact ih2 _ _ _ _ _ _ _ _ _ _ _ _ _ _)
      | (with_reducible exact hearthref1_Parts.mono _ _)
      | (with_reducible exact hearthref1_list.mono _ _ _)
      | (with_reducible exact hearthref1_rounded.mono _ _ _ _ _)
      | (with_reducible exact hearthref1_summed.mono _ _ _ _)
      | (with_reducible exact LeO.refl _)
      | (with_reducible exact LeO.none _)
      | (with_reducible refine LeO.ite ?_ ?_)
      | (with_reducible refine LeO.bind ?_ (fun _ => ?_))
      | exact ih0 _ _ _ _ _ _ _ _ _ _ _ _
      | exact ih1 _ _ _ _ _ _ _ _ _ _ _ _
      | exact ih2 _ _ _ _ _ _ _ _ _ _ _ _ _ _
      | exact hearthref1_Parts.mono _ _
      | exact hearthref1_list.mono _ _ _
      | exact hearthref1_rounded.mono _ _ _ _ _
      | exact hearthref1_summed.mono _ _ _ _
      | exact LeO.none _
      | refine LeO.ite ?_ ?_
      | refine LeO.bind ?_ (fun _ => ?_)
    · intro y0 y1 y2 y3 y4 y5 y6 y7 y8 y9 y10 y11 y12 y13
      unfold hearthref1_FloMul.l0
      repeat' first
      | (with_reducible exact ih0 _ _ _ _ _ _ _ _ _ _ _ _)
      | (with_reducible exact ih1 _ _ _ _ _ _ _ _ _ _ _ _)
      | (with_reducible exact ih2 _ _ _ _ _ _ _ _ _ _ _ _ _ _)
      | (with_reducible exact hearthref1_Parts.mono _ _)
      | (with_reducible exact hearthref1_list.mono _ _ _)
      | (with_reducible exact hearthref1_rounded.mono _ _ _ _ _)
      | (with_reducible exact hearthref1_summed.mono _ _ _ _)
      | (with_reducible exact LeO.refl _)
      | (with_reducible exact LeO.none _)
      | (with_reducible refine LeO.ite ?_ ?_)
      | (with_reducible refine LeO.bind ?_ (fun _ => ?_))
      | exact ih0 _ _ _ _ _ _ _ _ _ _ _ _
      | exact ih1 _ _ _ _ _ _ _ _ _ _ _ _
      | exact ih2 _ _ _ _ _ _ _ _ _ _ _ _ _ _
      | exact hearthref1_Parts.mono _ _
      | exact hearthref1_list.mono _ _ _
      | exact hearthref1_rounded.mono _ _ _ _ _
      | exact hearthref1_summed.mono _ _ _ _
      | exact LeO.none _
      | refine LeO.ite ?_ ?_
      | refine LeO.bind ?_ (fun _ => ?_)
theorem hearthref1_FloMul.mono : ∀ a0 a1 k, LeO (hearthref1_FloMul.f k a0 a1) (hearthref1_FloMul.f (k + 1) a0 a1) := by
  intro a0 a1 k
  obtain ⟨ih0, ih1, ih2⟩ := hearthref1_FloMul.mono_l k
  unfold hearthref1_FloMul.f
  repeat' first
      | (with_reducible exact ih0 _ _ _ _ _ _ _ _ _ _ _ _)
      | (with_reducible exact ih1 _ _ _ _ _ _ _ _ _ _ _ _)
      | (with_reducible exact ih2 _ _ _ _ _ _ _ _ _ _ _ _ _ _)
      | (with_reducible exact hearthref1_Parts.mono _ _)
      | (with_reducible exact hearthref1_list.mono _ _ _)
      | (with_reducible exact hearthref1_rounded.mono _ _ _ _ _)
      | (with_reducible exact hearthref1_summed.mono _ _ _ _)
      | (with_reducible exact LeO.refl _)
      | (with_reducible exact LeO.none _)
      | (with_reducible refine LeO.ite ?_ ?_)
      | (with_reducible refine LeO.bind ?_ (fun _ => ?_))
      | exact ih0 _ _ _ _ _ _ _ _ _ _ _ _
      | exact ih1 _ _ _ _ _ _ _ _ _ _ _ _
      | exact ih2 _ _ _ _ _ _ _ _ _ _ _ _ _ _
      | exact hearthref1_Parts.mono _ _
      | exact hearthref1_list.mono _ _ _
      | exact hearthref1_rounded.mono _ _ _ _ _
      | exact hearthref1_summed.mono _ _ _ _
      | exact LeO.none _
      | refine LeO.ite ?_ ?_
      | refine LeO.bind ?_ (fun _ => ?_)
set_option maxHeartbeats 8000000 in
set_option maxRecDepth 100000 in
theorem hearthref1_FloMul.calls (k : Nat) (a0 : Int) (a1 : Int) (r : Int) (w : World) (h : hearthref1_FloMul.f k a0 a1 = some r) :
    Calls Try.prog 32 #[.int .i64 a0, .int .i64 a1] w fun e w' => e = .returned (.int .i64 r) ∧ Below w.heap.size w w' := by
  have hu40 := Try.underlying40
  have HB := Aside0.mk (Below.refl w.heap.size w)
  have H : ((hearthref1_Parts.f k a0).bind fun bt193 => ((hearthref1_Parts.f k a1).bind fun bt199 => (if bt193.2.1 = true then (if bt199.2.1 = true then (hearthref1_FloMul.j0 k (bt193.1 != bt199.1) false bt193.1 bt193.2.1 bt193.2.2.1 bt193.2.2.2.1 bt193.2.2.2.2 bt199.1 bt199.2.1 bt199.2.2.1 bt199.2.2.2.1 bt199.2.2.2.2) else (hearthref1_FloMul.j0 k (bt193.1 != bt199.1) (bt199.2.2.2.1 == 0) bt193.1 bt193.2.1 bt193.2.2.1 bt193.2.2.2.1 bt193.2.2.2.2 bt199.1 bt199.2.1 bt199.2.2.1 bt199.2.2.2.1 bt199.2.2.2.2)) else (if bt193.2.2.2.1 = 0 then (hearthref1_FloMul.j0 k (bt193.1 != bt199.1) true bt193.1 bt193.2.1 bt193.2.2.1 bt193.2.2.2.1 bt193.2.2.2.2 bt199.1 bt199.2.1 bt199.2.2.1 bt199.2.2.2.1 bt199.2.2.2.2) else (if bt199.2.1 = true then (hearthref1_FloMul.j0 k (bt193.1 != bt199.1) false bt193.1 bt193.2.1 bt193.2.2.1 bt193.2.2.2.1 bt193.2.2.2.2 bt199.1 bt199.2.1 bt199.2.2.1 bt199.2.2.2.1 bt199.2.2.2.2) else (hearthref1_FloMul.j0 k (bt193.1 != bt199.1) (bt199.2.2.2.1 == 0) bt193.1 bt193.2.1 bt193.2.2.1 bt193.2.2.2.1 bt193.2.2.2.2 bt199.1 bt199.2.1 bt199.2.2.1 bt199.2.2.2.1 bt199.2.2.2.2)))))) = some r := h
  clear h
  replace H := Option.bind_eq_some_iff.mp H
  obtain ⟨⟨t193, t194, t195, t196, t197⟩, A30, H⟩ := H
  replace H : ((hearthref1_Parts.f k a1).bind fun bt199 => (if t194 = true then (if bt199.2.1 = true then (hearthref1_FloMul.j0 k (t193 != bt199.1) false t193 t194 t195 t196 t197 bt199.1 bt199.2.1 bt199.2.2.1 bt199.2.2.2.1 bt199.2.2.2.2) else (hearthref1_FloMul.j0 k (t193 != bt199.1) (bt199.2.2.2.1 == 0) t193 t194 t195 t196 t197 bt199.1 bt199.2.1 bt199.2.2.1 bt199.2.2.2.1 bt199.2.2.2.2)) else (if t196 = 0 then (hearthref1_FloMul.j0 k (t193 != bt199.1) true t193 t194 t195 t196 t197 bt199.1 bt199.2.1 bt199.2.2.1 bt199.2.2.2.1 bt199.2.2.2.2) else (if bt199.2.1 = true then (hearthref1_FloMul.j0 k (t193 != bt199.1) false t193 t194 t195 t196 t197 bt199.1 bt199.2.1 bt199.2.2.1 bt199.2.2.2.1 bt199.2.2.2.2) else (hearthref1_FloMul.j0 k (t193 != bt199.1) (bt199.2.2.2.1 == 0) t193 t194 t195 t196 t197 bt199.1 bt199.2.1 bt199.2.2.1 bt199.2.2.2.1 bt199.2.2.2.2))))) = some r := H
  have A3 := Aside0.mk A30
  clear A30
  replace H := Option.bind_eq_some_iff.mp H
  obtain ⟨⟨t199, t200, t201, t202, t203⟩, A40, H⟩ := H
  replace H : (if t194 = true then (if t200 = true then (hearthref1_FloMul.j0 k (t193 != t199) false t193 t194 t195 t196 t197 t199 t200 t201 t202 t203) else (hearthref1_FloMul.j0 k (t193 != t199) (t202 == 0) t193 t194 t195 t196 t197 t199 t200 t201 t202 t203)) else (if t196 = 0 then (hearthref1_FloMul.j0 k (t193 != t199) true t193 t194 t195 t196 t197 t199 t200 t201 t202 t203) else (if t200 = true then (hearthref1_FloMul.j0 k (t193 != t199) false t193 t194 t195 t196 t197 t199 t200 t201 t202 t203) else (hearthref1_FloMul.j0 k (t193 != t199) (t202 == 0) t193 t194 t195 t196 t197 t199 t200 t201 t202 t203)))) = some r := H
  have A4 := Aside0.mk A40
  clear A40
  have HC5 := Aside0.mk H
  clear H
  go_enter Try.func32, Try.ntmps32
  go_upto_region 4 with (first | ((with_reducible refine gate_callee (f := 51) rfl ?_); refine goesL_ (some 13) rfl rfl Try.func51 (by kernel_rfl) rfl #[.int .i64 a0] rfl (by (try simp only [List.map_toArray, List.map_cons, List.map_nil]); first | done | rfl | (simp only [List.length_drop, List.length_take]; rfl)) ?_; (with_reducible refine (hearthref1_Parts.calls k a0 t193 t194 t195 t196 t197 _ A3.out).mono ?_); rintro e w6 ⟨rfl, hb⟩; refine ⟨_, rfl, ?_⟩; have n0_ := Aside0.mk (below_step (by repeat (first | (with_reducible first | exact HB.out | apply below_alloc | apply pw_below_drewN | apply below_drew1) | exact HB.out)) hb); clear HB; have HB := n0_; clear n0_; (try clear hb); (try clear hb2); (try clear hk); (try clear hi)) | ((with_reducible refine gate_dst (N := 5) rfl ?_); refine box_event ?hg (N := 5) ?hd (cs := #[.bool false, .bool false, .bool false, .int .i64 0, .int .i64 0]) (t := 40) ?hr ?_; (case hd => rfl); (case hg => rfl); (case hr => first | (go_simp; done) | (go_simp; rfl)); intro gb198 hg w7 hbox hb; have n0_ := Aside0.mk (below_step (by repeat (first | (with_reducible first | exact HB.out | apply below_alloc | apply pw_below_drewN | apply below_drew1) | exact HB.out)) hb); have n1_ := Aside0.mk (hbox); have n2_ := Aside0.mk ((by rw [hg]; exact (below_size (by repeat (first | (with_reducible first | exact HB.out | apply below_alloc | apply pw_below_drewN | apply below_drew1) | exact HB.out))) : w.heap.size ≤ gb198)); have n3_ := Aside0.mk ((by rw [hg]; exact (below_size (by repeat (first | (with_reducible first | exact HB.out | apply below_alloc | apply pw_below_drewN | apply below_drew1) | exact HB.out))) : w.heap.size ≤ gb198)); clear HB; have HB := n0_; have BK198 := n1_; have GW198 := n2_; have GE198 := n3_; clear n0_ n1_ n2_ n3_; clear hb hbox hg; have hcz8_0 : w7.cell? ⟨gb198, 0, none⟩ = some (.bool false) := (blk_cell BK198.out 0).trans rfl; have hcz8_1 : w7.cell? ⟨gb198, 1, none⟩ = some (.bool false) := (blk_cell BK198.out 1).trans rfl; have hcz8_2 : w7.cell? ⟨gb198, 2, none⟩ = some (.bool false) := (blk_cell BK198.out 2).trans rfl; have hcz8_3 : w7.cell? ⟨gb198, 3, none⟩ = some (.int .i64 0) := (blk_cell BK198.out 3).trans rfl; have hcz8_4 : w7.cell? ⟨gb198, 4, none⟩ = some (.int .i64 0) := (blk_cell BK198.out 4).trans rfl; have hfz8_0 := blk_frozen BK198.out 0; have hfz8_1 := blk_frozen BK198.out 1; have hfz8_2 := blk_frozen BK198.out 2; have hfz8_3 := blk_frozen BK198.out 3; have hfz8_4 := blk_frozen BK198.out 4) | ((with_reducible refine gate_callee (f := 51) rfl ?_); refine goesL_ (some 15) rfl rfl Try.func51 (by kernel_rfl) rfl #[.int .i64 a1] rfl (by (try simp only [List.map_toArray, List.map_cons, List.map_nil]); first | done | rfl | (simp only [List.length_drop, List.length_take]; rfl)) ?_; (with_reducible refine (hearthref1_Parts.calls k a1 t199 t200 t201 t202 t203 _ A4.out).mono ?_); rintro e w9 ⟨rfl, hb⟩; refine ⟨_, rfl, ?_⟩; have n0_ := Aside0.mk (blk_below (g := gb198) (o := .cells #[.bool t193, .bool t194, .bool t195, .int .i64 t196, .int .i64 t197] 40 (0, 0)) (by (with_reducible repeat (first | refine blk_drewN ?_ _ | refine blk_drew ?_ | refine blk_alloc ?_ _)); refine blk_put (cs := #[.bool t193, .bool t194, .bool t195, .int .i64 t196, .int .i64 0]) ?_ 4 _ rfl; (with_reducible repeat (first | refine blk_drewN ?_ _ | refine blk_drew ?_ | refine blk_alloc ?_ _)); refine blk_put (cs := #[.bool t193, .bool t194, .bool t195, .int .i64 0, .int .i64 0]) ?_ 3 _ rfl; (with_reducible repeat (first | refine blk_drewN ?_ _ | refine blk_drew ?_ | refine blk_alloc ?_ _)); refine blk_put (cs := #[.bool t193, .bool t194, .bool false, .int .i64 0, .int .i64 0]) ?_ 2 _ rfl; (with_reducible repeat (first | refine blk_drewN ?_ _ | refine blk_drew ?_ | refine blk_alloc ?_ _)); refine blk_put (cs := #[.bool t193, .bool false, .bool false, .int .i64 0, .int .i64 0]) ?_ 1 _ rfl; (with_reducible repeat (first | refine blk_drewN ?_ _ | refine blk_drew ?_ | refine blk_alloc ?_ _)); refine blk_put (cs := #[.bool false, .bool false, .bool false, .int .i64 0, .int .i64 0]) ?_ 0 _ rfl; (with_reducible repeat (first | refine blk_drewN ?_ _ | refine blk_drew ?_ | refine blk_alloc ?_ _)); exact BK198.out) hb); have n1_ := Aside0.mk (below_step (by repeat (first | (with_reducible first | exact HB.out | apply below_alloc | apply pw_below_drewN | apply below_drew1 | refine below_set ?_ GE198.out) | exact HB.out)) hb); clear BK198; clear HB; have BK198 := n0_; have HB := n1_; clear n0_ n1_; (try clear hb); (try clear hb2); (try clear hk); (try clear hi)) | ((with_reducible refine gate_dst (N := 6) rfl ?_); refine box_event ?hg (N := 6) ?hd (cs := #[.bool false, .bool false, .bool false, .int .i64 0, .int .i64 0]) (t := 40) ?hr ?_; (case hd => rfl); (case hg => rfl); (case hr => first | (go_simp; done) | (go_simp; rfl)); intro gb204 hg w10 hbox hb; have n0_ := Aside0.mk (blk_below (g := gb198) (o := .cells #[.bool t193, .bool t194, .bool t195, .int .i64 t196, .int .i64 t197] 40 (0, 0)) (by (with_reducible repeat (first | refine blk_drewN ?_ _ | refine blk_drew ?_ | refine blk_alloc ?_ _)); exact BK198.out) hb); have n1_ := Aside0.mk (below_step (by repeat (first | (with_reducible first | exact HB.out | apply below_alloc | apply pw_below_drewN | apply below_drew1 | refine below_set ?_ GE198.out) | exact HB.out)) hb); have n2_ := Aside0.mk (hbox); have n3_ := Aside0.mk ((by rw [hg]; exact (below_size (by repeat (first | (with_reducible first | exact HB.out | apply below_alloc | apply pw_below_drewN | apply below_drew1 | refine below_set ?_ GE198.out) | exact HB.out))) : w.heap.size ≤ gb204)); have n4_ := Aside0.mk ((by rw [hg]; exact (below_size (by repeat (first | (with_reducible first | exact HB.out | apply below_alloc | apply pw_below_drewN | apply below_drew1 | refine below_set ?_ GE198.out) | exact HB.out))) : w.heap.size ≤ gb204)); have n5_ := Aside0.mk ((by rw [hg]; exact Nat.ne_of_lt (blk_lt (g := gb198) (o := .cells #[.bool t193, .bool t194, .bool t195, .int .i64 t196, .int .i64 t197] 40 (0, 0)) (by (with_reducible repeat (first | refine blk_drewN ?_ _ | refine blk_drew ?_ | refine blk_alloc ?_ _)); exact BK198.out)) : gb198 ≠ gb204)); have n6_ := Aside0.mk ((by rw [hg]; exact Nat.ne_of_gt (blk_lt (g := gb198) (o := .cells #[.bool t193, .bool t194, .bool t195, .int .i64 t196, .int .i64 t197] 40 (0, 0)) (by (with_reducible repeat (first | refine blk_drewN ?_ _ | refine blk_drew ?_ | refine blk_alloc ?_ _)); exact BK198.out)) : gb204 ≠ gb198)); clear BK198; clear HB; have BK198 := n0_; have HB := n1_; have BK204 := n2_; have GW204 := n3_; have GE204 := n4_; have NB198_204 := n5_; have NB204_198 := n6_; clear n0_ n1_ n2_ n3_ n4_ n5_ n6_; clear hb hbox hg; have hnb11 := NB204_198.out; have hnc11 := NB198_204.out; have hcz12_0 : w10.cell? ⟨gb204, 0, none⟩ = some (.bool false) := (blk_cell BK204.out 0).trans rfl; have hcz12_1 : w10.cell? ⟨gb204, 1, none⟩ = some (.bool false) := (blk_cell BK204.out 1).trans rfl; have hcz12_2 : w10.cell? ⟨gb204, 2, none⟩ = some (.bool false) := (blk_cell BK204.out 2).trans rfl; have hcz12_3 : w10.cell? ⟨gb204, 3, none⟩ = some (.int .i64 0) := (blk_cell BK204.out 3).trans rfl; have hcz12_4 : w10.cell? ⟨gb204, 4, none⟩ = some (.int .i64 0) := (blk_cell BK204.out 4).trans rfl; have hfz12_0 := blk_frozen BK204.out 0; have hfz12_1 := blk_frozen BK204.out 1; have hfz12_2 := blk_frozen BK204.out 2; have hfz12_3 := blk_frozen BK204.out 3; have hfz12_4 := blk_frozen BK204.out 4; have hcz13_0 : w10.cell? ⟨gb198, 0, none⟩ = some (.bool t193) := (blk_cell BK198.out 0).trans rfl; have hcz13_1 : w10.cell? ⟨gb198, 1, none⟩ = some (.bool t194) := (blk_cell BK198.out 1).trans rfl; have hcz13_2 : w10.cell? ⟨gb198, 2, none⟩ = some (.bool t195) := (blk_cell BK198.out 2).trans rfl; have hcz13_3 : w10.cell? ⟨gb198, 3, none⟩ = some (.int .i64 t196) := (blk_cell BK198.out 3).trans rfl; have hcz13_4 : w10.cell? ⟨gb198, 4, none⟩ = some (.int .i64 t197) := (blk_cell BK198.out 4).trans rfl; have hfz13_0 := blk_frozen BK198.out 0; have hfz13_1 := blk_frozen BK198.out 1; have hfz13_2 := blk_frozen BK198.out 2; have hfz13_3 := blk_frozen BK198.out 3; have hfz13_4 := blk_frozen BK198.out 4))
  (try simp only [Act.put, List.setIfInBounds_toArray, List.set_cons_zero, List.set_cons_succ])
  go_cut [8] (fun v8 wc => ∃ (kq : Nat) (x8_4 : Bool), v8 = .bool x8_4 ∧ Aside0 (hearthref1_FloMul.j0 kq (t193 != t199) x8_4 t193 t194 t195 t196 t197 t199 t200 t201 t202 t203 = some r) ∧ Aside0 (kq ≤ k) ∧ Aside0 (wc.heap[gb198]? = some (.cells #[.bool t193, .bool t194, .bool t195, .int .i64 t196, .int .i64 t197] 40 (0, 0))) ∧ Aside0 (wc.heap[gb204]? = some (.cells #[.bool t199, .bool t200, .bool t201, .int .i64 t202, .int .i64 t203] 40 (0, 0))) ∧ Aside0 (Below w.heap.size w wc))
  case first =>
    have H := HC5.out
    clear HC5
    by_cases c14 : t194 = true
    · subst c14
      have H1 : (if t200 = true then (hearthref1_FloMul.j0 k (t193 != t199) false t193 true t195 t196 t197 t199 t200 t201 t202 t203) else (hearthref1_FloMul.j0 k (t193 != t199) (t202 == 0) t193 true t195 t196 t197 t199 t200 t201 t202 t203)) = some r := by rw [if_pos rfl] at H; exact H
      clear H
      have H := H1
      clear H1
      by_cases c15 : t200 = true
      · subst c15
        have H1 : (hearthref1_FloMul.j0 k (t193 != t199) false t193 true t195 t196 t197 t199 true t201 t202 t203) = some r := by rw [if_pos rfl] at H; exact H
        clear H
        have H := H1
        clear H1
        have H' := Aside0.mk H
        clear H
        have hnb16 := NB198_204.out
        have hnc16 := NB204_198.out
        have hcz17_0 : w10.cell? ⟨gb198, 0, none⟩ = some (.bool t193) := (blk_cell BK198.out 0).trans rfl
        have hcz17_1 : w10.cell? ⟨gb198, 1, none⟩ = some (.bool true) := (blk_cell BK198.out 1).trans rfl
        have hcz17_2 : w10.cell? ⟨gb198, 2, none⟩ = some (.bool t195) := (blk_cell BK198.out 2).trans rfl
        have hcz17_3 : w10.cell? ⟨gb198, 3, none⟩ = some (.int .i64 t196) := (blk_cell BK198.out 3).trans rfl
        have hcz17_4 : w10.cell? ⟨gb198, 4, none⟩ = some (.int .i64 t197) := (blk_cell BK198.out 4).trans rfl
        have hfz17_0 := blk_frozen BK198.out 0
        have hfz17_1 := blk_frozen BK198.out 1
        have hfz17_2 := blk_frozen BK198.out 2
        have hfz17_3 := blk_frozen BK198.out 3
        have hfz17_4 := blk_frozen BK198.out 4
        have hcz18_0 : w10.cell? ⟨gb204, 0, none⟩ = some (.bool false) := (blk_cell BK204.out 0).trans rfl
        have hcz18_1 : w10.cell? ⟨gb204, 1, none⟩ = some (.bool false) := (blk_cell BK204.out 1).trans rfl
        have hcz18_2 : w10.cell? ⟨gb204, 2, none⟩ = some (.bool false) := (blk_cell BK204.out 2).trans rfl
        have hcz18_3 : w10.cell? ⟨gb204, 3, none⟩ = some (.int .i64 0) := (blk_cell BK204.out 3).trans rfl
        have hcz18_4 : w10.cell? ⟨gb204, 4, none⟩ = some (.int .i64 0) := (blk_cell BK204.out 4).trans rfl
        have hfz18_0 := blk_frozen BK204.out 0
        have hfz18_1 := blk_frozen BK204.out 1
        have hfz18_2 := blk_frozen BK204.out 2
        have hfz18_3 := blk_frozen BK204.out 3
        have hfz18_4 := blk_frozen BK204.out 4
        go_wp2
        go_meet
        case rel => exact ⟨_, (false), (by first | rfl | (simp; done) | (simp [*]; done)), H', ⟨by first | omega | exact Nat.le_refl _⟩, ⟨by (with_reducible repeat (first | refine blk_drewN ?_ _ | refine blk_drew ?_ | refine blk_alloc ?_ _)); refine blk_far ?_ NB198_204.out _; (with_reducible repeat (first | refine blk_drewN ?_ _ | refine blk_drew ?_ | refine blk_alloc ?_ _)); refine blk_far ?_ NB198_204.out _; (with_reducible repeat (first | refine blk_drewN ?_ _ | refine blk_drew ?_ | refine blk_alloc ?_ _)); refine blk_far ?_ NB198_204.out _; (with_reducible repeat (first | refine blk_drewN ?_ _ | refine blk_drew ?_ | refine blk_alloc ?_ _)); refine blk_far ?_ NB198_204.out _; (with_reducible repeat (first | refine blk_drewN ?_ _ | refine blk_drew ?_ | refine blk_alloc ?_ _)); refine blk_far ?_ NB198_204.out _; (with_reducible repeat (first | refine blk_drewN ?_ _ | refine blk_drew ?_ | refine blk_alloc ?_ _)); exact BK198.out⟩, ⟨by (with_reducible repeat (first | refine blk_drewN ?_ _ | refine blk_drew ?_ | refine blk_alloc ?_ _)); refine blk_put (cs := #[.bool t199, .bool true, .bool t201, .int .i64 t202, .int .i64 0]) ?_ 4 _ rfl; (with_reducible repeat (first | refine blk_drewN ?_ _ | refine blk_drew ?_ | refine blk_alloc ?_ _)); refine blk_put (cs := #[.bool t199, .bool true, .bool t201, .int .i64 0, .int .i64 0]) ?_ 3 _ rfl; (with_reducible repeat (first | refine blk_drewN ?_ _ | refine blk_drew ?_ | refine blk_alloc ?_ _)); refine blk_put (cs := #[.bool t199, .bool true, .bool false, .int .i64 0, .int .i64 0]) ?_ 2 _ rfl; (with_reducible repeat (first | refine blk_drewN ?_ _ | refine blk_drew ?_ | refine blk_alloc ?_ _)); refine blk_put (cs := #[.bool t199, .bool false, .bool false, .int .i64 0, .int .i64 0]) ?_ 1 _ rfl; (with_reducible repeat (first | refine blk_drewN ?_ _ | refine blk_drew ?_ | refine blk_alloc ?_ _)); refine blk_put (cs := #[.bool false, .bool false, .bool false, .int .i64 0, .int .i64 0]) ?_ 0 _ rfl; (with_reducible repeat (first | refine blk_drewN ?_ _ | refine blk_drew ?_ | refine blk_alloc ?_ _)); exact BK204.out⟩, ⟨by repeat (first | (with_reducible first | exact HB.out | apply below_alloc | apply pw_below_drewN | apply below_drew1 | refine below_set ?_ GE198.out | refine below_set ?_ GE204.out) | exact HB.out)⟩⟩
      · replace c15 := Bool.eq_false_iff.mpr c15
        subst c15
        have H1 : (hearthref1_FloMul.j0 k (t193 != t199) (t202 == 0) t193 true t195 t196 t197 t199 false t201 t202 t203) = some r := by rw [if_neg (show ¬ (false = true) by decide)] at H; exact H
        clear H
        have H := H1
        clear H1
        have H' := Aside0.mk H
        clear H
        have hnb19 := NB198_204.out
        have hnc19 := NB204_198.out
        have hcz20_0 : w10.cell? ⟨gb198, 0, none⟩ = some (.bool t193) := (blk_cell BK198.out 0).trans rfl
        have hcz20_1 : w10.cell? ⟨gb198, 1, none⟩ = some (.bool true) := (blk_cell BK198.out 1).trans rfl
        have hcz20_2 : w10.cell? ⟨gb198, 2, none⟩ = some (.bool t195) := (blk_cell BK198.out 2).trans rfl
        have hcz20_3 : w10.cell? ⟨gb198, 3, none⟩ = some (.int .i64 t196) := (blk_cell BK198.out 3).trans rfl
        have hcz20_4 : w10.cell? ⟨gb198, 4, none⟩ = some (.int .i64 t197) := (blk_cell BK198.out 4).trans rfl
        have hfz20_0 := blk_frozen BK198.out 0
        have hfz20_1 := blk_frozen BK198.out 1
        have hfz20_2 := blk_frozen BK198.out 2
        have hfz20_3 := blk_frozen BK198.out 3
        have hfz20_4 := blk_frozen BK198.out 4
        have hcz21_0 : w10.cell? ⟨gb204, 0, none⟩ = some (.bool false) := (blk_cell BK204.out 0).trans rfl
        have hcz21_1 : w10.cell? ⟨gb204, 1, none⟩ = some (.bool false) := (blk_cell BK204.out 1).trans rfl
        have hcz21_2 : w10.cell? ⟨gb204, 2, none⟩ = some (.bool false) := (blk_cell BK204.out 2).trans rfl
        have hcz21_3 : w10.cell? ⟨gb204, 3, none⟩ = some (.int .i64 0) := (blk_cell BK204.out 3).trans rfl
        have hcz21_4 : w10.cell? ⟨gb204, 4, none⟩ = some (.int .i64 0) := (blk_cell BK204.out 4).trans rfl
        have hfz21_0 := blk_frozen BK204.out 0
        have hfz21_1 := blk_frozen BK204.out 1
        have hfz21_2 := blk_frozen BK204.out 2
        have hfz21_3 := blk_frozen BK204.out 3
        have hfz21_4 := blk_frozen BK204.out 4
        go_wp2
        go_meet
        case rel => exact ⟨_, ((t202 == 0)), (by first | rfl | (simp; done) | (simp [*]; done)), H', ⟨by first | omega | exact Nat.le_refl _⟩, ⟨by (with_reducible repeat (first | refine blk_drewN ?_ _ | refine blk_drew ?_ | refine blk_alloc ?_ _)); refine blk_far ?_ NB198_204.out _; (with_reducible repeat (first | refine blk_drewN ?_ _ | refine blk_drew ?_ | refine blk_alloc ?_ _)); refine blk_far ?_ NB198_204.out _; (with_reducible repeat (first | refine blk_drewN ?_ _ | refine blk_drew ?_ | refine blk_alloc ?_ _)); refine blk_far ?_ NB198_204.out _; (with_reducible repeat (first | refine blk_drewN ?_ _ | refine blk_drew ?_ | refine blk_alloc ?_ _)); refine blk_far ?_ NB198_204.out _; (with_reducible repeat (first | refine blk_drewN ?_ _ | refine blk_drew ?_ | refine blk_alloc ?_ _)); refine blk_far ?_ NB198_204.out _; (with_reducible repeat (first | refine blk_drewN ?_ _ | refine blk_drew ?_ | refine blk_alloc ?_ _)); exact BK198.out⟩, ⟨by (with_reducible repeat (first | refine blk_drewN ?_ _ | refine blk_drew ?_ | refine blk_alloc ?_ _)); refine blk_put (cs := #[.bool t199, .bool false, .bool t201, .int .i64 t202, .int .i64 0]) ?_ 4 _ rfl; (with_reducible repeat (first | refine blk_drewN ?_ _ | refine blk_drew ?_ | refine blk_alloc ?_ _)); refine blk_put (cs := #[.bool t199, .bool false, .bool t201, .int .i64 0, .int .i64 0]) ?_ 3 _ rfl; (with_reducible repeat (first | refine blk_drewN ?_ _ | refine blk_drew ?_ | refine blk_alloc ?_ _)); refine blk_put (cs := #[.bool t199, .bool false, .bool false, .int .i64 0, .int .i64 0]) ?_ 2 _ rfl; (with_reducible repeat (first | refine blk_drewN ?_ _ | refine blk_drew ?_ | refine blk_alloc ?_ _)); refine blk_put (cs := #[.bool t199, .bool false, .bool false, .int .i64 0, .int .i64 0]) ?_ 1 _ rfl; (with_reducible repeat (first | refine blk_drewN ?_ _ | refine blk_drew ?_ | refine blk_alloc ?_ _)); refine blk_put (cs := #[.bool false, .bool false, .bool false, .int .i64 0, .int .i64 0]) ?_ 0 _ rfl; (with_reducible repeat (first | refine blk_drewN ?_ _ | refine blk_drew ?_ | refine blk_alloc ?_ _)); exact BK204.out⟩, ⟨by repeat (first | (with_reducible first | exact HB.out | apply below_alloc | apply pw_below_drewN | apply below_drew1 | refine below_set ?_ GE198.out | refine below_set ?_ GE204.out) | exact HB.out)⟩⟩
    · replace c14 := Bool.eq_false_iff.mpr c14
      subst c14
      have H1 : (if t196 = 0 then (hearthref1_FloMul.j0 k (t193 != t199) true t193 false t195 t196 t197 t199 t200 t201 t202 t203) else (if t200 = true then (hearthref1_FloMul.j0 k (t193 != t199) false t193 false t195 t196 t197 t199 t200 t201 t202 t203) else (hearthref1_FloMul.j0 k (t193 != t199) (t202 == 0) t193 false t195 t196 t197 t199 t200 t201 t202 t203))) = some r := by rw [if_neg (show ¬ (false = true) by decide)] at H; exact H
      clear H
      have H := H1
      clear H1
      by_cases c22 : t196 = 0
      · rw [if_pos c22] at H
        have c22b0 : (t196 == 0) = true := beq_iff_eq.mpr c22
        have c22b1 : (t196 != 0) = false := bne_eq_false_iff_eq.mpr c22
        clear c22
        (first | rw [c22b0] | (simp only [i64_w, i32_w]; rw [c22b0]) | skip)
        have H' := Aside0.mk H
        clear H
        have hnb23 := NB198_204.out
        have hnc23 := NB204_198.out
        have hcz24_0 : w10.cell? ⟨gb198, 0, none⟩ = some (.bool t193) := (blk_cell BK198.out 0).trans rfl
        have hcz24_1 : w10.cell? ⟨gb198, 1, none⟩ = some (.bool false) := (blk_cell BK198.out 1).trans rfl
        have hcz24_2 : w10.cell? ⟨gb198, 2, none⟩ = some (.bool t195) := (blk_cell BK198.out 2).trans rfl
        have hcz24_3 : w10.cell? ⟨gb198, 3, none⟩ = some (.int .i64 t196) := (blk_cell BK198.out 3).trans rfl
        have hcz24_4 : w10.cell? ⟨gb198, 4, none⟩ = some (.int .i64 t197) := (blk_cell BK198.out 4).trans rfl
        have hfz24_0 := blk_frozen BK198.out 0
        have hfz24_1 := blk_frozen BK198.out 1
        have hfz24_2 := blk_frozen BK198.out 2
        have hfz24_3 := blk_frozen BK198.out 3
        have hfz24_4 := blk_frozen BK198.out 4
        go_wp2
        go_meet
        case rel => exact ⟨_, (true), (by first | rfl | (simp; done) | (simp [*]; done)), H', ⟨by first | omega | exact Nat.le_refl _⟩, ⟨by (with_reducible repeat (first | refine blk_drewN ?_ _ | refine blk_drew ?_ | refine blk_alloc ?_ _)); refine blk_far ?_ NB198_204.out _; (with_reducible repeat (first | refine blk_drewN ?_ _ | refine blk_drew ?_ | refine blk_alloc ?_ _)); refine blk_far ?_ NB198_204.out _; (with_reducible repeat (first | refine blk_drewN ?_ _ | refine blk_drew ?_ | refine blk_alloc ?_ _)); refine blk_far ?_ NB198_204.out _; (with_reducible repeat (first | refine blk_drewN ?_ _ | refine blk_drew ?_ | refine blk_alloc ?_ _)); refine blk_far ?_ NB198_204.out _; (with_reducible repeat (first | refine blk_drewN ?_ _ | refine blk_drew ?_ | refine blk_alloc ?_ _)); refine blk_far ?_ NB198_204.out _; (with_reducible repeat (first | refine blk_drewN ?_ _ | refine blk_drew ?_ | refine blk_alloc ?_ _)); exact BK198.out⟩, ⟨by (with_reducible repeat (first | refine blk_drewN ?_ _ | refine blk_drew ?_ | refine blk_alloc ?_ _)); refine blk_put (cs := #[.bool t199, .bool t200, .bool t201, .int .i64 t202, .int .i64 0]) ?_ 4 _ rfl; (with_reducible repeat (first | refine blk_drewN ?_ _ | refine blk_drew ?_ | refine blk_alloc ?_ _)); refine blk_put (cs := #[.bool t199, .bool t200, .bool t201, .int .i64 0, .int .i64 0]) ?_ 3 _ rfl; (with_reducible repeat (first | refine blk_drewN ?_ _ | refine blk_drew ?_ | refine blk_alloc ?_ _)); refine blk_put (cs := #[.bool t199, .bool t200, .bool false, .int .i64 0, .int .i64 0]) ?_ 2 _ rfl; (with_reducible repeat (first | refine blk_drewN ?_ _ | refine blk_drew ?_ | refine blk_alloc ?_ _)); refine blk_put (cs := #[.bool t199, .bool false, .bool false, .int .i64 0, .int .i64 0]) ?_ 1 _ rfl; (with_reducible repeat (first | refine blk_drewN ?_ _ | refine blk_drew ?_ | refine blk_alloc ?_ _)); refine blk_put (cs := #[.bool false, .bool false, .bool false, .int .i64 0, .int .i64 0]) ?_ 0 _ rfl; (with_reducible repeat (first | refine blk_drewN ?_ _ | refine blk_drew ?_ | refine blk_alloc ?_ _)); exact BK204.out⟩, ⟨by repeat (first | (with_reducible first | exact HB.out | apply below_alloc | apply pw_below_drewN | apply below_drew1 | refine below_set ?_ GE198.out | refine below_set ?_ GE204.out) | exact HB.out)⟩⟩
      · rw [if_neg c22] at H
        have c22b0 : (t196 == 0) = false := beq_eq_false_iff_ne.mpr c22
        have c22b1 : (t196 != 0) = true := bne_iff_ne.mpr c22
        (first | rw [c22b0] | (simp only [i64_w, i32_w]; rw [c22b0]) | skip)
        by_cases c25 : t200 = true
        · subst c25
          have H1 : (hearthref1_FloMul.j0 k (t193 != t199) false t193 false t195 t196 t197 t199 true t201 t202 t203) = some r := by rw [if_pos rfl] at H; exact H
          clear H
          have H := H1
          clear H1
          have H' := Aside0.mk H
          clear H
          have hnb26 := NB198_204.out
          have hnc26 := NB204_198.out
          have hcz27_0 : w10.cell? ⟨gb198, 0, none⟩ = some (.bool t193) := (blk_cell BK198.out 0).trans rfl
          have hcz27_1 : w10.cell? ⟨gb198, 1, none⟩ = some (.bool false) := (blk_cell BK198.out 1).trans rfl
          have hcz27_2 : w10.cell? ⟨gb198, 2, none⟩ = some (.bool t195) := (blk_cell BK198.out 2).trans rfl
          have hcz27_3 : w10.cell? ⟨gb198, 3, none⟩ = some (.int .i64 t196) := (blk_cell BK198.out 3).trans rfl
          have hcz27_4 : w10.cell? ⟨gb198, 4, none⟩ = some (.int .i64 t197) := (blk_cell BK198.out 4).trans rfl
          have hfz27_0 := blk_frozen BK198.out 0
          have hfz27_1 := blk_frozen BK198.out 1
          have hfz27_2 := blk_frozen BK198.out 2
          have hfz27_3 := blk_frozen BK198.out 3
          have hfz27_4 := blk_frozen BK198.out 4
          have hcz28_0 : w10.cell? ⟨gb204, 0, none⟩ = some (.bool false) := (blk_cell BK204.out 0).trans rfl
          have hcz28_1 : w10.cell? ⟨gb204, 1, none⟩ = some (.bool false) := (blk_cell BK204.out 1).trans rfl
          have hcz28_2 : w10.cell? ⟨gb204, 2, none⟩ = some (.bool false) := (blk_cell BK204.out 2).trans rfl
          have hcz28_3 : w10.cell? ⟨gb204, 3, none⟩ = some (.int .i64 0) := (blk_cell BK204.out 3).trans rfl
          have hcz28_4 : w10.cell? ⟨gb204, 4, none⟩ = some (.int .i64 0) := (blk_cell BK204.out 4).trans rfl
          have hfz28_0 := blk_frozen BK204.out 0
          have hfz28_1 := blk_frozen BK204.out 1
          have hfz28_2 := blk_frozen BK204.out 2
          have hfz28_3 := blk_frozen BK204.out 3
          have hfz28_4 := blk_frozen BK204.out 4
          go_wp2
          go_meet
          case rel => exact ⟨_, (false), (by first | rfl | (simp; done) | (simp [*]; done)), H', ⟨by first | omega | exact Nat.le_refl _⟩, ⟨by (with_reducible repeat (first | refine blk_drewN ?_ _ | refine blk_drew ?_ | refine blk_alloc ?_ _)); refine blk_far ?_ NB198_204.out _; (with_reducible repeat (first | refine blk_drewN ?_ _ | refine blk_drew ?_ | refine blk_alloc ?_ _)); refine blk_far ?_ NB198_204.out _; (with_reducible repeat (first | refine blk_drewN ?_ _ | refine blk_drew ?_ | refine blk_alloc ?_ _)); refine blk_far ?_ NB198_204.out _; (with_reducible repeat (first | refine blk_drewN ?_ _ | refine blk_drew ?_ | refine blk_alloc ?_ _)); refine blk_far ?_ NB198_204.out _; (with_reducible repeat (first | refine blk_drewN ?_ _ | refine blk_drew ?_ | refine blk_alloc ?_ _)); refine blk_far ?_ NB198_204.out _; (with_reducible repeat (first | refine blk_drewN ?_ _ | refine blk_drew ?_ | refine blk_alloc ?_ _)); exact BK198.out⟩, ⟨by (with_reducible repeat (first | refine blk_drewN ?_ _ | refine blk_drew ?_ | refine blk_alloc ?_ _)); refine blk_put (cs := #[.bool t199, .bool true, .bool t201, .int .i64 t202, .int .i64 0]) ?_ 4 _ rfl; (with_reducible repeat (first | refine blk_drewN ?_ _ | refine blk_drew ?_ | refine blk_alloc ?_ _)); refine blk_put (cs := #[.bool t199, .bool true, .bool t201, .int .i64 0, .int .i64 0]) ?_ 3 _ rfl; (with_reducible repeat (first | refine blk_drewN ?_ _ | refine blk_drew ?_ | refine blk_alloc ?_ _)); refine blk_put (cs := #[.bool t199, .bool true, .bool false, .int .i64 0, .int .i64 0]) ?_ 2 _ rfl; (with_reducible repeat (first | refine blk_drewN ?_ _ | refine blk_drew ?_ | refine blk_alloc ?_ _)); refine blk_put (cs := #[.bool t199, .bool false, .bool false, .int .i64 0, .int .i64 0]) ?_ 1 _ rfl; (with_reducible repeat (first | refine blk_drewN ?_ _ | refine blk_drew ?_ | refine blk_alloc ?_ _)); refine blk_put (cs := #[.bool false, .bool false, .bool false, .int .i64 0, .int .i64 0]) ?_ 0 _ rfl; (with_reducible repeat (first | refine blk_drewN ?_ _ | refine blk_drew ?_ | refine blk_alloc ?_ _)); exact BK204.out⟩, ⟨by repeat (first | (with_reducible first | exact HB.out | apply below_alloc | apply pw_below_drewN | apply below_drew1 | refine below_set ?_ GE198.out | refine below_set ?_ GE204.out) | exact HB.out)⟩⟩
        · replace c25 := Bool.eq_false_iff.mpr c25
          subst c25
          have H1 : (hearthref1_FloMul.j0 k (t193 != t199) (t202 == 0) t193 false t195 t196 t197 t199 false t201 t202 t203) = some r := by rw [if_neg (show ¬ (false = true) by decide)] at H; exact H
          clear H
          have H := H1
          clear H1
          have H' := Aside0.mk H
          clear H
          have hnb29 := NB198_204.out
          have hnc29 := NB204_198.out
          have hcz30_0 : w10.cell? ⟨gb198, 0, none⟩ = some (.bool t193) := (blk_cell BK198.out 0).trans rfl
          have hcz30_1 : w10.cell? ⟨gb198, 1, none⟩ = some (.bool false) := (blk_cell BK198.out 1).trans rfl
          have hcz30_2 : w10.cell? ⟨gb198, 2, none⟩ = some (.bool t195) := (blk_cell BK198.out 2).trans rfl
          have hcz30_3 : w10.cell? ⟨gb198, 3, none⟩ = some (.int .i64 t196) := (blk_cell BK198.out 3).trans rfl
          have hcz30_4 : w10.cell? ⟨gb198, 4, none⟩ = some (.int .i64 t197) := (blk_cell BK198.out 4).trans rfl
          have hfz30_0 := blk_frozen BK198.out 0
          have hfz30_1 := blk_frozen BK198.out 1
          have hfz30_2 := blk_frozen BK198.out 2
          have hfz30_3 := blk_frozen BK198.out 3
          have hfz30_4 := blk_frozen BK198.out 4
          have hcz31_0 : w10.cell? ⟨gb204, 0, none⟩ = some (.bool false) := (blk_cell BK204.out 0).trans rfl
          have hcz31_1 : w10.cell? ⟨gb204, 1, none⟩ = some (.bool false) := (blk_cell BK204.out 1).trans rfl
          have hcz31_2 : w10.cell? ⟨gb204, 2, none⟩ = some (.bool false) := (blk_cell BK204.out 2).trans rfl
          have hcz31_3 : w10.cell? ⟨gb204, 3, none⟩ = some (.int .i64 0) := (blk_cell BK204.out 3).trans rfl
          have hcz31_4 : w10.cell? ⟨gb204, 4, none⟩ = some (.int .i64 0) := (blk_cell BK204.out 4).trans rfl
          have hfz31_0 := blk_frozen BK204.out 0
          have hfz31_1 := blk_frozen BK204.out 1
          have hfz31_2 := blk_frozen BK204.out 2
          have hfz31_3 := blk_frozen BK204.out 3
          have hfz31_4 := blk_frozen BK204.out 4
          go_wp2
          go_meet
          case rel => exact ⟨_, ((t202 == 0)), (by first | rfl | (simp; done) | (simp [*]; done)), H', ⟨by first | omega | exact Nat.le_refl _⟩, ⟨by (with_reducible repeat (first | refine blk_drewN ?_ _ | refine blk_drew ?_ | refine blk_alloc ?_ _)); refine blk_far ?_ NB198_204.out _; (with_reducible repeat (first | refine blk_drewN ?_ _ | refine blk_drew ?_ | refine blk_alloc ?_ _)); refine blk_far ?_ NB198_204.out _; (with_reducible repeat (first | refine blk_drewN ?_ _ | refine blk_drew ?_ | refine blk_alloc ?_ _)); refine blk_far ?_ NB198_204.out _; (with_reducible repeat (first | refine blk_drewN ?_ _ | refine blk_drew ?_ | refine blk_alloc ?_ _)); refine blk_far ?_ NB198_204.out _; (with_reducible repeat (first | refine blk_drewN ?_ _ | refine blk_drew ?_ | refine blk_alloc ?_ _)); refine blk_far ?_ NB198_204.out _; (with_reducible repeat (first | refine blk_drewN ?_ _ | refine blk_drew ?_ | refine blk_alloc ?_ _)); exact BK198.out⟩, ⟨by (with_reducible repeat (first | refine blk_drewN ?_ _ | refine blk_drew ?_ | refine blk_alloc ?_ _)); refine blk_put (cs := #[.bool t199, .bool false, .bool t201, .int .i64 t202, .int .i64 0]) ?_ 4 _ rfl; (with_reducible repeat (first | refine blk_drewN ?_ _ | refine blk_drew ?_ | refine blk_alloc ?_ _)); refine blk_put (cs := #[.bool t199, .bool false, .bool t201, .int .i64 0, .int .i64 0]) ?_ 3 _ rfl; (with_reducible repeat (first | refine blk_drewN ?_ _ | refine blk_drew ?_ | refine blk_alloc ?_ _)); refine blk_put (cs := #[.bool t199, .bool false, .bool false, .int .i64 0, .int .i64 0]) ?_ 2 _ rfl; (with_reducible repeat (first | refine blk_drewN ?_ _ | refine blk_drew ?_ | refine blk_alloc ?_ _)); refine blk_put (cs := #[.bool t199, .bool false, .bool false, .int .i64 0, .int .i64 0]) ?_ 1 _ rfl; (with_reducible repeat (first | refine blk_drewN ?_ _ | refine blk_drew ?_ | refine blk_alloc ?_ _)); refine blk_put (cs := #[.bool false, .bool false, .bool false, .int .i64 0, .int .i64 0]) ?_ 0 _ rfl; (with_reducible repeat (first | refine blk_drewN ?_ _ | refine blk_drew ?_ | refine blk_alloc ?_ _)); exact BK204.out⟩, ⟨by repeat (first | (with_reducible first | exact HB.out | apply below_alloc | apply pw_below_drewN | apply below_drew1 | refine below_set ?_ GE198.out | refine below_set ?_ GE204.out) | exact HB.out)⟩⟩
  case rest =>
    clear HC5
    try clear c1
    try clear c2
    try clear p2
    try clear c3
    try clear c5
    try clear c11
    try clear c14
    try clear c15
    try clear c16
    try clear c19
    try clear c22
    try clear c22b0
    try clear c22b1
    try clear c23
    try clear c25
    try clear c26
    try clear c29
    try clear hcz12_0
    try clear hcz12_1
    try clear hcz12_2
    try clear hcz12_3
    try clear hcz12_4
    try clear hcz13_0
    try clear hcz13_1
    try clear hcz13_2
    try clear hcz13_3
    try clear hcz13_4
    try clear hcz17_0
    try clear hcz17_1
    try clear hcz17_2
    try clear hcz17_3
    try clear hcz17_4
    try clear hcz18_0
    try clear hcz18_1
    try clear hcz18_2
    try clear hcz18_3
    try clear hcz18_4
    try clear hcz20_0
    try clear hcz20_1
    try clear hcz20_2
    try clear hcz20_3
    try clear hcz20_4
    try clear hcz21_0
    try clear hcz21_1
    try clear hcz21_2
    try clear hcz21_3
    try clear hcz21_4
    try clear hcz24_0
    try clear hcz24_1
    try clear hcz24_2
    try clear hcz24_3
    try clear hcz24_4
    try clear hcz27_0
    try clear hcz27_1
    try clear hcz27_2
    try clear hcz27_3
    try clear hcz27_4
    try clear hcz28_0
    try clear hcz28_1
    try clear hcz28_2
    try clear hcz28_3
    try clear hcz28_4
    try clear hcz30_0
    try clear hcz30_1
    try clear hcz30_2
    try clear hcz30_3
    try clear hcz30_4
    try clear hcz31_0
    try clear hcz31_1
    try clear hcz31_2
    try clear hcz31_3
    try clear hcz31_4
    try clear hcz8_0
    try clear hcz8_1
    try clear hcz8_2
    try clear hcz8_3
    try clear hcz8_4
    try clear hfz12_0
    try clear hfz12_1
    try clear hfz12_2
    try clear hfz12_3
    try clear hfz12_4
    try clear hfz13_0
    try clear hfz13_1
    try clear hfz13_2
    try clear hfz13_3
    try clear hfz13_4
    try clear hfz17_0
    try clear hfz17_1
    try clear hfz17_2
    try clear hfz17_3
    try clear hfz17_4
    try clear hfz18_0
    try clear hfz18_1
    try clear hfz18_2
    try clear hfz18_3
    try clear hfz18_4
    try clear hfz20_0
    try clear hfz20_1
    try clear hfz20_2
    try clear hfz20_3
    try clear hfz20_4
    try clear hfz21_0
    try clear hfz21_1
    try clear hfz21_2
    try clear hfz21_3
    try clear hfz21_4
    try clear hfz24_0
    try clear hfz24_1
    try clear hfz24_2
    try clear hfz24_3
    try clear hfz24_4
    try clear hfz27_0
    try clear hfz27_1
    try clear hfz27_2
    try clear hfz27_3
    try clear hfz27_4
    try clear hfz28_0
    try clear hfz28_1
    try clear hfz28_2
    try clear hfz28_3
    try clear hfz28_4
    try clear hfz30_0
    try clear hfz30_1
    try clear hfz30_2
    try clear hfz30_3
    try clear hfz30_4
    try clear hfz31_0
    try clear hfz31_1
    try clear hfz31_2
    try clear hfz31_3
    try clear hfz31_4
    try clear hfz8_0
    try clear hfz8_1
    try clear hfz8_2
    try clear hfz8_3
    try clear hfz8_4
    obtain ⟨kq, x8_4, rfl, HA, HJ4, BK198, BK204, HB⟩ := hcut
    cases kq with
    | zero => exact absurd HA.out (by simp [hearthref1_FloMul.j0])
    | succ kj4 =>
      have H := HA.out
      clear HA
      simp only [hearthref1_FloMul.j0] at H
      have HC32 := Aside0.mk H
      clear H
      go_upto_region 5 with (fail)
      go_cut [39] (fun v39 wc => ∃ (kq : Nat) (x39_31 : Bool), v39 = .bool x39_31 ∧ Aside0 (hearthref1_FloMul.j1 kq (t193 != t199) x39_31 t193 t194 t195 t196 t197 t199 t200 t201 t202 t203 = some r) ∧ Aside0 (kq ≤ kj4) ∧ Aside0 (wc.heap[gb198]? = some (.cells #[.bool t193, .bool t194, .bool t195, .int .i64 t196, .int .i64 t197] 40 (0, 0))) ∧ Aside0 (wc.heap[gb204]? = some (.cells #[.bool t199, .bool t200, .bool t201, .int .i64 t202, .int .i64 t203] 40 (0, 0))) ∧ Aside0 (Below w.heap.size w wc))
      case first =>
        have H := HC32.out
        clear HC32
        by_cases c33 : t195 = true
        · subst c33
          have H1 : (hearthref1_FloMul.j1 kj4 (t193 != t199) true t193 t194 true t196 t197 t199 t200 t201 t202 t203) = some r := by rw [if_pos rfl] at H; exact H
          clear H
          have H := H1
          clear H1
          have H' := Aside0.mk H
          clear H
          have hnb34 := NB198_204.out
          have hnc34 := NB204_198.out
          have hcz35_0 : wc.cell? ⟨gb198, 0, none⟩ = some (.bool t193) := (blk_cell BK198.out 0).trans rfl
          have hcz35_1 : wc.cell? ⟨gb198, 1, none⟩ = some (.bool t194) := (blk_cell BK198.out 1).trans rfl
          have hcz35_2 : wc.cell? ⟨gb198, 2, none⟩ = some (.bool true) := (blk_cell BK198.out 2).trans rfl
          have hcz35_3 : wc.cell? ⟨gb198, 3, none⟩ = some (.int .i64 t196) := (blk_cell BK198.out 3).trans rfl
          have hcz35_4 : wc.cell? ⟨gb198, 4, none⟩ = some (.int .i64 t197) := (blk_cell BK198.out 4).trans rfl
          have hfz35_0 := blk_frozen BK198.out 0
          have hfz35_1 := blk_frozen BK198.out 1
          have hfz35_2 := blk_frozen BK198.out 2
          have hfz35_3 := blk_frozen BK198.out 3
          have hfz35_4 := blk_frozen BK198.out 4
          go_wp2
          go_meet
          case rel => exact ⟨_, (true), (by first | rfl | (simp; done) | (simp [*]; done)), H', ⟨by have := HJ4.out; first | omega | exact Nat.le_refl _⟩, ⟨by (with_reducible repeat (first | refine blk_drewN ?_ _ | refine blk_drew ?_ | refine blk_alloc ?_ _)); exact BK198.out⟩, ⟨by (with_reducible repeat (first | refine blk_drewN ?_ _ | refine blk_drew ?_ | refine blk_alloc ?_ _)); exact BK204.out⟩, ⟨by repeat (first | (with_reducible first | exact HB.out | apply below_alloc | apply pw_below_drewN | apply below_drew1 | refine below_set ?_ GE198.out | refine below_set ?_ GE204.out) | exact HB.out)⟩⟩
        · replace c33 := Bool.eq_false_iff.mpr c33
          subst c33
          have H1 : (if t201 = true then (hearthref1_FloMul.j1 kj4 (t193 != t199) true t193 t194 false t196 t197 t199 t200 t201 t202 t203) else (if t194 = true then (hearthref1_FloMul.j1 kj4 (t193 != t199) x8_4 t193 t194 false t196 t197 t199 t200 t201 t202 t203) else (if t200 = true then (hearthref1_FloMul.j1 kj4 (t193 != t199) x8_4 t193 t194 false t196 t197 t199 t200 t201 t202 t203) else (hearthref1_FloMul.j1 kj4 (t193 != t199) false t193 t194 false t196 t197 t199 t200 t201 t202 t203)))) = some r := by rw [if_neg (show ¬ (false = true) by decide)] at H; exact H
          clear H
          have H := H1
          clear H1
          by_cases c36 : t201 = true
          · subst c36
            have H1 : (hearthref1_FloMul.j1 kj4 (t193 != t199) true t193 t194 false t196 t197 t199 t200 true t202 t203) = some r := by rw [if_pos rfl] at H; exact H
            clear H
            have H := H1
            clear H1
            have H' := Aside0.mk H
            clear H
            have hnb37 := NB198_204.out
            have hnc37 := NB204_198.out
            have hcz38_0 : wc.cell? ⟨gb198, 0, none⟩ = some (.bool t193) := (blk_cell BK198.out 0).trans rfl
            have hcz38_1 : wc.cell? ⟨gb198, 1, none⟩ = some (.bool t194) := (blk_cell BK198.out 1).trans rfl
            have hcz38_2 : wc.cell? ⟨gb198, 2, none⟩ = some (.bool false) := (blk_cell BK198.out 2).trans rfl
            have hcz38_3 : wc.cell? ⟨gb198, 3, none⟩ = some (.int .i64 t196) := (blk_cell BK198.out 3).trans rfl
            have hcz38_4 : wc.cell? ⟨gb198, 4, none⟩ = some (.int .i64 t197) := (blk_cell BK198.out 4).trans rfl
            have hfz38_0 := blk_frozen BK198.out 0
            have hfz38_1 := blk_frozen BK198.out 1
            have hfz38_2 := blk_frozen BK198.out 2
            have hfz38_3 := blk_frozen BK198.out 3
            have hfz38_4 := blk_frozen BK198.out 4
            have hcz39_0 : wc.cell? ⟨gb204, 0, none⟩ = some (.bool t199) := (blk_cell BK204.out 0).trans rfl
            have hcz39_1 : wc.cell? ⟨gb204, 1, none⟩ = some (.bool t200) := (blk_cell BK204.out 1).trans rfl
            have hcz39_2 : wc.cell? ⟨gb204, 2, none⟩ = some (.bool true) := (blk_cell BK204.out 2).trans rfl
            have hcz39_3 : wc.cell? ⟨gb204, 3, none⟩ = some (.int .i64 t202) := (blk_cell BK204.out 3).trans rfl
            have hcz39_4 : wc.cell? ⟨gb204, 4, none⟩ = some (.int .i64 t203) := (blk_cell BK204.out 4).trans rfl
            have hfz39_0 := blk_frozen BK204.out 0
            have hfz39_1 := blk_frozen BK204.out 1
            have hfz39_2 := blk_frozen BK204.out 2
            have hfz39_3 := blk_frozen BK204.out 3
            have hfz39_4 := blk_frozen BK204.out 4
            go_wp2
            go_meet
            case rel => exact ⟨_, (true), (by first | rfl | (simp; done) | (simp [*]; done)), H', ⟨by have := HJ4.out; first | omega | exact Nat.le_refl _⟩, ⟨by (with_reducible repeat (first | refine blk_drewN ?_ _ | refine blk_drew ?_ | refine blk_alloc ?_ _)); exact BK198.out⟩, ⟨by (with_reducible repeat (first | refine blk_drewN ?_ _ | refine blk_drew ?_ | refine blk_alloc ?_ _)); exact BK204.out⟩, ⟨by repeat (first | (with_reducible first | exact HB.out | apply below_alloc | apply pw_below_drewN | apply below_drew1 | refine below_set ?_ GE198.out | refine below_set ?_ GE204.out) | exact HB.out)⟩⟩
          · replace c36 := Bool.eq_false_iff.mpr c36
            subst c36
            have H1 : (if t194 = true then (hearthref1_FloMul.j1 kj4 (t193 != t199) x8_4 t193 t194 false t196 t197 t199 t200 false t202 t203) else (if t200 = true then (hearthref1_FloMul.j1 kj4 (t193 != t199) x8_4 t193 t194 false t196 t197 t199 t200 false t202 t203) else (hearthref1_FloMul.j1 kj4 (t193 != t199) false t193 t194 false t196 t197 t199 t200 false t202 t203))) = some r := by rw [if_neg (show ¬ (false = true) by decide)] at H; exact H
            clear H
            have H := H1
            clear H1
            by_cases c40 : t194 = true
            · subst c40
              have H1 : (hearthref1_FloMul.j1 kj4 (t193 != t199) x8_4 t193 true false t196 t197 t199 t200 false t202 t203) = some r := by rw [if_pos rfl] at H; exact H
              clear H
              have H := H1
              clear H1
              have H' := Aside0.mk H
              clear H
              have hnb41 := NB198_204.out
              have hnc41 := NB204_198.out
              have hcz42_0 : wc.cell? ⟨gb198, 0, none⟩ = some (.bool t193) := (blk_cell BK198.out 0).trans rfl
              have hcz42_1 : wc.cell? ⟨gb198, 1, none⟩ = some (.bool true) := (blk_cell BK198.out 1).trans rfl
              have hcz42_2 : wc.cell? ⟨gb198, 2, none⟩ = some (.bool false) := (blk_cell BK198.out 2).trans rfl
              have hcz42_3 : wc.cell? ⟨gb198, 3, none⟩ = some (.int .i64 t196) := (blk_cell BK198.out 3).trans rfl
              have hcz42_4 : wc.cell? ⟨gb198, 4, none⟩ = some (.int .i64 t197) := (blk_cell BK198.out 4).trans rfl
              have hfz42_0 := blk_frozen BK198.out 0
              have hfz42_1 := blk_frozen BK198.out 1
              have hfz42_2 := blk_frozen BK198.out 2
              have hfz42_3 := blk_frozen BK198.out 3
              have hfz42_4 := blk_frozen BK198.out 4
              have hcz43_0 : wc.cell? ⟨gb204, 0, none⟩ = some (.bool t199) := (blk_cell BK204.out 0).trans rfl
              have hcz43_1 : wc.cell? ⟨gb204, 1, none⟩ = some (.bool t200) := (blk_cell BK204.out 1).trans rfl
              have hcz43_2 : wc.cell? ⟨gb204, 2, none⟩ = some (.bool false) := (blk_cell BK204.out 2).trans rfl
              have hcz43_3 : wc.cell? ⟨gb204, 3, none⟩ = some (.int .i64 t202) := (blk_cell BK204.out 3).trans rfl
              have hcz43_4 : wc.cell? ⟨gb204, 4, none⟩ = some (.int .i64 t203) := (blk_cell BK204.out 4).trans rfl
              have hfz43_0 := blk_frozen BK204.out 0
              have hfz43_1 := blk_frozen BK204.out 1
              have hfz43_2 := blk_frozen BK204.out 2
              have hfz43_3 := blk_frozen BK204.out 3
              have hfz43_4 := blk_frozen BK204.out 4
              go_wp2
              go_meet
              case rel => exact ⟨_, (x8_4), (by first | rfl | (simp; done) | (simp [*]; done)), H', ⟨by have := HJ4.out; first | omega | exact Nat.le_refl _⟩, ⟨by (with_reducible repeat (first | refine blk_drewN ?_ _ | refine blk_drew ?_ | refine blk_alloc ?_ _)); exact BK198.out⟩, ⟨by (with_reducible repeat (first | refine blk_drewN ?_ _ | refine blk_drew ?_ | refine blk_alloc ?_ _)); exact BK204.out⟩, ⟨by repeat (first | (with_reducible first | exact HB.out | apply below_alloc | apply pw_below_drewN | apply below_drew1 | refine below_set ?_ GE198.out | refine below_set ?_ GE204.out) | exact HB.out)⟩⟩
            · replace c40 := Bool.eq_false_iff.mpr c40
              subst c40
              have H1 : (if t200 = true then (hearthref1_FloMul.j1 kj4 (t193 != t199) x8_4 t193 false false t196 t197 t199 t200 false t202 t203) else (hearthref1_FloMul.j1 kj4 (t193 != t199) false t193 false false t196 t197 t199 t200 false t202 t203)) = some r := by rw [if_neg (show ¬ (false = true) by decide)] at H; exact H
              clear H
              have H := H1
              clear H1
              by_cases c44 : t200 = true
              · subst c44
                have H1 : (hearthref1_FloMul.j1 kj4 (t193 != t199) x8_4 t193 false false t196 t197 t199 true false t202 t203) = some r := by rw [if_pos rfl] at H; exact H
                clear H
                have H := H1
                clear H1
                have H' := Aside0.mk H
                clear H
                have hnb45 := NB198_204.out
                have hnc45 := NB204_198.out
                have hcz46_0 : wc.cell? ⟨gb198, 0, none⟩ = some (.bool t193) := (blk_cell BK198.out 0).trans rfl
                have hcz46_1 : wc.cell? ⟨gb198, 1, none⟩ = some (.bool false) := (blk_cell BK198.out 1).trans rfl
                have hcz46_2 : wc.cell? ⟨gb198, 2, none⟩ = some (.bool false) := (blk_cell BK198.out 2).trans rfl
                have hcz46_3 : wc.cell? ⟨gb198, 3, none⟩ = some (.int .i64 t196) := (blk_cell BK198.out 3).trans rfl
                have hcz46_4 : wc.cell? ⟨gb198, 4, none⟩ = some (.int .i64 t197) := (blk_cell BK198.out 4).trans rfl
                have hfz46_0 := blk_frozen BK198.out 0
                have hfz46_1 := blk_frozen BK198.out 1
                have hfz46_2 := blk_frozen BK198.out 2
                have hfz46_3 := blk_frozen BK198.out 3
                have hfz46_4 := blk_frozen BK198.out 4
                have hcz47_0 : wc.cell? ⟨gb204, 0, none⟩ = some (.bool t199) := (blk_cell BK204.out 0).trans rfl
                have hcz47_1 : wc.cell? ⟨gb204, 1, none⟩ = some (.bool true) := (blk_cell BK204.out 1).trans rfl
                have hcz47_2 : wc.cell? ⟨gb204, 2, none⟩ = some (.bool false) := (blk_cell BK204.out 2).trans rfl
                have hcz47_3 : wc.cell? ⟨gb204, 3, none⟩ = some (.int .i64 t202) := (blk_cell BK204.out 3).trans rfl
                have hcz47_4 : wc.cell? ⟨gb204, 4, none⟩ = some (.int .i64 t203) := (blk_cell BK204.out 4).trans rfl
                have hfz47_0 := blk_frozen BK204.out 0
                have hfz47_1 := blk_frozen BK204.out 1
                have hfz47_2 := blk_frozen BK204.out 2
                have hfz47_3 := blk_frozen BK204.out 3
                have hfz47_4 := blk_frozen BK204.out 4
                go_wp2
                go_meet
                case rel => exact ⟨_, (x8_4), (by first | rfl | (simp; done) | (simp [*]; done)), H', ⟨by have := HJ4.out; first | omega | exact Nat.le_refl _⟩, ⟨by (with_reducible repeat (first | refine blk_drewN ?_ _ | refine blk_drew ?_ | refine blk_alloc ?_ _)); exact BK198.out⟩, ⟨by (with_reducible repeat (first | refine blk_drewN ?_ _ | refine blk_drew ?_ | refine blk_alloc ?_ _)); exact BK204.out⟩, ⟨by repeat (first | (with_reducible first | exact HB.out | apply below_alloc | apply pw_below_drewN | apply below_drew1 | refine below_set ?_ GE198.out | refine below_set ?_ GE204.out) | exact HB.out)⟩⟩
              · replace c44 := Bool.eq_false_iff.mpr c44
                subst c44
                have H1 : (hearthref1_FloMul.j1 kj4 (t193 != t199) false t193 false false t196 t197 t199 false false t202 t203) = some r := by rw [if_neg (show ¬ (false = true) by decide)] at H; exact H
                clear H
                have H := H1
                clear H1
                have H' := Aside0.mk H
                clear H
                have hnb48 := NB198_204.out
                have hnc48 := NB204_198.out
                have hcz49_0 : wc.cell? ⟨gb198, 0, none⟩ = some (.bool t193) := (blk_cell BK198.out 0).trans rfl
                have hcz49_1 : wc.cell? ⟨gb198, 1, none⟩ = some (.bool false) := (blk_cell BK198.out 1).trans rfl
                have hcz49_2 : wc.cell? ⟨gb198, 2, none⟩ = some (.bool false) := (blk_cell BK198.out 2).trans rfl
                have hcz49_3 : wc.cell? ⟨gb198, 3, none⟩ = some (.int .i64 t196) := (blk_cell BK198.out 3).trans rfl
                have hcz49_4 : wc.cell? ⟨gb198, 4, none⟩ = some (.int .i64 t197) := (blk_cell BK198.out 4).trans rfl
                have hfz49_0 := blk_frozen BK198.out 0
                have hfz49_1 := blk_frozen BK198.out 1
                have hfz49_2 := blk_frozen BK198.out 2
                have hfz49_3 := blk_frozen BK198.out 3
                have hfz49_4 := blk_frozen BK198.out 4
                have hcz50_0 : wc.cell? ⟨gb204, 0, none⟩ = some (.bool t199) := (blk_cell BK204.out 0).trans rfl
                have hcz50_1 : wc.cell? ⟨gb204, 1, none⟩ = some (.bool false) := (blk_cell BK204.out 1).trans rfl
                have hcz50_2 : wc.cell? ⟨gb204, 2, none⟩ = some (.bool false) := (blk_cell BK204.out 2).trans rfl
                have hcz50_3 : wc.cell? ⟨gb204, 3, none⟩ = some (.int .i64 t202) := (blk_cell BK204.out 3).trans rfl
                have hcz50_4 : wc.cell? ⟨gb204, 4, none⟩ = some (.int .i64 t203) := (blk_cell BK204.out 4).trans rfl
                have hfz50_0 := blk_frozen BK204.out 0
                have hfz50_1 := blk_frozen BK204.out 1
                have hfz50_2 := blk_frozen BK204.out 2
                have hfz50_3 := blk_frozen BK204.out 3
                have hfz50_4 := blk_frozen BK204.out 4
                go_wp2
                go_meet
                case rel => exact ⟨_, (false), (by first | rfl | (simp; done) | (simp [*]; done)), H', ⟨by have := HJ4.out; first | omega | exact Nat.le_refl _⟩, ⟨by (with_reducible repeat (first | refine blk_drewN ?_ _ | refine blk_drew ?_ | refine blk_alloc ?_ _)); exact BK198.out⟩, ⟨by (with_reducible repeat (first | refine blk_drewN ?_ _ | refine blk_drew ?_ | refine blk_alloc ?_ _)); exact BK204.out⟩, ⟨by repeat (first | (with_reducible first | exact HB.out | apply below_alloc | apply pw_below_drewN | apply below_drew1 | refine below_set ?_ GE198.out | refine below_set ?_ GE204.out) | exact HB.out)⟩⟩
      case rest =>
        clear HC32
        try clear c1
        try clear c2
        try clear p2
        try clear c3
        try clear c4
        try clear c5
        try clear c11
        try clear c14
        try clear c15
        try clear c16
        try clear c19
        try clear c22
        try clear c22b0
        try clear c22b1
        try clear c23
        try clear c25
        try clear c26
        try clear c29
        try clear c32
        try clear c33
        try clear c34
        try clear c36
        try clear c37
        try clear c40
        try clear c41
        try clear c44
        try clear c45
        try clear c48
        try clear hcz12_0
        try clear hcz12_1
        try clear hcz12_2
        try clear hcz12_3
        try clear hcz12_4
        try clear hcz13_0
        try clear hcz13_1
        try clear hcz13_2
        try clear hcz13_3
        try clear hcz13_4
        try clear hcz17_0
        try clear hcz17_1
        try clear hcz17_2
        try clear hcz17_3
        try clear hcz17_4
        try clear hcz18_0
        try clear hcz18_1
        try clear hcz18_2
        try clear hcz18_3
        try clear hcz18_4
        try clear hcz20_0
        try clear hcz20_1
        try clear hcz20_2
        try clear hcz20_3
        try clear hcz20_4
        try clear hcz21_0
        try clear hcz21_1
        try clear hcz21_2
        try clear hcz21_3
        try clear hcz21_4
        try clear hcz24_0
        try clear hcz24_1
        try clear hcz24_2
        try clear hcz24_3
        try clear hcz24_4
        try clear hcz27_0
        try clear hcz27_1
        try clear hcz27_2
        try clear hcz27_3
        try clear hcz27_4
        try clear hcz28_0
        try clear hcz28_1
        try clear hcz28_2
        try clear hcz28_3
        try clear hcz28_4
        try clear hcz30_0
        try clear hcz30_1
        try clear hcz30_2
        try clear hcz30_3
        try clear hcz30_4
        try clear hcz31_0
        try clear hcz31_1
        try clear hcz31_2
        try clear hcz31_3
        try clear hcz31_4
        try clear hcz35_0
        try clear hcz35_1
        try clear hcz35_2
        try clear hcz35_3
        try clear hcz35_4
        try clear hcz38_0
        try clear hcz38_1
        try clear hcz38_2
        try clear hcz38_3
        try clear hcz38_4
        try clear hcz39_0
        try clear hcz39_1
        try clear hcz39_2
        try clear hcz39_3
        try clear hcz39_4
        try clear hcz42_0
        try clear hcz42_1
        try clear hcz42_2
        try clear hcz42_3
        try clear hcz42_4
        try clear hcz43_0
        try clear hcz43_1
        try clear hcz43_2
        try clear hcz43_3
        try clear hcz43_4
        try clear hcz46_0
        try clear hcz46_1
        try clear hcz46_2
        try clear hcz46_3
        try clear hcz46_4
        try clear hcz47_0
        try clear hcz47_1
        try clear hcz47_2
        try clear hcz47_3
        try clear hcz47_4
        try clear hcz49_0
        try clear hcz49_1
        try clear hcz49_2
        try clear hcz49_3
        try clear hcz49_4
        try clear hcz50_0
        try clear hcz50_1
        try clear hcz50_2
        try clear hcz50_3
        try clear hcz50_4
        try clear hcz8_0
        try clear hcz8_1
        try clear hcz8_2
        try clear hcz8_3
        try clear hcz8_4
        try clear hfz12_0
        try clear hfz12_1
        try clear hfz12_2
        try clear hfz12_3
        try clear hfz12_4
        try clear hfz13_0
        try clear hfz13_1
        try clear hfz13_2
        try clear hfz13_3
        try clear hfz13_4
        try clear hfz17_0
        try clear hfz17_1
        try clear hfz17_2
        try clear hfz17_3
        try clear hfz17_4
        try clear hfz18_0
        try clear hfz18_1
        try clear hfz18_2
        try clear hfz18_3
        try clear hfz18_4
        try clear hfz20_0
        try clear hfz20_1
        try clear hfz20_2
        try clear hfz20_3
        try clear hfz20_4
        try clear hfz21_0
        try clear hfz21_1
        try clear hfz21_2
        try clear hfz21_3
        try clear hfz21_4
        try clear hfz24_0
        try clear hfz24_1
        try clear hfz24_2
        try clear hfz24_3
        try clear hfz24_4
        try clear hfz27_0
        try clear hfz27_1
        try clear hfz27_2
        try clear hfz27_3
        try clear hfz27_4
        try clear hfz28_0
        try clear hfz28_1
        try clear hfz28_2
        try clear hfz28_3
        try clear hfz28_4
        try clear hfz30_0
        try clear hfz30_1
        try clear hfz30_2
        try clear hfz30_3
        try clear hfz30_4
        try clear hfz31_0
        try clear hfz31_1
        try clear hfz31_2
        try clear hfz31_3
        try clear hfz31_4
        try clear hfz35_0
        try clear hfz35_1
        try clear hfz35_2
        try clear hfz35_3
        try clear hfz35_4
        try clear hfz38_0
        try clear hfz38_1
        try clear hfz38_2
        try clear hfz38_3
        try clear hfz38_4
        try clear hfz39_0
        try clear hfz39_1
        try clear hfz39_2
        try clear hfz39_3
        try clear hfz39_4
        try clear hfz42_0
        try clear hfz42_1
        try clear hfz42_2
        try clear hfz42_3
        try clear hfz42_4
        try clear hfz43_0
        try clear hfz43_1
        try clear hfz43_2
        try clear hfz43_3
        try clear hfz43_4
        try clear hfz46_0
        try clear hfz46_1
        try clear hfz46_2
        try clear hfz46_3
        try clear hfz46_4
        try clear hfz47_0
        try clear hfz47_1
        try clear hfz47_2
        try clear hfz47_3
        try clear hfz47_4
        try clear hfz49_0
        try clear hfz49_1
        try clear hfz49_2
        try clear hfz49_3
        try clear hfz49_4
        try clear hfz50_0
        try clear hfz50_1
        try clear hfz50_2
        try clear hfz50_3
        try clear hfz50_4
        try clear hfz8_0
        try clear hfz8_1
        try clear hfz8_2
        try clear hfz8_3
        try clear hfz8_4
        try clear p2
        obtain ⟨kq, x39_31, rfl, HA, HJ31, BK198, BK204, HB⟩ := hcut
        cases kq with
        | zero => exact absurd HA.out (by simp [hearthref1_FloMul.j1])
        | succ kj31 =>
          have H := HA.out
          clear HA
          simp only [hearthref1_FloMul.j1] at H
          by_cases c51 : x39_31 = true
          · subst c51
            have H1 : (some 9221120237041090561) = some r := by rw [if_pos rfl] at H; exact H
            clear H
            have H := H1
            clear H1
            obtain rfl := Option.some.inj H
            go_wp2
            go_ret
            exact ⟨by first | rfl | (simp [errW_none, errW_some] <;> rfl) | (simp [*, errW_none, errW_some] <;> rfl), by repeat (first | (with_reducible first | exact HB.out | apply below_alloc | apply pw_below_drewN | apply below_drew1 | refine below_set ?_ GE198.out | refine below_set ?_ GE204.out) | exact HB.out)⟩
          · replace c51 := Bool.eq_false_iff.mpr c51
            subst c51
            have H1 : (if t194 = true then ((hearthref1_infinity.f (t193 != t199)).bind fun t205 => (some t205)) else (if t200 = true then ((hearthref1_infinity.f (t193 != t199)).bind fun t206 => (some t206)) else ((hearthref1_list.f kj31 t196 0).bind fun t210 => (hearthref1_FloMul.l0 kj31 (t193 != t199) (([0] : List Int)) t210 0 t193 t194 t195 t196 t197 t199 t200 t201 t202 t203)))) = some r := by rw [if_neg (show ¬ (false = true) by decide)] at H; exact H
            clear H
            have H := H1
            clear H1
            by_cases c52 : t194 = true
            · subst c52
              have H1 : ((hearthref1_infinity.f (t193 != t199)).bind fun t205 => (some t205)) = some r := by rw [if_pos rfl] at H; exact H
              clear H
              have H := H1
              clear H1
              replace H := Option.bind_eq_some_iff.mp H
              obtain ⟨t205, A530, H⟩ := H
              replace H : (some t205) = some r := H
              have A53 := Aside0.mk A530
              clear A530
              obtain rfl := Option.some.inj H
              have hnb54 := NB198_204.out
              have hnc54 := NB204_198.out
              have hcz55_0 : wc.cell? ⟨gb198, 0, none⟩ = some (.bool t193) := (blk_cell BK198.out 0).trans rfl
              have hcz55_1 : wc.cell? ⟨gb198, 1, none⟩ = some (.bool true) := (blk_cell BK198.out 1).trans rfl
              have hcz55_2 : wc.cell? ⟨gb198, 2, none⟩ = some (.bool t195) := (blk_cell BK198.out 2).trans rfl
              have hcz55_3 : wc.cell? ⟨gb198, 3, none⟩ = some (.int .i64 t196) := (blk_cell BK198.out 3).trans rfl
              have hcz55_4 : wc.cell? ⟨gb198, 4, none⟩ = some (.int .i64 t197) := (blk_cell BK198.out 4).trans rfl
              have hfz55_0 := blk_frozen BK198.out 0
              have hfz55_1 := blk_frozen BK198.out 1
              have hfz55_2 := blk_frozen BK198.out 2
              have hfz55_3 := blk_frozen BK198.out 3
              have hfz55_4 := blk_frozen BK198.out 4
              go_wp2_with (first | ((with_reducible refine gate_callee (f := 58) rfl ?_); refine goesL_ (some 65) rfl rfl Try.func58 (by kernel_rfl) rfl #[.bool (t193 != t199)] rfl (by (try simp only [List.map_toArray, List.map_cons, List.map_nil]); first | done | rfl | (simp only [List.length_drop, List.length_take]; rfl)) ?_; (with_reducible refine (hearthref1_infinity.calls (t193 != t199) t205 _ A53.out).mono ?_); rintro e w' ⟨rfl, ⟨nd, rfl⟩⟩; refine ⟨_, rfl, ?_⟩))
              go_ret
              exact ⟨by first | rfl | (simp [errW_none, errW_some] <;> rfl) | (simp [*, errW_none, errW_some] <;> rfl), by repeat (first | (with_reducible first | exact HB.out | apply below_alloc | apply pw_below_drewN | apply below_drew1 | refine below_set ?_ GE198.out | refine below_set ?_ GE204.out) | exact HB.out)⟩
            · replace c52 := Bool.eq_false_iff.mpr c52
              subst c52
              have H1 : (if t200 = true then ((hearthref1_infinity.f (t193 != t199)).bind fun t206 => (some t206)) else ((hearthref1_list.f kj31 t196 0).bind fun t210 => (hearthref1_FloMul.l0 kj31 (t193 != t199) (([0] : List Int)) t210 0 t193 false t195 t196 t197 t199 t200 t201 t202 t203))) = some r := by rw [if_neg (show ¬ (false = true) by decide)] at H; exact H
              clear H
              have H := H1
              clear H1
              by_cases c56 : t200 = true
              · subst c56
                have H1 : ((hearthref1_infinity.f (t193 != t199)).bind fun t206 => (some t206)) = some r := by rw [if_pos rfl] at H; exact H
                clear H
                have H := H1
                clear H1
                replace H := Option.bind_eq_some_iff.mp H
                obtain ⟨t206, A570, H⟩ := H
                replace H : (some t206) = some r := H
                have A57 := Aside0.mk A570
                clear A570
                obtain rfl := Option.some.inj H
                have hnb58 := NB198_204.out
                have hnc58 := NB204_198.out
                have hcz59_0 : wc.cell? ⟨gb198, 0, none⟩ = some (.bool t193) := (blk_cell BK198.out 0).trans rfl
                have hcz59_1 : wc.cell? ⟨gb198, 1, none⟩ = some (.bool false) := (blk_cell BK198.out 1).trans rfl
                have hcz59_2 : wc.cell? ⟨gb198, 2, none⟩ = some (.bool t195) := (blk_cell BK198.out 2).trans rfl
                have hcz59_3 : wc.cell? ⟨gb198, 3, none⟩ = some (.int .i64 t196) := (blk_cell BK198.out 3).trans rfl
                have hcz59_4 : wc.cell? ⟨gb198, 4, none⟩ = some (.int .i64 t197) := (blk_cell BK198.out 4).trans rfl
                have hfz59_0 := blk_frozen BK198.out 0
                have hfz59_1 := blk_frozen BK198.out 1
                have hfz59_2 := blk_frozen BK198.out 2
                have hfz59_3 := blk_frozen BK198.out 3
                have hfz59_4 := blk_frozen BK198.out 4
                have hcz60_0 : wc.cell? ⟨gb204, 0, none⟩ = some (.bool t199) := (blk_cell BK204.out 0).trans rfl
                have hcz60_1 : wc.cell? ⟨gb204, 1, none⟩ = some (.bool true) := (blk_cell BK204.out 1).trans rfl
                have hcz60_2 : wc.cell? ⟨gb204, 2, none⟩ = some (.bool t201) := (blk_cell BK204.out 2).trans rfl
                have hcz60_3 : wc.cell? ⟨gb204, 3, none⟩ = some (.int .i64 t202) := (blk_cell BK204.out 3).trans rfl
                have hcz60_4 : wc.cell? ⟨gb204, 4, none⟩ = some (.int .i64 t203) := (blk_cell BK204.out 4).trans rfl
                have hfz60_0 := blk_frozen BK204.out 0
                have hfz60_1 := blk_frozen BK204.out 1
                have hfz60_2 := blk_frozen BK204.out 2
                have hfz60_3 := blk_frozen BK204.out 3
                have hfz60_4 := blk_frozen BK204.out 4
                go_wp2_with (first | ((with_reducible refine gate_callee (f := 58) rfl ?_); refine goesL_ (some 65) rfl rfl Try.func58 (by kernel_rfl) rfl #[.bool (t193 != t199)] rfl (by (try simp only [List.map_toArray, List.map_cons, List.map_nil]); first | done | rfl | (simp only [List.length_drop, List.length_take]; rfl)) ?_; (with_reducible refine (hearthref1_infinity.calls (t193 != t199) t206 _ A57.out).mono ?_); rintro e w' ⟨rfl, ⟨nd, rfl⟩⟩; refine ⟨_, rfl, ?_⟩))
                go_ret
                exact ⟨by first | rfl | (simp [errW_none, errW_some] <;> rfl) | (simp [*, errW_none, errW_some] <;> rfl), by repeat (first | (with_reducible first | exact HB.out | apply below_alloc | apply pw_below_drewN | apply below_drew1 | refine below_set ?_ GE198.out | refine below_set ?_ GE204.out) | exact HB.out)⟩
              · replace c56 := Bool.eq_false_iff.mpr c56
                subst c56
                have H1 : ((hearthref1_list.f kj31 t196 0).bind fun t210 => (hearthref1_FloMul.l0 kj31 (t193 != t199) (([0] : List Int)) t210 0 t193 false t195 t196 t197 t199 false t201 t202 t203)) = some r := by rw [if_neg (show ¬ (false = true) by decide)] at H; exact H
                clear H
                have H := H1
                clear H1
                obtain ⟨y207, hy207⟩ : ∃ y_ : List Int, y_ = (([0] : List Int)) := ⟨_, rfl⟩
                replace H : ((hearthref1_list.f kj31 t196 0).bind fun t210 => (hearthref1_FloMul.l0 kj31 (t193 != t199) y207 t210 0 t193 false t195 t196 t197 t199 false t201 t202 t203)) = some r := by first | (rw [hy207]; with_reducible exact H) | (have H2_ := (Option.bind_some _ _).symm.trans H; rw [hy207]; with_reducible exact H2_) | (have H2_ := (Option.bind_some _ _).symm.trans H; with_reducible exact H2_) | with_reducible exact H | (rw [hy207]; exact H) | exact H
                have Ny207 := Aside0.mk hy207
                clear hy207
                replace H := Option.bind_eq_some_iff.mp H
                obtain ⟨t210, A610, H⟩ := H
                replace H : (hearthref1_FloMul.l0 kj31 (t193 != t199) y207 t210 0 t193 false t195 t196 t197 t199 false t201 t202 t203) = some r := H
                have A61 := Aside0.mk A610
                clear A610
                have H' := Aside0.mk H
                clear H
                have hnb62 := NB198_204.out
                have hnc62 := NB204_198.out
                have hcz63_0 : wc.cell? ⟨gb198, 0, none⟩ = some (.bool t193) := (blk_cell BK198.out 0).trans rfl
                have hcz63_1 : wc.cell? ⟨gb198, 1, none⟩ = some (.bool false) := (blk_cell BK198.out 1).trans rfl
                have hcz63_2 : wc.cell? ⟨gb198, 2, none⟩ = some (.bool t195) := (blk_cell BK198.out 2).trans rfl
                have hcz63_3 : wc.cell? ⟨gb198, 3, none⟩ = some (.int .i64 t196) := (blk_cell BK198.out 3).trans rfl
                have hcz63_4 : wc.cell? ⟨gb198, 4, none⟩ = some (.int .i64 t197) := (blk_cell BK198.out 4).trans rfl
                have hfz63_0 := blk_frozen BK198.out 0
                have hfz63_1 := blk_frozen BK198.out 1
                have hfz63_2 := blk_frozen BK198.out 2
                have hfz63_3 := blk_frozen BK198.out 3
                have hfz63_4 := blk_frozen BK198.out 4
                have hcz64_0 : wc.cell? ⟨gb204, 0, none⟩ = some (.bool t199) := (blk_cell BK204.out 0).trans rfl
                have hcz64_1 : wc.cell? ⟨gb204, 1, none⟩ = some (.bool false) := (blk_cell BK204.out 1).trans rfl
                have hcz64_2 : wc.cell? ⟨gb204, 2, none⟩ = some (.bool t201) := (blk_cell BK204.out 2).trans rfl
                have hcz64_3 : wc.cell? ⟨gb204, 3, none⟩ = some (.int .i64 t202) := (blk_cell BK204.out 3).trans rfl
                have hcz64_4 : wc.cell? ⟨gb204, 4, none⟩ = some (.int .i64 t203) := (blk_cell BK204.out 4).trans rfl
                have hfz64_0 := blk_frozen BK204.out 0
                have hfz64_1 := blk_frozen BK204.out 1
                have hfz64_2 := blk_frozen BK204.out 2
                have hfz64_3 := blk_frozen BK204.out 3
                have hfz64_4 := blk_frozen BK204.out 4
                go_wp2_with (first | ((with_reducible refine gate_dst (N := 66) rfl ?_); refine Kd.R_lit (Kd.int .i64) _ 3 ?hg (N := 66) ?hd (xs := ([0] : List Int)) (inner := [.int .i64 0]) (ok := fun _ => True) (okp := fun _ => True) ?hr ?hp (fun _ hk => hk) trivial (Below.refl _ _) (Nat.le_refl _) (by simp) ?_; (case hd => rfl); (case hg => rfl); (case hr => first | (go_simp; done) | (go_simp; rfl)); (case hp => exact (Reps.one (show Kd.M (Kd.int .i64) _ _ _ 0 [.int .i64 0] from rfl) (Reps.none _ _))); intro v208 w65 ho66 hb hg_ hnew_; clear hg_ hnew_; (first | rw [← Ny207.out] at ho66 | (simp only [Int.reduceToNat] at ho66; rw [← Ny207.out] at ho66)); have n0_ := Aside0.mk (Kd.R_lower ho66 (below_size (by repeat (first | (with_reducible first | exact HB.out | apply below_alloc | apply pw_below_drewN | apply below_drew1 | refine below_set ?_ GE198.out | refine below_set ?_ GE204.out) | exact HB.out)))); have n1_ := Aside0.mk (blk_below (g := gb198) (o := .cells #[.bool t193, .bool false, .bool t195, .int .i64 t196, .int .i64 t197] 40 (0, 0)) (by (with_reducible repeat (first | refine blk_drewN ?_ _ | refine blk_drew ?_ | refine blk_alloc ?_ _)); exact BK198.out) hb); have n2_ := Aside0.mk (blk_below (g := gb204) (o := .cells #[.bool t199, .bool false, .bool t201, .int .i64 t202, .int .i64 t203] 40 (0, 0)) (by (with_reducible repeat (first | refine blk_drewN ?_ _ | refine blk_drew ?_ | refine blk_alloc ?_ _)); exact BK204.out) hb); have n3_ := Aside0.mk (below_step (by repeat (first | (with_reducible first | exact HB.out | apply below_alloc | apply pw_below_drewN | apply below_drew1 | refine below_set ?_ GE198.out | refine below_set ?_ GE204.out) | exact HB.out)) hb); clear BK198; clear BK204; clear HB; have HO209 := n0_; have BK198 := n1_; have BK204 := n2_; have HB := n3_; clear n0_ n1_ n2_ n3_; clear hb ho66; have hcz67_0 : w65.cell? ⟨gb198, 0, none⟩ = some (.bool t193) := (blk_cell BK198.out 0).trans rfl; have hcz67_1 : w65.cell? ⟨gb198, 1, none⟩ = some (.bool false) := (blk_cell BK198.out 1).trans rfl; have hcz67_2 : w65.cell? ⟨gb198, 2, none⟩ = some (.bool t195) := (blk_cell BK198.out 2).trans rfl; have hcz67_3 : w65.cell? ⟨gb198, 3, none⟩ = some (.int .i64 t196) := (blk_cell BK198.out 3).trans rfl; have hcz67_4 : w65.cell? ⟨gb198, 4, none⟩ = some (.int .i64 t197) := (blk_cell BK198.out 4).trans rfl; have hfz67_0 := blk_frozen BK198.out 0; have hfz67_1 := blk_frozen BK198.out 1; have hfz67_2 := blk_frozen BK198.out 2; have hfz67_3 := blk_frozen BK198.out 3; have hfz67_4 := blk_frozen BK198.out 4) | ((with_reducible refine gate_callee (f := 54) rfl ?_); refine goesL_ (some 69) rfl rfl Try.func54 (by kernel_rfl) rfl #[.int .i64 t196, .int .i64 0] rfl (by (try simp only [List.map_toArray, List.map_cons, List.map_nil]); first | done | rfl | (simp only [List.length_drop, List.length_take]; rfl)) ?_; (with_reducible refine (hearthref1_list.calls kj31 t196 0 t210 _ A61.out).mono ?_); rintro e w68 ⟨v211, rfl, ho0, hb⟩; refine ⟨_, rfl, ?_⟩; have n0_ := Aside0.mk (Kd.R_elder' (by (with_reducible repeat (first | apply Kd.R_alloc | apply Kd.R_drewN | apply Kd.R_drew)); exact HO209.out) (Kd.R_base ho0) hb); have n1_ := Aside0.mk (Kd.R_lower (Kd.R_new' ho0 (Kd.R_lt (by (with_reducible repeat (first | apply Kd.R_alloc | apply Kd.R_drewN | apply Kd.R_drew)); exact HO209.out))) (below_size (by repeat (first | (with_reducible first | exact HB.out | apply below_alloc | apply pw_below_drewN | apply below_drew1 | refine below_set ?_ GE198.out | refine below_set ?_ GE204.out) | exact HB.out)))); have n2_ := Aside0.mk (blk_below (g := gb198) (o := .cells #[.bool t193, .bool false, .bool t195, .int .i64 t196, .int .i64 t197] 40 (0, 0)) (by (with_reducible repeat (first | refine blk_drewN ?_ _ | refine blk_drew ?_ | refine blk_alloc ?_ _)); exact BK198.out) hb); have n3_ := Aside0.mk (blk_below (g := gb204) (o := .cells #[.bool t199, .bool false, .bool t201, .int .i64 t202, .int .i64 t203] 40 (0, 0)) (by (with_reducible repeat (first | refine blk_drewN ?_ _ | refine blk_drew ?_ | refine blk_alloc ?_ _)); exact BK204.out) hb); have n4_ := Aside0.mk (below_step (by repeat (first | (with_reducible first | exact HB.out | apply below_alloc | apply pw_below_drewN | apply below_drew1 | refine below_set ?_ GE198.out | refine below_set ?_ GE204.out) | exact HB.out)) hb); clear HO209; clear BK198; clear BK204; clear HB; have HO209 := n0_; have HO212 := n1_; have BK198 := n2_; have BK204 := n3_; have HB := n4_; clear n0_ n1_ n2_ n3_ n4_; (try clear hb); (try clear hb2); (try clear hk); (try clear hi); (try clear ho0)))
                go_loopg [9, 11] kj31 (fun kq v9 v11 w' => ∃ (x9_3 : List Int) (x11_3 : Int), v11 = .int .i64 x11_3 ∧ Aside0 (hearthref1_FloMul.l0 kq (t193 != t199) x9_3 t210 x11_3 t193 false t195 t196 t197 t199 false t201 t202 t203 = some r) ∧ Aside0 (kq ≤ kj31) ∧ Aside0 (Kd.R (Kd.int .i64) 3 w' w.heap.size (fun k_ => some k_ ≠ (v211 : Value).ownBlock) v9 x9_3) ∧ Aside0 (Kd.R (Kd.int .i64) 3 w' w.heap.size (fun k_ => some k_ ≠ (v9 : Value).ownBlock) v211 t210) ∧ Aside0 (w'.heap[gb198]? = some (.cells #[.bool t193, .bool false, .bool t195, .int .i64 t196, .int .i64 t197] 40 (0, 0))) ∧ Aside0 (w'.heap[gb204]? = some (.cells #[.bool t199, .bool false, .bool t201, .int .i64 t202, .int .i64 t203] 40 (0, 0))) ∧ Aside0 (Below w.heap.size w w'))
                case atStart => exact ⟨(y207), (0), (by first | rfl | (simp; done) | (simp [*]; done)), H', ⟨Nat.le_refl _⟩, ⟨by (with_reducible repeat (first | apply Kd.R_alloc | apply Kd.R_drewN | apply Kd.R_drew)); exact Kd.R_mono HO209.out (fun _ hk => hk.2)⟩, ⟨by (with_reducible repeat (first | apply Kd.R_alloc | apply Kd.R_drewN | apply Kd.R_drew)); exact Kd.R_mono HO212.out (fun _ hk => hk.2)⟩, ⟨by (with_reducible repeat (first | refine blk_drewN ?_ _ | refine blk_drew ?_ | refine blk_alloc ?_ _)); exact BK198.out⟩, ⟨by (with_reducible repeat (first | refine blk_drewN ?_ _ | refine blk_drew ?_ | refine blk_alloc ?_ _)); exact BK204.out⟩, ⟨by repeat (first | (with_reducible first | exact HB.out | apply below_alloc | apply pw_below_drewN | apply below_drew1 | refine below_set ?_ GE198.out | refine below_set ?_ GE204.out) | exact HB.out)⟩⟩
                case round =>
                  clear H'
                  try clear c1
                  try clear c2
                  try clear p2
                  try clear c3
                  try clear c4
                  try clear c5
                  try clear c6
                  try clear c11
                  try clear c14
                  try clear c15
                  try clear c16
                  try clear c19
                  try clear c22
                  try clear c22b0
                  try clear c22b1
                  try clear c23
                  try clear c25
                  try clear c26
                  try clear c29
                  try clear c32
                  try clear c33
                  try clear c34
                  try clear c36
                  try clear c37
                  try clear c40
                  try clear c41
                  try clear c44
                  try clear c45
                  try clear c48
                  try clear c51
                  try clear c52
                  try clear c54
                  try clear c56
                  try clear c58
                  try clear c62
                  try clear hcz12_0
                  try clear hcz12_1
                  try clear hcz12_2
                  try clear hcz12_3
                  try clear hcz12_4
                  try clear hcz13_0
                  try clear hcz13_1
                  try clear hcz13_2
                  try clear hcz13_3
                  try clear hcz13_4
                  try clear hcz17_0
                  try clear hcz17_1
                  try clear hcz17_2
                  try clear hcz17_3
                  try clear hcz17_4
                  try clear hcz18_0
                  try clear hcz18_1
                  try clear hcz18_2
                  try clear hcz18_3
                  try clear hcz18_4
                  try clear hcz20_0
                  try clear hcz20_1
                  try clear hcz20_2
                  try clear hcz20_3
                  try clear hcz20_4
                  try clear hcz21_0
                  try clear hcz21_1
                  try clear hcz21_2
                  try clear hcz21_3
                  try clear hcz21_4
                  try clear hcz24_0
                  try clear hcz24_1
                  try clear hcz24_2
                  try clear hcz24_3
                  try clear hcz24_4
                  try clear hcz27_0
                  try clear hcz27_1
                  try clear hcz27_2
                  try clear hcz27_3
                  try clear hcz27_4
                  try clear hcz28_0
                  try clear hcz28_1
                  try clear hcz28_2
                  try clear hcz28_3
                  try clear hcz28_4
                  try clear hcz30_0
                  try clear hcz30_1
                  try clear hcz30_2
                  try clear hcz30_3
                  try clear hcz30_4
                  try clear hcz31_0
                  try clear hcz31_1
                  try clear hcz31_2
                  try clear hcz31_3
                  try clear hcz31_4
                  try clear hcz35_0
                  try clear hcz35_1
                  try clear hcz35_2
                  try clear hcz35_3
                  try clear hcz35_4
                  try clear hcz38_0
                  try clear hcz38_1
                  try clear hcz38_2
                  try clear hcz38_3
                  try clear hcz38_4
                  try clear hcz39_0
                  try clear hcz39_1
                  try clear hcz39_2
                  try clear hcz39_3
                  try clear hcz39_4
                  try clear hcz42_0
                  try clear hcz42_1
                  try clear hcz42_2
                  try clear hcz42_3
                  try clear hcz42_4
                  try clear hcz43_0
                  try clear hcz43_1
                  try clear hcz43_2
                  try clear hcz43_3
                  try clear hcz43_4
                  try clear hcz46_0
                  try clear hcz46_1
                  try clear hcz46_2
                  try clear hcz46_3
                  try clear hcz46_4
                  try clear hcz47_0
                  try clear hcz47_1
                  try clear hcz47_2
                  try clear hcz47_3
                  try clear hcz47_4
                  try clear hcz49_0
                  try clear hcz49_1
                  try clear hcz49_2
                  try clear hcz49_3
                  try clear hcz49_4
                  try clear hcz50_0
                  try clear hcz50_1
                  try clear hcz50_2
                  try clear hcz50_3
                  try clear hcz50_4
                  try clear hcz55_0
                  try clear hcz55_1
                  try clear hcz55_2
                  try clear hcz55_3
                  try clear hcz55_4
                  try clear hcz59_0
                  try clear hcz59_1
                  try clear hcz59_2
                  try clear hcz59_3
                  try clear hcz59_4
                  try clear hcz60_0
                  try clear hcz60_1
                  try clear hcz60_2
                  try clear hcz60_3
                  try clear hcz60_4
                  try clear hcz63_0
                  try clear hcz63_1
                  try clear hcz63_2
                  try clear hcz63_3
                  try clear hcz63_4
                  try clear hcz64_0
                  try clear hcz64_1
                  try clear hcz64_2
                  try clear hcz64_3
                  try clear hcz64_4
                  try clear hcz67_0
                  try clear hcz67_1
                  try clear hcz67_2
                  try clear hcz67_3
                  try clear hcz67_4
                  try clear hcz8_0
                  try clear hcz8_1
                  try clear hcz8_2
                  try clear hcz8_3
                  try clear hcz8_4
                  try clear hfz12_0
                  try clear hfz12_1
                  try clear hfz12_2
                  try clear hfz12_3
                  try clear hfz12_4
                  try clear hfz13_0
                  try clear hfz13_1
                  try clear hfz13_2
                  try clear hfz13_3
                  try clear hfz13_4
                  try clear hfz17_0
                  try clear hfz17_1
                  try clear hfz17_2
                  try clear hfz17_3
                  try clear hfz17_4
                  try clear hfz18_0
                  try clear hfz18_1
                  try clear hfz18_2
                  try clear hfz18_3
                  try clear hfz18_4
                  try clear hfz20_0
                  try clear hfz20_1
                  try clear hfz20_2
                  try clear hfz20_3
                  try clear hfz20_4
                  try clear hfz21_0
                  try clear hfz21_1
                  try clear hfz21_2
                  try clear hfz21_3
                  try clear hfz21_4
                  try clear hfz24_0
                  try clear hfz24_1
                  try clear hfz24_2
                  try clear hfz24_3
                  try clear hfz24_4
                  try clear hfz27_0
                  try clear hfz27_1
                  try clear hfz27_2
                  try clear hfz27_3
                  try clear hfz27_4
                  try clear hfz28_0
                  try clear hfz28_1
                  try clear hfz28_2
                  try clear hfz28_3
                  try clear hfz28_4
                  try clear hfz30_0
                  try clear hfz30_1
                  try clear hfz30_2
                  try clear hfz30_3
                  try clear hfz30_4
                  try clear hfz31_0
                  try clear hfz31_1
                  try clear hfz31_2
                  try clear hfz31_3
                  try clear hfz31_4
                  try clear hfz35_0
                  try clear hfz35_1
                  try clear hfz35_2
                  try clear hfz35_3
                  try clear hfz35_4
                  try clear hfz38_0
                  try clear hfz38_1
                  try clear hfz38_2
                  try clear hfz38_3
                  try clear hfz38_4
                  try clear hfz39_0
                  try clear hfz39_1
                  try clear hfz39_2
                  try clear hfz39_3
                  try clear hfz39_4
                  try clear hfz42_0
                  try clear hfz42_1
                  try clear hfz42_2
                  try clear hfz42_3
                  try clear hfz42_4
                  try clear hfz43_0
                  try clear hfz43_1
                  try clear hfz43_2
                  try clear hfz43_3
                  try clear hfz43_4
                  try clear hfz46_0
                  try clear hfz46_1
                  try clear hfz46_2
                  try clear hfz46_3
                  try clear hfz46_4
                  try clear hfz47_0
                  try clear hfz47_1
                  try clear hfz47_2
                  try clear hfz47_3
                  try clear hfz47_4
                  try clear hfz49_0
                  try clear hfz49_1
                  try clear hfz49_2
                  try clear hfz49_3
                  try clear hfz49_4
                  try clear hfz50_0
                  try clear hfz50_1
                  try clear hfz50_2
                  try clear hfz50_3
                  try clear hfz50_4
                  try clear hfz55_0
                  try clear hfz55_1
                  try clear hfz55_2
                  try clear hfz55_3
                  try clear hfz55_4
                  try clear hfz59_0
                  try clear hfz59_1
                  try clear hfz59_2
                  try clear hfz59_3
                  try clear hfz59_4
                  try clear hfz60_0
                  try clear hfz60_1
                  try clear hfz60_2
                  try clear hfz60_3
                  try clear hfz60_4
                  try clear hfz63_0
                  try clear hfz63_1
                  try clear hfz63_2
                  try clear hfz63_3
                  try clear hfz63_4
                  try clear hfz64_0
                  try clear hfz64_1
                  try clear hfz64_2
                  try clear hfz64_3
                  try clear hfz64_4
                  try clear hfz67_0
                  try clear hfz67_1
                  try clear hfz67_2
                  try clear hfz67_3
                  try clear hfz67_4
                  try clear hfz8_0
                  try clear hfz8_1
                  try clear hfz8_2
                  try clear hfz8_3
                  try clear hfz8_4
                  try clear p2
                  obtain ⟨x9_3, x11_3, rfl, HA, HK3, HO_9, HO_10, BK198, BK204, HB⟩ := hrel
                  cases gk with
                  | zero => exact absurd HA.out (by simp [hearthref1_FloMul.l0])
                  | succ k3 =>
                    have H := HA.out
                    clear HA
                    simp only [hearthref1_FloMul.l0] at H
                    by_cases c69 : x11_3 < (t210.length : Int)
                    · rw [if_pos c69] at H
                      have c69b0 : decide (x11_3 < (t210.length : Int)) = true := decide_eq_true c69
                      clear c69
                      by_cases c70 : 0 ≤ x11_3
                      · rw [if_pos c70] at H
                        have c70b0 : decide (0 ≤ x11_3) = true := decide_eq_true c70
                        clear c70
                        by_cases c71 : (rd t210 x11_3) = 1
                        · rw [if_pos c71] at H
                          have c71b0 : ((rd t210 x11_3) == 1) = true := beq_iff_eq.mpr c71
                          have c71b1 : ((rd t210 x11_3) != 1) = false := bne_eq_false_iff_eq.mpr c71
                          clear c71
                          replace H := Option.bind_eq_some_iff.mp H
                          obtain ⟨t215, A720, H⟩ := H
                          replace H : ((hearthref1_summed.f k3 x9_3 t215 false).bind fun t218 => (hearthref1_FloMul.l0 k3 (t193 != t199) t218 t210 (wrap64 (x11_3 + 1)) t193 false t195 t196 t197 t199 false t201 t202 t203)) = some r := H
                          have A72 := Aside0.mk A720
                          clear A720
                          replace H := Option.bind_eq_some_iff.mp H
                          obtain ⟨t218, A730, H⟩ := H
                          replace H : (hearthref1_FloMul.l0 k3 (t193 != t199) t218 t210 (wrap64 (x11_3 + 1)) t193 false t195 t196 t197 t199 false t201 t202 t203) = some r := H
                          have A73 := Aside0.mk A730
                          clear A730
                          have H' := Aside0.mk H
                          clear H
                          obtain ⟨Ao74, co74, eo74⟩ := Kd.R_slice HO_10.out
                          subst eo74
                          have p214 : 0 ≤ (x11_3 : Int) := of_decide_eq_true (by first | (with_reducible assumption) | assumption)
                          have q214 : x11_3 < (t210.length : Int) := of_decide_eq_true (by first | (with_reducible assumption) | assumption)
                          obtain ⟨ad214, e214, hx214_0⟩ := Kd.at_int (Kd.R_reads' HO_10.out).2.2 x11_3 p214 q214
                          cases e214
                          replace p214 := eq_true p214
                          replace q214 := eq_true q214
                          have hnb75 := NB204_198.out
                          have hnc75 := NB198_204.out
                          have hcz76_0 : wr.cell? ⟨gb204, 0, none⟩ = some (.bool t199) := (blk_cell BK204.out 0).trans rfl
                          have hcz76_1 : wr.cell? ⟨gb204, 1, none⟩ = some (.bool false) := (blk_cell BK204.out 1).trans rfl
                          have hcz76_2 : wr.cell? ⟨gb204, 2, none⟩ = some (.bool t201) := (blk_cell BK204.out 2).trans rfl
                          have hcz76_3 : wr.cell? ⟨gb204, 3, none⟩ = some (.int .i64 t202) := (blk_cell BK204.out 3).trans rfl
                          have hcz76_4 : wr.cell? ⟨gb204, 4, none⟩ = some (.int .i64 t203) := (blk_cell BK204.out 4).trans rfl
                          have hfz76_0 := blk_frozen BK204.out 0
                          have hfz76_1 := blk_frozen BK204.out 1
                          have hfz76_2 := blk_frozen BK204.out 2
                          have hfz76_3 := blk_frozen BK204.out 3
                          have hfz76_4 := blk_frozen BK204.out 4
                          go_wp2_with (first | ((with_reducible refine gate_callee (f := 54) rfl ?_); refine goesL_ (some 85) rfl rfl Try.func54 (by kernel_rfl) rfl #[.int .i64 t202, .int .i64 x11_3] rfl (by (try simp only [List.map_toArray, List.map_cons, List.map_nil]); first | done | rfl | (simp only [List.length_drop, List.length_take]; rfl)) ?_; (with_reducible refine (hearthref1_list.calls k3 t202 x11_3 t215 _ A72.out).mono ?_); rintro e w77 ⟨v216, rfl, ho0, hb⟩; refine ⟨_, rfl, ?_⟩; have n0_ := Aside0.mk (Kd.R_elder' (by (with_reducible repeat (first | apply Kd.R_alloc | apply Kd.R_drewN | apply Kd.R_drew)); exact HO_9.out) (Kd.R_base ho0) hb); have n1_ := Aside0.mk (Kd.R_elder' (by (with_reducible repeat (first | apply Kd.R_alloc | apply Kd.R_drewN | apply Kd.R_drew)); exact HO_10.out) (Kd.R_base ho0) hb); have n2_ := Aside0.mk (Kd.R_lower (Kd.R_new' (Kd.R_new' ho0 (Kd.R_lt (by (with_reducible repeat (first | apply Kd.R_alloc | apply Kd.R_drewN | apply Kd.R_drew)); exact HO_9.out))) (Kd.R_lt (by (with_reducible repeat (first | apply Kd.R_alloc | apply Kd.R_drewN | apply Kd.R_drew)); exact HO_10.out))) (below_size (by repeat (first | (with_reducible first | exact HB.out | apply below_alloc | apply pw_below_drewN | apply below_drew1 | refine below_set ?_ GE198.out | refine below_set ?_ GE204.out) | exact HB.out)))); have n3_ := Aside0.mk (blk_below (g := gb198) (o := .cells #[.bool t193, .bool false, .bool t195, .int .i64 t196, .int .i64 t197] 40 (0, 0)) (by (with_reducible repeat (first | refine blk_drewN ?_ _ | refine blk_drew ?_ | refine blk_alloc ?_ _)); exact BK198.out) hb); have n4_ := Aside0.mk (blk_below (g := gb204) (o := .cells #[.bool t199, .bool false, .bool t201, .int .i64 t202, .int .i64 t203] 40 (0, 0)) (by (with_reducible repeat (first | refine blk_drewN ?_ _ | refine blk_drew ?_ | refine blk_alloc ?_ _)); exact BK204.out) hb); have n5_ := Aside0.mk (below_step (by repeat (first | (with_reducible first | exact HB.out | apply below_alloc | apply pw_below_drewN | apply below_drew1 | refine below_set ?_ GE198.out | refine below_set ?_ GE204.out) | exact HB.out)) hb); clear HO_9; clear HO_10; clear BK198; clear BK204; clear HB; have HO_9 := n0_; have HO_10 := n1_; have HO217 := n2_; have BK198 := n3_; have BK204 := n4_; have HB := n5_; clear n0_ n1_ n2_ n3_ n4_ n5_; (try clear hb); (try clear hb2); (try clear hk); (try clear hi); (try clear ho0); obtain ⟨Ao78, co78, eo78⟩ := Kd.R_slice HO_9.out; subst eo78; obtain ⟨Ao79, co79, eo79⟩ := Kd.R_slice HO217.out; subst eo79) | ((with_reducible refine gate_callee (f := 56) rfl ?_); refine goesL_ (some 86) rfl rfl Try.func56 (by kernel_rfl) rfl #[.slice Ao78 x9_3.length co78, .slice Ao79 t215.length co79, .bool false] rfl (by (try simp only [List.map_toArray, List.map_cons, List.map_nil]); first | done | rfl | (simp only [List.length_drop, List.length_take]; rfl)) ?_; (with_reducible refine (hearthref1_summed.calls k3 _ _ x9_3 _ _ t215 false t218 _ ?side1 ?side2 ?side3 ?side4 A73.out).mono ?_); (case side1 => repeat (first | exact (Kd.R_reads' HO_9.out).2.2 | (with_reducible refine Kd.C_alloc ?_ _) | (with_reducible refine Kd.C_drewN ?_ _) | (with_reducible refine Kd.C_drew ?_))); (case side2 => exact (Kd.R_reads' HO_9.out).2.1); (case side3 => repeat (first | exact (Kd.R_reads' HO217.out).2.2 | (with_reducible refine Kd.C_alloc ?_ _) | (with_reducible refine Kd.C_drewN ?_ _) | (with_reducible refine Kd.C_drew ?_))); (case side4 => exact (Kd.R_reads' HO217.out).2.1); rintro e w80 ⟨v219, rfl, ho0, hb⟩; refine ⟨_, rfl, ?_⟩; have n0_ := Aside0.mk (Kd.R_elder' (by (with_reducible repeat (first | apply Kd.R_alloc | apply Kd.R_drewN | apply Kd.R_drew)); exact HO_9.out) (Kd.R_base ho0) hb); have n1_ := Aside0.mk (Kd.R_elder' (by (with_reducible repeat (first | apply Kd.R_alloc | apply Kd.R_drewN | apply Kd.R_drew)); exact HO_10.out) (Kd.R_base ho0) hb); have n2_ := Aside0.mk (Kd.R_elder' (by (with_reducible repeat (first | apply Kd.R_alloc | apply Kd.R_drewN | apply Kd.R_drew)); exact HO217.out) (Kd.R_base ho0) hb); have n3_ := Aside0.mk (Kd.R_lower (Kd.R_new' (Kd.R_new' (Kd.R_new' ho0 (Kd.R_lt (by (with_reducible repeat (first | apply Kd.R_alloc | apply Kd.R_drewN | apply Kd.R_drew)); exact HO_9.out))) (Kd.R_lt (by (with_reducible repeat (first | apply Kd.R_alloc | apply Kd.R_drewN | apply Kd.R_drew)); exact HO_10.out))) (Kd.R_lt (by (with_reducible repeat (first | apply Kd.R_alloc | apply Kd.R_drewN | apply Kd.R_drew)); exact HO217.out))) (below_size (by repeat (first | (with_reducible first | exact HB.out | apply below_alloc | apply pw_below_drewN | apply below_drew1 | refine below_set ?_ GE198.out | refine below_set ?_ GE204.out) | exact HB.out)))); have n4_ := Aside0.mk (blk_below (g := gb198) (o := .cells #[.bool t193, .bool false, .bool t195, .int .i64 t196, .int .i64 t197] 40 (0, 0)) (by (with_reducible repeat (first | refine blk_drewN ?_ _ | refine blk_drew ?_ | refine blk_alloc ?_ _)); exact BK198.out) hb); have n5_ := Aside0.mk (blk_below (g := gb204) (o := .cells #[.bool t199, .bool false, .bool t201, .int .i64 t202, .int .i64 t203] 40 (0, 0)) (by (with_reducible repeat (first | refine blk_drewN ?_ _ | refine blk_drew ?_ | refine blk_alloc ?_ _)); exact BK204.out) hb); have n6_ := Aside0.mk (below_step (by repeat (first | (with_reducible first | exact HB.out | apply below_alloc | apply pw_below_drewN | apply below_drew1 | refine below_set ?_ GE198.out | refine below_set ?_ GE204.out) | exact HB.out)) hb); clear HO_9; clear HO_10; clear HO217; clear BK198; clear BK204; clear HB; have HO_9 := n0_; have HO_10 := n1_; have HO217 := n2_; have HO220 := n3_; have BK198 := n4_; have BK204 := n5_; have HB := n6_; clear n0_ n1_ n2_ n3_ n4_ n5_ n6_; (try clear hb); (try clear hb2); (try clear hk); (try clear hi); (try clear ho0)))
                          go_roundg k3
                          case measure => have := HJ4.out; have := HJ31.out; have := HK3.out; omega
                          case rel => exact ⟨(t218), (wrap64 (x11_3 + 1)), (by first | rfl | (simp; done) | (simp [*]; done)), H', ⟨by have := HJ4.out; have := HJ31.out; have := HK3.out; omega⟩, ⟨by (with_reducible repeat (first | apply Kd.R_alloc | apply Kd.R_drewN | apply Kd.R_drew)); exact Kd.R_mono HO220.out (fun _ hk => hk.1.2)⟩, ⟨by (with_reducible repeat (first | apply Kd.R_alloc | apply Kd.R_drewN | apply Kd.R_drew)); exact Kd.R_mono HO_10.out (fun _ hk => hk.2)⟩, ⟨by (with_reducible repeat (first | refine blk_drewN ?_ _ | refine blk_drew ?_ | refine blk_alloc ?_ _)); exact BK198.out⟩, ⟨by (with_reducible repeat (first | refine blk_drewN ?_ _ | refine blk_drew ?_ | refine blk_alloc ?_ _)); exact BK204.out⟩, ⟨by repeat (first | (with_reducible first | exact HB.out | apply below_alloc | apply pw_below_drewN | apply below_drew1 | refine below_set ?_ GE198.out | refine below_set ?_ GE204.out) | exact HB.out)⟩⟩
                        · rw [if_neg c71] at H
                          have c71b0 : ((rd t210 x11_3) == 1) = false := beq_eq_false_iff_ne.mpr c71
                          have c71b1 : ((rd t210 x11_3) != 1) = true := bne_iff_ne.mpr c71
                          have H' := Aside0.mk H
                          clear H
                          obtain ⟨Ao81, co81, eo81⟩ := Kd.R_slice HO_10.out
                          subst eo81
                          have p214 : 0 ≤ (x11_3 : Int) := of_decide_eq_true (by first | (with_reducible assumption) | assumption)
                          have q214 : x11_3 < (t210.length : Int) := of_decide_eq_true (by first | (with_reducible assumption) | assumption)
                          obtain ⟨ad214, e214, hx214_0⟩ := Kd.at_int (Kd.R_reads' HO_10.out).2.2 x11_3 p214 q214
                          cases e214
                          replace p214 := eq_true p214
                          replace q214 := eq_true q214
                          go_wp2
                          go_roundg k3
                          case measure => have := HJ4.out; have := HJ31.out; have := HK3.out; omega
                          case rel => exact ⟨(x9_3), (wrap64 (x11_3 + 1)), (by first | rfl | (simp; done) | (simp [*]; done)), H', ⟨by have := HJ4.out; have := HJ31.out; have := HK3.out; omega⟩, ⟨by (with_reducible repeat (first | apply Kd.R_alloc | apply Kd.R_drewN | apply Kd.R_drew)); exact HO_9.out⟩, ⟨by (with_reducible repeat (first | apply Kd.R_alloc | apply Kd.R_drewN | apply Kd.R_drew)); exact HO_10.out⟩, ⟨by (with_reducible repeat (first | refine blk_drewN ?_ _ | refine blk_drew ?_ | refine blk_alloc ?_ _)); exact BK198.out⟩, ⟨by (with_reducible repeat (first | refine blk_drewN ?_ _ | refine blk_drew ?_ | refine blk_alloc ?_ _)); exact BK204.out⟩, ⟨by repeat (first | (with_reducible first | exact HB.out | apply below_alloc | apply pw_below_drewN | apply below_drew1 | refine below_set ?_ GE198.out | refine below_set ?_ GE204.out) | exact HB.out)⟩⟩
                      · rw [if_neg c70] at H
                        exact absurd H (by simp)
                    · rw [if_neg c69] at H
                      have c69b0 : decide (x11_3 < (t210.length : Int)) = false := decide_eq_false c69
                      clear c69
                      replace H := Option.bind_eq_some_iff.mp H
                      obtain ⟨t213, A820, H⟩ := H
                      replace H : (some t213) = some r := H
                      have A82 := Aside0.mk A820
                      clear A820
                      obtain rfl := Option.some.inj H
                      obtain ⟨Ao83, co83, eo83⟩ := Kd.R_slice HO_10.out
                      subst eo83
                      have hnb84 := NB198_204.out
                      have hnc84 := NB204_198.out
                      have hcz85_0 : wr.cell? ⟨gb198, 0, none⟩ = some (.bool t193) := (blk_cell BK198.out 0).trans rfl
                      have hcz85_1 : wr.cell? ⟨gb198, 1, none⟩ = some (.bool false) := (blk_cell BK198.out 1).trans rfl
                      have hcz85_2 : wr.cell? ⟨gb198, 2, none⟩ = some (.bool t195) := (blk_cell BK198.out 2).trans rfl
                      have hcz85_3 : wr.cell? ⟨gb198, 3, none⟩ = some (.int .i64 t196) := (blk_cell BK198.out 3).trans rfl
                      have hcz85_4 : wr.cell? ⟨gb198, 4, none⟩ = some (.int .i64 t197) := (blk_cell BK198.out 4).trans rfl
                      have hfz85_0 := blk_frozen BK198.out 0
                      have hfz85_1 := blk_frozen BK198.out 1
                      have hfz85_2 := blk_frozen BK198.out 2
                      have hfz85_3 := blk_frozen BK198.out 3
                      have hfz85_4 := blk_frozen BK198.out 4
                      have hcz86_0 : wr.cell? ⟨gb204, 0, none⟩ = some (.bool t199) := (blk_cell BK204.out 0).trans rfl
                      have hcz86_1 : wr.cell? ⟨gb204, 1, none⟩ = some (.bool false) := (blk_cell BK204.out 1).trans rfl
                      have hcz86_2 : wr.cell? ⟨gb204, 2, none⟩ = some (.bool t201) := (blk_cell BK204.out 2).trans rfl
                      have hcz86_3 : wr.cell? ⟨gb204, 3, none⟩ = some (.int .i64 t202) := (blk_cell BK204.out 3).trans rfl
                      have hcz86_4 : wr.cell? ⟨gb204, 4, none⟩ = some (.int .i64 t203) := (blk_cell BK204.out 4).trans rfl
                      have hfz86_0 := blk_frozen BK204.out 0
                      have hfz86_1 := blk_frozen BK204.out 1
                      have hfz86_2 := blk_frozen BK204.out 2
                      have hfz86_3 := blk_frozen BK204.out 3
                      have hfz86_4 := blk_frozen BK204.out 4
                      obtain ⟨Ao87, co87, eo87⟩ := Kd.R_slice HO_9.out
                      subst eo87
                      go_wp2_with (first | ((with_reducible refine gate_callee (f := 55) rfl ?_); refine goesL_ (some 94) rfl rfl Try.func55 (by kernel_rfl) rfl #[.bool (t193 != t199), .slice Ao87 x9_3.length co87, .int .i64 (wrap64 (t197 + t203)), .bool false] rfl (by (try simp only [List.map_toArray, List.map_cons, List.map_nil]); first | done | rfl | (simp only [List.length_drop, List.length_take]; rfl)) ?_; (with_reducible refine (hearthref1_rounded.calls k3 (t193 != t199) _ _ x9_3 (wrap64 (t197 + t203)) false t213 _ ?side1 ?side2 A82.out).mono ?_); (case side1 => repeat (first | exact (Kd.R_reads' HO_9.out).2.2 | (with_reducible refine Kd.C_alloc ?_ _) | (with_reducible refine Kd.C_drewN ?_ _) | (with_reducible refine Kd.C_drew ?_))); (case side2 => exact (Kd.R_reads' HO_9.out).2.1); rintro e w88 ⟨rfl, hb⟩; refine ⟨_, rfl, ?_⟩; have n0_ := Aside0.mk (Kd.R_below (by (with_reducible repeat (first | apply Kd.R_alloc | apply Kd.R_drewN | apply Kd.R_drew)); exact HO_9.out) hb); have n1_ := Aside0.mk (Kd.R_below (by (with_reducible repeat (first | apply Kd.R_alloc | apply Kd.R_drewN | apply Kd.R_drew)); exact HO_10.out) hb); have n2_ := Aside0.mk (blk_below (g := gb198) (o := .cells #[.bool t193, .bool false, .bool t195, .int .i64 t196, .int .i64 t197] 40 (0, 0)) (by (with_reducible repeat (first | refine blk_drewN ?_ _ | refine blk_drew ?_ | refine blk_alloc ?_ _)); exact BK198.out) hb); have n3_ := Aside0.mk (blk_below (g := gb204) (o := .cells #[.bool t199, .bool false, .bool t201, .int .i64 t202, .int .i64 t203] 40 (0, 0)) (by (with_reducible repeat (first | refine blk_drewN ?_ _ | refine blk_drew ?_ | refine blk_alloc ?_ _)); exact BK204.out) hb); have n4_ := Aside0.mk (below_step (by repeat (first | (with_reducible first | exact HB.out | apply below_alloc | apply pw_below_drewN | apply below_drew1 | refine below_set ?_ GE198.out | refine below_set ?_ GE204.out) | exact HB.out)) hb); clear HO_9; clear HO_10; clear BK198; clear BK204; clear HB; have HO_9 := n0_; have HO_10 := n1_; have BK198 := n2_; have BK204 := n3_; have HB := n4_; clear n0_ n1_ n2_ n3_ n4_; (try clear hb); (try clear hb2); (try clear hk); (try clear hi)))
                      go_ret
                      exact ⟨by first | rfl | (simp [errW_none, errW_some] <;> rfl) | (simp [*, errW_none, errW_some] <;> rfl), by repeat (first | (with_reducible first | exact HB.out | apply below_alloc | apply pw_below_drewN | apply below_drew1 | refine below_set ?_ GE198.out | refine below_set ?_ GE204.out) | exact HB.out)⟩

end Go.Proofs.Ytpjcheenihlagaa.PFixAll
