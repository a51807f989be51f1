/- What functions of chapter 1 and of its reference come to, and that the Go text comes to it (after the kit's print; one walk turned). No conditions beyond those in each lemma. -/
import Derived.Test.YtpjcheenihlagaaBas
import Derived.Test.YtpjcheenihlagaaRx1
import Derived.Test.YtpjcheenihlagaaRx2
namespace Go.Proofs.Ytpjcheenihlagaa.PFixAll
open Go.RowKit Go.Proofs.YtpjcheenihlagaaW.PrintWords Go.Proofs.YtpjcheenihlagaaW.PrintLast Go.Proofs.YtpjcheenihlagaaW.PrintMore
attribute [local go_sem] max2_int min2_int max_two min_two max_three min_three max_four min_four   -- for this text's walks alone
set_option linter.unusedVariables false
set_option linter.unusedSimpArgs false

/-! ### hearthref1_FloDiv: function 34 -/
mutual
def hearthref1_FloDiv.j0 : Nat → Bool → Bool → Bool → Bool → Bool → Int → Int → Bool → Bool → Bool → Int → Int → Option (Int)
  | 0, _, _, _, _, _, _, _, _, _, _, _, _ => none
  | k + 1, x7, x21, x227000, x227001, x227002, x227003, x227004, x233000, x233001, x233002, x233003, x233004 => if x21 = true then (some 9221120237041090561) else (if x227001 = true then (hearthref1_FloDiv.j1 k x7 true x227000 x227001 x227002 x227003 x227004 x233000 x233001 x233002 x233003 x233004) else (if x233001 = true then (hearthref1_FloDiv.j1 k x7 false x227000 x227001 x227002 x227003 x227004 x233000 x233001 x233002 x233003 x233004) else (hearthref1_FloDiv.j1 k x7 (x233003 == 0) x227000 x227001 x227002 x227003 x227004 x233000 x233001 x233002 x233003 x233004)))
def hearthref1_FloDiv.j1 : Nat → Bool → Bool → Bool → Bool → Bool → Int → Int → Bool → Bool → Bool → Int → Int → Option (Int)
  | 0, _, _, _, _, _, _, _, _, _, _, _, _ => none
  | k + 1, x7, x56, x227000, x227001, x227002, x227003, x227004, x233000, x233001, x233002, x233003, x233004 => if x56 = true then ((hearthref1_infinity.f x7).bind fun t233 => (some t233)) else (if x233001 = true then ((hearthref1_signed.f x7 0).bind fun t234 => (some t234)) else ((hearthref1_list.f k x227003 120).bind fun t235 => (if 0 ≤ (t235.length : Int) then (if ((t235.length : Int) : Int).toNat ≤ 35184372088832 then (hearthref1_FloDiv.l0 k x7 t235 (List.replicate ((t235.length : Int) : Int).toNat 0) 0 (wrap64 ((t235.length : Int) - 1)) x227000 x227001 x227002 x227003 x227004 x233000 x233001 x233002 x233003 x233004) else (none)) else (none))))
def hearthref1_FloDiv.l0 : Nat → Bool → List Int → List Int → Int → Int → Bool → Bool → Bool → Int → Int → Bool → Bool → Bool → Int → Int → Option (Int)
  | 0, _, _, _, _, _, _, _, _, _, _, _, _, _, _, _ => none
  | k + 1, x7, x8, x9, x10, x11, x227000, x227001, x227002, x227003, x227004, x233000, x233001, x233002, x233003, x233004 => if x11 ≥ 0 then (if 0 ≤ x11 then (if x11 < (x8.length : Int) then (if (wrap64 ((wrap64 (x10 + x10)) + (rd x8 x11))) ≥ x233003 then (if x11 < (x9.length : Int) then (hearthref1_FloDiv.l0 k x7 x8 (x9.set (x11 : Int).toNat 1) (wrap64 ((wrap64 ((wrap64 (x10 + x10)) + (rd x8 x11))) - x233003)) (wrap64 (x11 - 1)) x227000 x227001 x227002 x227003 x227004 x233000 x233001 x233002 x233003 x233004) else (none)) else (hearthref1_FloDiv.l0 k x7 x8 x9 (wrap64 ((wrap64 (x10 + x10)) + (rd x8 x11))) (wrap64 (x11 - 1)) x227000 x227001 x227002 x227003 x227004 x233000 x233001 x233002 x233003 x233004)) else (none)) else (none)) else ((hearthref1_rounded.f k x7 x9 (wrap64 ((wrap64 (x227004 - x233004)) - 120)) (decide (x10 > 0))).bind fun t243 => (some t243))
end
def hearthref1_FloDiv.f (k : Nat) (a0 : Int) (a1 : Int) : Option (Int) := (hearthref1_Parts.f k a0).bind fun bt221 => ((hearthref1_Parts.f k a1).bind fun bt227 => (if bt221.2.2.1 = true then (hearthref1_FloDiv.j0 k (bt221.1 != bt227.1) true bt221.1 bt221.2.1 bt221.2.2.1 bt221.2.2.2.1 bt221.2.2.2.2 bt227.1 bt227.2.1 bt227.2.2.1 bt227.2.2.2.1 bt227.2.2.2.2) else (if bt227.2.2.1 = true then (hearthref1_FloDiv.j0 k (bt221.1 != bt227.1) true bt221.1 bt221.2.1 bt221.2.2.1 bt221.2.2.2.1 bt221.2.2.2.2 bt227.1 bt227.2.1 bt227.2.2.1 bt227.2.2.2.1 bt227.2.2.2.2) else (if bt221.2.1 = true then (if bt227.2.1 = true then (hearthref1_FloDiv.j0 k (bt221.1 != bt227.1) true bt221.1 bt221.2.1 bt221.2.2.1 bt221.2.2.2.1 bt221.2.2.2.2 bt227.1 bt227.2.1 bt227.2.2.1 bt227.2.2.2.1 bt227.2.2.2.2) else (hearthref1_FloDiv.j0 k (bt221.1 != bt227.1) false bt221.1 bt221.2.1 bt221.2.2.1 bt221.2.2.2.1 bt221.2.2.2.2 bt227.1 bt227.2.1 bt227.2.2.1 bt227.2.2.2.1 bt227.2.2.2.2)) else (if bt227.2.1 = true then (hearthref1_FloDiv.j0 k (bt221.1 != bt227.1) false bt221.1 bt221.2.1 bt221.2.2.1 bt221.2.2.2.1 bt221.2.2.2.2 bt227.1 bt227.2.1 bt227.2.2.1 bt227.2.2.2.1 bt227.2.2.2.2) else (if bt221.2.2.2.1 = 0 then (hearthref1_FloDiv.j0 k (bt221.1 != bt227.1) (bt227.2.2.2.1 == 0) bt221.1 bt221.2.1 bt221.2.2.1 bt221.2.2.2.1 bt221.2.2.2.2 bt227.1 bt227.2.1 bt227.2.2.1 bt227.2.2.2.1 bt227.2.2.2.2) else (hearthref1_FloDiv.j0 k (bt221.1 != bt227.1) false bt221.1 bt221.2.1 bt221.2.2.1 bt221.2.2.2.1 bt221.2.2.2.2 bt227.1 bt227.2.1 bt227.2.2.1 bt227.2.2.2.1 bt227.2.2.2.2)))))))
theorem hearthref1_FloDiv.mono_l : ∀ k, (∀ y0 y1 y2 y3 y4 y5 y6 y7 y8 y9 y10 y11, LeO (hearthref1_FloDiv.j0 k y0 y1 y2 y3 y4 y5 y6 y7 y8 y9 y10 y11) (hearthref1_FloDiv.j0 (k + 1) y0 y1 y2 y3 y4 y5 y6 y7 y8 y9 y10 y11)) ∧ (∀ y0 y1 y2 y3 y4 y5 y6 y7 y8 y9 y10 y11, LeO (hearthref1_FloDiv.j1 k y0 y1 y2 y3 y4 y5 y6 y7 y8 y9 y10 y11) (hearthref1_FloDiv.j1 (k + 1) y0 y1 y2 y3 y4 y5 y6 y7 y8 y9 y10 y11)) ∧ (∀ y0 y1 y2 y3 y4 y5 y6 y7 y8 y9 y10 y11 y12 y13 y14, LeO (hearthref1_FloDiv.l0 k y0 y1 y2 y3 y4 y5 y6 y7 y8 y9 y10 y11 y12 y13 y14) (hearthref1_FloDiv.l0 (k + 1) y0 y1 y2 y3 y4 y5 y6 y7 y8 y9 y10 y11 y12 y13 y14))
  | 0 => ⟨fun _ _ _ _ _ _ _ _ _ _ _ _ r h => by simp [hearthref1_FloDiv.j0] at h, fun _ _ _ _ _ _ _ _ _ _ _ _ r h => by simp [hearthref1_FloDiv.j1] at h, fun _ _ _ _ _ _ _ _ _ _ _ _ _ _ _ r h => by simp [hearthref1_FloDiv.l0] at h⟩
  | k + 1 => by
    obtain ⟨ih0, ih1, ih2⟩ := hearthref1_FloDiv.mono_l k
    refine ⟨?_, ?_, ?_⟩
    · intro y0 y1 y2 y3 y4 y5 y6 y7 y8 y9 y10 y11
      unfold hearthref1_FloDiv.j0
      repeat' first
      | (with_reducible exact ih0 _ _ _ _ _ _ _ _ _ _ _ _)
      | (with_reducible exact ih1 _ _ _ _ _ _ _ _ _ _ _ _)
      | (with_reducible exact ih2 _ _ _ _ _ _ _ _ _ _ _ _ _ _ _)
      | (with_reducible exact hearthref1_Parts.mono _ _)
      | (with_reducible exact hearthref1_list.mono _ _ _)
      | (with_reducible exact hearthref1_rounded.mono _ _ _ _ _)
      | (with_reducible exact LeO.refl _)
      | (with_reducible exact LeO.none _)
      | (with_reducible refine LeO.ite ?_ ?_)
      | (with_reducible refine LeO.bind ?_ (fun _ => ?_))
      | exact ih0 _ _ _ _ _ _ _ _ _ _ _ _
      | exact ih1 _ _ _ _ _ _ _ _ _ _ _ _
      | exact ih2 _ _ _ _ _ _ _ _ _ _ _ _ _ _ _
      | exact hearthref1_Parts.mono _ _
      | exact hearthref1_list.mono _ _ _
      | exact hearthref1_rounded.mono _ _ _ _ _
      | exact LeO.none _
      | refine LeO.ite ?_ ?_
      | refine LeO.bind ?_ (fun _ => ?_)
    · intro y0 y1 y2 y3 y4 y5 y6 y7 y8 y9 y10 y11
      unfold hearthref1_FloDiv.j1
      repeat' first
      | (with_reducible exact ih0 _ _ _ _ _ _ _ _ _ _ _ _)
      | (with_reducible exact ih1 _ _ _ _ _ _ _ _ _ _ _ _)
      | (with_reducible exact ih2 _ _ _ _ _ _ _ _ _ _ _ _ _ _ _)
      | (with_reducible exact hearthref1_Parts.mono _ _)
      | (with_reducible exact hearthref1_list.mono _ _ _)
      | (with_reducible exact hearthref1_rounded.mono _ _ _ _ _)
      | (with_reducible exact LeO.refl _)
      | (with_reducible exact LeO.none _)
      | (with_reducible refine LeO.ite ?_ ?_)
      | (with_reducible refine LeO.bind ?_ (fun _ => ?_))
      | exact ih0 _ _ _ _ _ _ _ _ _ _ _ _
      | exact ih1 _ _ _ _ _ _ _ _ _ _ _ _
      | exact ih2 _ _ _ _ _ _ _ _ _ _ _ _ _ _ _
      | exact hearthref1_Parts.mono _ _
      | exact hearthref1_list.mono _ _ _
      | exact hearthref1_rounded.mono _ _ _ _ _
      | exact LeO.none _
      | refine LeO.ite ?_ ?_
      | refine LeO.bind ?_ (fun _ => ?_)
    · intro y0 y1 y2 y3 y4 y5 y6 y7 y8 y9 y10 y11 y12 y13 y14
      unfold hearthref1_FloDiv.l0
      repeat' first
      | (with_reducible exact ih0 _ _ _ _ _ _ _ _ _ _ _ _)
      | (with_reducible exact ih1 _ _ _ _ _ _ _ _ _ _ _ _)
      | (with_reducible exact ih2 _ _ _ _ _ _ _ _ _ _ _ _ _ _ _)
      | (with_reducible exact hearthref1_Parts.mono _ _)
      | (with_reducible exact hearthref1_list.mono _ _ _)
      | (with_reducible exact hearthref1_rounded.mono _ _ _ _ _)
      | (with_reducible exact LeO.refl _)
      | (with_reducible exact LeO.none _)
      | (with_reducible refine LeO.ite ?_ ?_)
      | (with_reducible refine LeO.bind ?_ (fun _ => ?_))
      | exact ih0 _ _ _ _ _ _ _ _ _ _ _ _
      | exact ih1 _ _ _ _ _ _ _ _ _ _ _ _
      | exact ih2 _ _ _ _ _ _ _ _ _ _ _ _ _ _ _
      | exact hearthref1_Parts.mono _ _
      | exact hearthref1_list.mono _ _ _
      | exact hearthref1_rounded.mono _ _ _ _ _
      | exact LeO.none _
      | refine LeO.ite ?_ ?_
      | refine LeO.bind ?_ (fun _ => ?_)
theorem hearthref1_FloDiv.mono : ∀ a0 a1 k, LeO (hearthref1_FloDiv.f k a0 a1) (hearthref1_FloDiv.f (k + 1) a0 a1) := by
  intro a0 a1 k
  obtain ⟨ih0, ih1, ih2⟩ := hearthref1_FloDiv.mono_l k
  unfold hearthref1_FloDiv.f
  repeat' first
      | (with_reducible exact ih0 _ _ _ _ _ _ _ _ _ _ _ _)
      | (with_reducible exact ih1 _ _ _ _ _ _ _ _ _ _ _ _)
      | (with_reducible exact ih2 _ _ _ _ _ _ _ _ _ _ _ _ _ _ _)
      | (with_reducible exact hearthref1_Parts.mono _ _)
      | (with_reducible exact hearthref1_list.mono _ _ _)
      | (with_reducible exact hearthref1_rounded.mono _ _ _ _ _)
      | (with_reducible exact LeO.refl _)
      | (with_reducible exact LeO.none _)
      | (with_reducible refine LeO.ite ?_ ?_)
      | (with_reducible refine LeO.bind ?_ (fun _ => ?_))
      | exact ih0 _ _ _ _ _ _ _ _ _ _ _ _
      | exact ih1 _ _ _ _ _ _ _ _ _ _ _ _
      | exact ih2 _ _ _ _ _ _ _ _ _ _ _ _ _ _ _
      | exact hearthref1_Parts.mono _ _
      | exact hearthref1_list.mono _ _ _
      | exact hearthref1_rounded.mono _ _ _ _ _
      | exact LeO.none _
      | refine LeO.ite ?_ ?_
      | refine LeO.bind ?_ (fun _ => ?_)
set_option maxHeartbeats 8000000 in
set_option maxRecDepth 100000 in
theorem hearthref1_FloDiv.calls (k : Nat) (a0 : Int) (a1 : Int) (r : Int) (w : World) (h : hearthref1_FloDiv.f k a0 a1 = some r) :
    Calls Try.prog 34 #[.int .i64 a0, .int .i64 a1] w fun e w' => e = .returned (.int .i64 r) ∧ Below w.heap.size w w' := by
  have hu40 := Try.underlying40
  have HB := Aside0.mk (Below.refl w.heap.size w)
  have H : ((hearthref1_Parts.f k a0).bind fun bt221 => ((hearthref1_Parts.f k a1).bind fun bt227 => (if bt221.2.2.1 = true then (hearthref1_FloDiv.j0 k (bt221.1 != bt227.1) true bt221.1 bt221.2.1 bt221.2.2.1 bt221.2.2.2.1 bt221.2.2.2.2 bt227.1 bt227.2.1 bt227.2.2.1 bt227.2.2.2.1 bt227.2.2.2.2) else (if bt227.2.2.1 = true then (hearthref1_FloDiv.j0 k (bt221.1 != bt227.1) true bt221.1 bt221.2.1 bt221.2.2.1 bt221.2.2.2.1 bt221.2.2.2.2 bt227.1 bt227.2.1 bt227.2.2.1 bt227.2.2.2.1 bt227.2.2.2.2) else (if bt221.2.1 = true then (if bt227.2.1 = true then (hearthref1_FloDiv.j0 k (bt221.1 != bt227.1) true bt221.1 bt221.2.1 bt221.2.2.1 bt221.2.2.2.1 bt221.2.2.2.2 bt227.1 bt227.2.1 bt227.2.2.1 bt227.2.2.2.1 bt227.2.2.2.2) else (hearthref1_FloDiv.j0 k (bt221.1 != bt227.1) false bt221.1 bt221.2.1 bt221.2.2.1 bt221.2.2.2.1 bt221.2.2.2.2 bt227.1 bt227.2.1 bt227.2.2.1 bt227.2.2.2.1 bt227.2.2.2.2)) else (if bt227.2.1 = true then (hearthref1_FloDiv.j0 k (bt221.1 != bt227.1) false bt221.1 bt221.2.1 bt221.2.2.1 bt221.2.2.2.1 bt221.2.2.2.2 bt227.1 bt227.2.1 bt227.2.2.1 bt227.2.2.2.1 bt227.2.2.2.2) else (if bt221.2.2.2.1 = 0 then (hearthref1_FloDiv.j0 k (bt221.1 != bt227.1) (bt227.2.2.2.1 == 0) bt221.1 bt221.2.1 bt221.2.2.1 bt221.2.2.2.1 bt221.2.2.2.2 bt227.1 bt227.2.1 bt227.2.2.1 bt227.2.2.2.1 bt227.2.2.2.2) else (hearthref1_FloDiv.j0 k (bt221.1 != bt227.1) false bt221.1 bt221.2.1 bt221.2.2.1 bt221.2.2.2.1 bt221.2.2.2.2 bt227.1 bt227.2.1 bt227.2.2.1 bt227.2.2.2.1 bt227.2.2.2.2)))))))) = some r := h
  clear h
  replace H := Option.bind_eq_some_iff.mp H
  obtain ⟨⟨t221, t222, t223, t224, t225⟩, A30, H⟩ := H
  replace H : ((hearthref1_Parts.f k a1).bind fun bt227 => (if t223 = true then (hearthref1_FloDiv.j0 k (t221 != bt227.1) true t221 t222 t223 t224 t225 bt227.1 bt227.2.1 bt227.2.2.1 bt227.2.2.2.1 bt227.2.2.2.2) else (if bt227.2.2.1 = true then (hearthref1_FloDiv.j0 k (t221 != bt227.1) true t221 t222 t223 t224 t225 bt227.1 bt227.2.1 bt227.2.2.1 bt227.2.2.2.1 bt227.2.2.2.2) else (if t222 = true then (if bt227.2.1 = true then (hearthref1_FloDiv.j0 k (t221 != bt227.1) true t221 t222 t223 t224 t225 bt227.1 bt227.2.1 bt227.2.2.1 bt227.2.2.2.1 bt227.2.2.2.2) else (hearthref1_FloDiv.j0 k (t221 != bt227.1) false t221 t222 t223 t224 t225 bt227.1 bt227.2.1 bt227.2.2.1 bt227.2.2.2.1 bt227.2.2.2.2)) else (if bt227.2.1 = true then (hearthref1_FloDiv.j0 k (t221 != bt227.1) false t221 t222 t223 t224 t225 bt227.1 bt227.2.1 bt227.2.2.1 bt227.2.2.2.1 bt227.2.2.2.2) else (if t224 = 0 then (hearthref1_FloDiv.j0 k (t221 != bt227.1) (bt227.2.2.2.1 == 0) t221 t222 t223 t224 t225 bt227.1 bt227.2.1 bt227.2.2.1 bt227.2.2.2.1 bt227.2.2.2.2) else (hearthref1_FloDiv.j0 k (t221 != bt227.1) false t221 t222 t223 t224 t225 bt227.1 bt227.2.1 bt227.2.2.1 bt227.2.2.2.1 bt227.2.2.2.2))))))) = some r := H
  have A3 := Aside0.mk A30
  clear A30
  replace H := Option.bind_eq_some_iff.mp H
  obtain ⟨⟨t227, t228, t229, t230, t231⟩, A40, H⟩ := H
  replace H : (if t223 = true then (hearthref1_FloDiv.j0 k (t221 != t227) true t221 t222 t223 t224 t225 t227 t228 t229 t230 t231) else (if t229 = true then (hearthref1_FloDiv.j0 k (t221 != t227) true t221 t222 t223 t224 t225 t227 t228 t229 t230 t231) else (if t222 = true then (if t228 = true then (hearthref1_FloDiv.j0 k (t221 != t227) true t221 t222 t223 t224 t225 t227 t228 t229 t230 t231) else (hearthref1_FloDiv.j0 k (t221 != t227) false t221 t222 t223 t224 t225 t227 t228 t229 t230 t231)) else (if t228 = true then (hearthref1_FloDiv.j0 k (t221 != t227) false t221 t222 t223 t224 t225 t227 t228 t229 t230 t231) else (if t224 = 0 then (hearthref1_FloDiv.j0 k (t221 != t227) (t230 == 0) t221 t222 t223 t224 t225 t227 t228 t229 t230 t231) else (hearthref1_FloDiv.j0 k (t221 != t227) false t221 t222 t223 t224 t225 t227 t228 t229 t230 t231)))))) = some r := H
  have A4 := Aside0.mk A40
  clear A40
  have HC5 := Aside0.mk H
  clear H
  go_enter Try.func34, Try.ntmps34
  go_upto_region 4 with (first | ((with_reducible refine gate_callee (f := 51) rfl ?_); refine goesL_ (some 13) rfl rfl Try.func51 (by kernel_rfl) rfl #[.int .i64 a0] rfl (by (try simp only [List.map_toArray, List.map_cons, List.map_nil]); first | done | rfl | (simp only [List.length_drop, List.length_take]; rfl)) ?_; (with_reducible refine (hearthref1_Parts.calls k a0 t221 t222 t223 t224 t225 _ A3.out).mono ?_); rintro e w6 ⟨rfl, hb⟩; refine ⟨_, rfl, ?_⟩; have n0_ := Aside0.mk (below_step (by repeat (first | (with_reducible first | exact HB.out | apply below_alloc | apply pw_below_drewN | apply below_drew1) | exact HB.out)) hb); clear HB; have HB := n0_; clear n0_; (try clear hb); (try clear hb2); (try clear hk); (try clear hi)) | ((with_reducible refine gate_dst (N := 5) rfl ?_); refine box_event ?hg (N := 5) ?hd (cs := #[.bool false, .bool false, .bool false, .int .i64 0, .int .i64 0]) (t := 40) ?hr ?_; (case hd => rfl); (case hg => rfl); (case hr => first | (go_simp; done) | (go_simp; rfl)); intro gb226 hg w7 hbox hb; have n0_ := Aside0.mk (below_step (by repeat (first | (with_reducible first | exact HB.out | apply below_alloc | apply pw_below_drewN | apply below_drew1) | exact HB.out)) hb); have n1_ := Aside0.mk (hbox); have n2_ := Aside0.mk ((by rw [hg]; exact (below_size (by repeat (first | (with_reducible first | exact HB.out | apply below_alloc | apply pw_below_drewN | apply below_drew1) | exact HB.out))) : w.heap.size ≤ gb226)); have n3_ := Aside0.mk ((by rw [hg]; exact (below_size (by repeat (first | (with_reducible first | exact HB.out | apply below_alloc | apply pw_below_drewN | apply below_drew1) | exact HB.out))) : w.heap.size ≤ gb226)); clear HB; have HB := n0_; have BK226 := n1_; have GW226 := n2_; have GE226 := n3_; clear n0_ n1_ n2_ n3_; clear hb hbox hg; have hcz8_0 : w7.cell? ⟨gb226, 0, none⟩ = some (.bool false) := (blk_cell BK226.out 0).trans rfl; have hcz8_1 : w7.cell? ⟨gb226, 1, none⟩ = some (.bool false) := (blk_cell BK226.out 1).trans rfl; have hcz8_2 : w7.cell? ⟨gb226, 2, none⟩ = some (.bool false) := (blk_cell BK226.out 2).trans rfl; have hcz8_3 : w7.cell? ⟨gb226, 3, none⟩ = some (.int .i64 0) := (blk_cell BK226.out 3).trans rfl; have hcz8_4 : w7.cell? ⟨gb226, 4, none⟩ = some (.int .i64 0) := (blk_cell BK226.out 4).trans rfl; have hfz8_0 := blk_frozen BK226.out 0; have hfz8_1 := blk_frozen BK226.out 1; have hfz8_2 := blk_frozen BK226.out 2; have hfz8_3 := blk_frozen BK226.out 3; have hfz8_4 := blk_frozen BK226.out 4) | ((with_reducible refine gate_callee (f := 51) rfl ?_); refine goesL_ (some 15) rfl rfl Try.func51 (by kernel_rfl) rfl #[.int .i64 a1] rfl (by (try simp only [List.map_toArray, List.map_cons, List.map_nil]); first | done | rfl | (simp only [List.length_drop, List.length_take]; rfl)) ?_; (with_reducible refine (hearthref1_Parts.calls k a1 t227 t228 t229 t230 t231 _ A4.out).mono ?_); rintro e w9 ⟨rfl, hb⟩; refine ⟨_, rfl, ?_⟩; have n0_ := Aside0.mk (blk_below (g := gb226) (o := .cells #[.bool t221, .bool t222, .bool t223, .int .i64 t224, .int .i64 t225] 40 (0, 0)) (by (with_reducible repeat (first | refine blk_drewN ?_ _ | refine blk_drew ?_ | refine blk_alloc ?_ _)); refine blk_put (cs := #[.bool t221, .bool t222, .bool t223, .int .i64 t224, .int .i64 0]) ?_ 4 _ rfl; (with_reducible repeat (first | refine blk_drewN ?_ _ | refine blk_drew ?_ | refine blk_alloc ?_ _)); refine blk_put (cs := #[.bool t221, .bool t222, .bool t223, .int .i64 0, .int .i64 0]) ?_ 3 _ rfl; (with_reducible repeat (first | refine blk_drewN ?_ _ | refine blk_drew ?_ | refine blk_alloc ?_ _)); refine blk_put (cs := #[.bool t221, .bool t222, .bool false, .int .i64 0, .int .i64 0]) ?_ 2 _ rfl; (with_reducible repeat (first | refine blk_drewN ?_ _ | refine blk_drew ?_ | refine blk_alloc ?_ _)); refine blk_put (cs := #[.bool t221, .bool false, .bool false, .int .i64 0, .int .i64 0]) ?_ 1 _ rfl; (with_reducible repeat (first | refine blk_drewN ?_ _ | refine blk_drew ?_ | refine blk_alloc ?_ _)); refine blk_put (cs := #[.bool false, .bool false, .bool false, .int .i64 0, .int .i64 0]) ?_ 0 _ rfl; (with_reducible repeat (first | refine blk_drewN ?_ _ | refine blk_drew ?_ | refine blk_alloc ?_ _)); exact BK226.out) hb); have n1_ := Aside0.mk (below_step (by repeat (first | (with_reducible first | exact HB.out | apply below_alloc | apply pw_below_drewN | apply below_drew1 | refine below_set ?_ GE226.out) | exact HB.out)) hb); clear BK226; clear HB; have BK226 := n0_; have HB := n1_; clear n0_ n1_; (try clear hb); (try clear hb2); (try clear hk); (try clear hi)) | ((with_reducible refine gate_dst (N := 6) rfl ?_); refine box_event ?hg (N := 6) ?hd (cs := #[.bool false, .bool false, .bool false, .int .i64 0, .int .i64 0]) (t := 40) ?hr ?_; (case hd => rfl); (case hg => rfl); (case hr => first | (go_simp; done) | (go_simp; rfl)); intro gb232 hg w10 hbox hb; have n0_ := Aside0.mk (blk_below (g := gb226) (o := .cells #[.bool t221, .bool t222, .bool t223, .int .i64 t224, .int .i64 t225] 40 (0, 0)) (by (with_reducible repeat (first | refine blk_drewN ?_ _ | refine blk_drew ?_ | refine blk_alloc ?_ _)); exact BK226.out) hb); have n1_ := Aside0.mk (below_step (by repeat (first | (with_reducible first | exact HB.out | apply below_alloc | apply pw_below_drewN | apply below_drew1 | refine below_set ?_ GE226.out) | exact HB.out)) hb); have n2_ := Aside0.mk (hbox); have n3_ := Aside0.mk ((by rw [hg]; exact (below_size (by repeat (first | (with_reducible first | exact HB.out | apply below_alloc | apply pw_below_drewN | apply below_drew1 | refine below_set ?_ GE226.out) | exact HB.out))) : w.heap.size ≤ gb232)); have n4_ := Aside0.mk ((by rw [hg]; exact (below_size (by repeat (first | (with_reducible first | exact HB.out | apply below_alloc | apply pw_below_drewN | apply below_drew1 | refine below_set ?_ GE226.out) | exact HB.out))) : w.heap.size ≤ gb232)); have n5_ := Aside0.mk ((by rw [hg]; exact Nat.ne_of_lt (blk_lt (g := gb226) (o := .cells #[.bool t221, .bool t222, .bool t223, .int .i64 t224, .int .i64 t225] 40 (0, 0)) (by (with_reducible repeat (first | refine blk_drewN ?_ _ | refine blk_drew ?_ | refine blk_alloc ?_ _)); exact BK226.out)) : gb226 ≠ gb232)); have n6_ := Aside0.mk ((by rw [hg]; exact Nat.ne_of_gt (blk_lt (g := gb226) (o := .cells #[.bool t221, .bool t222, .bool t223, .int .i64 t224, .int .i64 t225] 40 (0, 0)) (by (with_reducible repeat (first | refine blk_drewN ?_ _ | refine blk_drew ?_ | refine blk_alloc ?_ _)); exact BK226.out)) : gb232 ≠ gb226)); clear BK226; clear HB; have BK226 := n0_; have HB := n1_; have BK232 := n2_; have GW232 := n3_; have GE232 := n4_; have NB226_232 := n5_; have NB232_226 := n6_; clear n0_ n1_ n2_ n3_ n4_ n5_ n6_; clear hb hbox hg; have hnb11 := NB232_226.out; have hnc11 := NB226_232.out; have hcz12_0 : w10.cell? ⟨gb232, 0, none⟩ = some (.bool false) := (blk_cell BK232.out 0).trans rfl; have hcz12_1 : w10.cell? ⟨gb232, 1, none⟩ = some (.bool false) := (blk_cell BK232.out 1).trans rfl; have hcz12_2 : w10.cell? ⟨gb232, 2, none⟩ = some (.bool false) := (blk_cell BK232.out 2).trans rfl; have hcz12_3 : w10.cell? ⟨gb232, 3, none⟩ = some (.int .i64 0) := (blk_cell BK232.out 3).trans rfl; have hcz12_4 : w10.cell? ⟨gb232, 4, none⟩ = some (.int .i64 0) := (blk_cell BK232.out 4).trans rfl; have hfz12_0 := blk_frozen BK232.out 0; have hfz12_1 := blk_frozen BK232.out 1; have hfz12_2 := blk_frozen BK232.out 2; have hfz12_3 := blk_frozen BK232.out 3; have hfz12_4 := blk_frozen BK232.out 4; have hcz13_0 : w10.cell? ⟨gb226, 0, none⟩ = some (.bool t221) := (blk_cell BK226.out 0).trans rfl; have hcz13_1 : w10.cell? ⟨gb226, 1, none⟩ = some (.bool t222) := (blk_cell BK226.out 1).trans rfl; have hcz13_2 : w10.cell? ⟨gb226, 2, none⟩ = some (.bool t223) := (blk_cell BK226.out 2).trans rfl; have hcz13_3 : w10.cell? ⟨gb226, 3, none⟩ = some (.int .i64 t224) := (blk_cell BK226.out 3).trans rfl; have hcz13_4 : w10.cell? ⟨gb226, 4, none⟩ = some (.int .i64 t225) := (blk_cell BK226.out 4).trans rfl; have hfz13_0 := blk_frozen BK226.out 0; have hfz13_1 := blk_frozen BK226.out 1; have hfz13_2 := blk_frozen BK226.out 2; have hfz13_3 := blk_frozen BK226.out 3; have hfz13_4 := blk_frozen BK226.out 4))
  (try simp only [Act.put, List.setIfInBounds_toArray, List.set_cons_zero, List.set_cons_succ])
  go_cut [21] (fun v21 wc => ∃ (kq : Nat) (x21_4 : Bool), v21 = .bool x21_4 ∧ Aside0 (hearthref1_FloDiv.j0 kq (t221 != t227) x21_4 t221 t222 t223 t224 t225 t227 t228 t229 t230 t231 = some r) ∧ Aside0 (kq ≤ k) ∧ Aside0 (wc.heap[gb226]? = some (.cells #[.bool t221, .bool t222, .bool t223, .int .i64 t224, .int .i64 t225] 40 (0, 0))) ∧ Aside0 (wc.heap[gb232]? = some (.cells #[.bool t227, .bool t228, .bool t229, .int .i64 t230, .int .i64 t231] 40 (0, 0))) ∧ Aside0 (Below w.heap.size w wc))
  case first =>
    have H := HC5.out
    clear HC5
    by_cases c14 : t223 = true
    · subst c14
      have H1 : (hearthref1_FloDiv.j0 k (t221 != t227) true t221 t222 true t224 t225 t227 t228 t229 t230 t231) = some r := by rw [if_pos rfl] at H; exact H
      clear H
      have H := H1
      clear H1
      have H' := Aside0.mk H
      clear H
      have hnb15 := NB226_232.out
      have hnc15 := NB232_226.out
      have hcz16_0 : w10.cell? ⟨gb226, 0, none⟩ = some (.bool t221) := (blk_cell BK226.out 0).trans rfl
      have hcz16_1 : w10.cell? ⟨gb226, 1, none⟩ = some (.bool t222) := (blk_cell BK226.out 1).trans rfl
      have hcz16_2 : w10.cell? ⟨gb226, 2, none⟩ = some (.bool true) := (blk_cell BK226.out 2).trans rfl
      have hcz16_3 : w10.cell? ⟨gb226, 3, none⟩ = some (.int .i64 t224) := (blk_cell BK226.out 3).trans rfl
      have hcz16_4 : w10.cell? ⟨gb226, 4, none⟩ = some (.int .i64 t225) := (blk_cell BK226.out 4).trans rfl
      have hfz16_0 := blk_frozen BK226.out 0
      have hfz16_1 := blk_frozen BK226.out 1
      have hfz16_2 := blk_frozen BK226.out 2
      have hfz16_3 := blk_frozen BK226.out 3
      have hfz16_4 := blk_frozen BK226.out 4
      go_wp2
      go_meet
      case rel => exact ⟨_, (true), (by first | rfl | (simp; done) | (simp [*]; done)), H', ⟨by first | omega | exact Nat.le_refl _⟩, ⟨by (with_reducible repeat (first | refine blk_drewN ?_ _ | refine blk_drew ?_ | refine blk_alloc ?_ _)); refine blk_far ?_ NB226_232.out _; (with_reducible repeat (first | refine blk_drewN ?_ _ | refine blk_drew ?_ | refine blk_alloc ?_ _)); refine blk_far ?_ NB226_232.out _; (with_reducible repeat (first | refine blk_drewN ?_ _ | refine blk_drew ?_ | refine blk_alloc ?_ _)); refine blk_far ?_ NB226_232.out _; (with_reducible repeat (first | refine blk_drewN ?_ _ | refine blk_drew ?_ | refine blk_alloc ?_ _)); refine blk_far ?_ NB226_232.out _; (with_reducible repeat (first | refine blk_drewN ?_ _ | refine blk_drew ?_ | refine blk_alloc ?_ _)); refine blk_far ?_ NB226_232.out _; (with_reducible repeat (first | refine blk_drewN ?_ _ | refine blk_drew ?_ | refine blk_alloc ?_ _)); exact BK226.out⟩, ⟨by (with_reducible repeat (first | refine blk_drewN ?_ _ | refine blk_drew ?_ | refine blk_alloc ?_ _)); refine blk_put (cs := #[.bool t227, .bool t228, .bool t229, .int .i64 t230, .int .i64 0]) ?_ 4 _ rfl; (with_reducible repeat (first | refine blk_drewN ?_ _ | refine blk_drew ?_ | refine blk_alloc ?_ _)); refine blk_put (cs := #[.bool t227, .bool t228, .bool t229, .int .i64 0, .int .i64 0]) ?_ 3 _ rfl; (with_reducible repeat (first | refine blk_drewN ?_ _ | refine blk_drew ?_ | refine blk_alloc ?_ _)); refine blk_put (cs := #[.bool t227, .bool t228, .bool false, .int .i64 0, .int .i64 0]) ?_ 2 _ rfl; (with_reducible repeat (first | refine blk_drewN ?_ _ | refine blk_drew ?_ | refine blk_alloc ?_ _)); refine blk_put (cs := #[.bool t227, .bool false, .bool false, .int .i64 0, .int .i64 0]) ?_ 1 _ rfl; (with_reducible repeat (first | refine blk_drewN ?_ _ | refine blk_drew ?_ | refine blk_alloc ?_ _)); refine blk_put (cs := #[.bool false, .bool false, .bool false, .int .i64 0, .int .i64 0]) ?_ 0 _ rfl; (with_reducible repeat (first | refine blk_drewN ?_ _ | refine blk_drew ?_ | refine blk_alloc ?_ _)); exact BK232.out⟩, ⟨by repeat (first | (with_reducible first | exact HB.out | apply below_alloc | apply pw_below_drewN | apply below_drew1 | refine below_set ?_ GE226.out | refine below_set ?_ GE232.out) | exact HB.out)⟩⟩
    · replace c14 := Bool.eq_false_iff.mpr c14
      subst c14
      have H1 : (if t229 = true then (hearthref1_FloDiv.j0 k (t221 != t227) true t221 t222 false t224 t225 t227 t228 t229 t230 t231) else (if t222 = true then (if t228 = true then (hearthref1_FloDiv.j0 k (t221 != t227) true t221 t222 false t224 t225 t227 t228 t229 t230 t231) else (hearthref1_FloDiv.j0 k (t221 != t227) false t221 t222 false t224 t225 t227 t228 t229 t230 t231)) else (if t228 = true then (hearthref1_FloDiv.j0 k (t221 != t227) false t221 t222 false t224 t225 t227 t228 t229 t230 t231) else (if t224 = 0 then (hearthref1_FloDiv.j0 k (t221 != t227) (t230 == 0) t221 t222 false t224 t225 t227 t228 t229 t230 t231) else (hearthref1_FloDiv.j0 k (t221 != t227) false t221 t222 false t224 t225 t227 t228 t229 t230 t231))))) = some r := by rw [if_neg (show ¬ (false = true) by decide)] at H; exact H
      clear H
      have H := H1
      clear H1
      by_cases c17 : t229 = true
      · subst c17
        have H1 : (hearthref1_FloDiv.j0 k (t221 != t227) true t221 t222 false t224 t225 t227 t228 true t230 t231) = some r := by rw [if_pos rfl] at H; exact H
        clear H
        have H := H1
        clear H1
        have H' := Aside0.mk H
        clear H
        have hnb18 := NB226_232.out
        have hnc18 := NB232_226.out
        have hcz19_0 : w10.cell? ⟨gb226, 0, none⟩ = some (.bool t221) := (blk_cell BK226.out 0).trans rfl
        have hcz19_1 : w10.cell? ⟨gb226, 1, none⟩ = some (.bool t222) := (blk_cell BK226.out 1).trans rfl
        have hcz19_2 : w10.cell? ⟨gb226, 2, none⟩ = some (.bool false) := (blk_cell BK226.out 2).trans rfl
        have hcz19_3 : w10.cell? ⟨gb226, 3, none⟩ = some (.int .i64 t224) := (blk_cell BK226.out 3).trans rfl
        have hcz19_4 : w10.cell? ⟨gb226, 4, none⟩ = some (.int .i64 t225) := (blk_cell BK226.out 4).trans rfl
        have hfz19_0 := blk_frozen BK226.out 0
        have hfz19_1 := blk_frozen BK226.out 1
        have hfz19_2 := blk_frozen BK226.out 2
        have hfz19_3 := blk_frozen BK226.out 3
        have hfz19_4 := blk_frozen BK226.out 4
        have hcz20_0 : w10.cell? ⟨gb232, 0, none⟩ = some (.bool false) := (blk_cell BK232.out 0).trans rfl
        have hcz20_1 : w10.cell? ⟨gb232, 1, none⟩ = some (.bool false) := (blk_cell BK232.out 1).trans rfl
        have hcz20_2 : w10.cell? ⟨gb232, 2, none⟩ = some (.bool false) := (blk_cell BK232.out 2).trans rfl
        have hcz20_3 : w10.cell? ⟨gb232, 3, none⟩ = some (.int .i64 0) := (blk_cell BK232.out 3).trans rfl
        have hcz20_4 : w10.cell? ⟨gb232, 4, none⟩ = some (.int .i64 0) := (blk_cell BK232.out 4).trans rfl
        have hfz20_0 := blk_frozen BK232.out 0
        have hfz20_1 := blk_frozen BK232.out 1
        have hfz20_2 := blk_frozen BK232.out 2
        have hfz20_3 := blk_frozen BK232.out 3
        have hfz20_4 := blk_frozen BK232.out 4
        go_wp2
        go_meet
        case rel => exact ⟨_, (true), (by first | rfl | (simp; done) | (simp [*]; done)), H', ⟨by first | omega | exact Nat.le_refl _⟩, ⟨by (with_reducible repeat (first | refine blk_drewN ?_ _ | refine blk_drew ?_ | refine blk_alloc ?_ _)); refine blk_far ?_ NB226_232.out _; (with_reducible repeat (first | refine blk_drewN ?_ _ | refine blk_drew ?_ | refine blk_alloc ?_ _)); refine blk_far ?_ NB226_232.out _; (with_reducible repeat (first | refine blk_drewN ?_ _ | refine blk_drew ?_ | refine blk_alloc ?_ _)); refine blk_far ?_ NB226_232.out _; (with_reducible repeat (first | refine blk_drewN ?_ _ | refine blk_drew ?_ | refine blk_alloc ?_ _)); refine blk_far ?_ NB226_232.out _; (with_reducible repeat (first | refine blk_drewN ?_ _ | refine blk_drew ?_ | refine blk_alloc ?_ _)); refine blk_far ?_ NB226_232.out _; (with_reducible repeat (first | refine blk_drewN ?_ _ | refine blk_drew ?_ | refine blk_alloc ?_ _)); exact BK226.out⟩, ⟨by (with_reducible repeat (first | refine blk_drewN ?_ _ | refine blk_drew ?_ | refine blk_alloc ?_ _)); refine blk_put (cs := #[.bool t227, .bool t228, .bool true, .int .i64 t230, .int .i64 0]) ?_ 4 _ rfl; (with_reducible repeat (first | refine blk_drewN ?_ _ | refine blk_drew ?_ | refine blk_alloc ?_ _)); refine blk_put (cs := #[.bool t227, .bool t228, .bool true, .int .i64 0, .int .i64 0]) ?_ 3 _ rfl; (with_reducible repeat (first | refine blk_drewN ?_ _ | refine blk_drew ?_ | refine blk_alloc ?_ _)); refine blk_put (cs := #[.bool t227, .bool t228, .bool false, .int .i64 0, .int .i64 0]) ?_ 2 _ rfl; (with_reducible repeat (first | refine blk_drewN ?_ _ | refine blk_drew ?_ | refine blk_alloc ?_ _)); refine blk_put (cs := #[.bool t227, .bool false, .bool false, .int .i64 0, .int .i64 0]) ?_ 1 _ rfl; (with_reducible repeat (first | refine blk_drewN ?_ _ | refine blk_drew ?_ | refine blk_alloc ?_ _)); refine blk_put (cs := #[.bool false, .bool false, .bool false, .int .i64 0, .int .i64 0]) ?_ 0 _ rfl; (with_reducible repeat (first | refine blk_drewN ?_ _ | refine blk_drew ?_ | refine blk_alloc ?_ _)); exact BK232.out⟩, ⟨by repeat (first | (with_reducible first | exact HB.out | apply below_alloc | apply pw_below_drewN | apply below_drew1 | refine below_set ?_ GE226.out | refine below_set ?_ GE232.out) | exact HB.out)⟩⟩
      · replace c17 := Bool.eq_false_iff.mpr c17
        subst c17
        have H1 : (if t222 = true then (if t228 = true then (hearthref1_FloDiv.j0 k (t221 != t227) true t221 t222 false t224 t225 t227 t228 false t230 t231) else (hearthref1_FloDiv.j0 k (t221 != t227) false t221 t222 false t224 t225 t227 t228 false t230 t231)) else (if t228 = true then (hearthref1_FloDiv.j0 k (t221 != t227) false t221 t222 false t224 t225 t227 t228 false t230 t231) else (if t224 = 0 then (hearthref1_FloDiv.j0 k (t221 != t227) (t230 == 0) t221 t222 false t224 t225 t227 t228 false t230 t231) else (hearthref1_FloDiv.j0 k (t221 != t227) false t221 t222 false t224 t225 t227 t228 false t230 t231)))) = some r := by rw [if_neg (show ¬ (false = true) by decide)] at H; exact H
        clear H
        have H := H1
        clear H1
        by_cases c21 : t222 = true
        · subst c21
          have H1 : (if t228 = true then (hearthref1_FloDiv.j0 k (t221 != t227) true t221 true false t224 t225 t227 t228 false t230 t231) else (hearthref1_FloDiv.j0 k (t221 != t227) false t221 true false t224 t225 t227 t228 false t230 t231)) = some r := by rw [if_pos rfl] at H; exact H
          clear H
          have H := H1
          clear H1
          by_cases c22 : t228 = true
          · subst c22
            have H1 : (hearthref1_FloDiv.j0 k (t221 != t227) true t221 true false t224 t225 t227 true false t230 t231) = some r := by rw [if_pos rfl] at H; exact H
            clear H
            have H := H1
            clear H1
            have H' := Aside0.mk H
            clear H
            have hnb23 := NB226_232.out
            have hnc23 := NB232_226.out
            have hcz24_0 : w10.cell? ⟨gb226, 0, none⟩ = some (.bool t221) := (blk_cell BK226.out 0).trans rfl
            have hcz24_1 : w10.cell? ⟨gb226, 1, none⟩ = some (.bool true) := (blk_cell BK226.out 1).trans rfl
            have hcz24_2 : w10.cell? ⟨gb226, 2, none⟩ = some (.bool false) := (blk_cell BK226.out 2).trans rfl
            have hcz24_3 : w10.cell? ⟨gb226, 3, none⟩ = some (.int .i64 t224) := (blk_cell BK226.out 3).trans rfl
            have hcz24_4 : w10.cell? ⟨gb226, 4, none⟩ = some (.int .i64 t225) := (blk_cell BK226.out 4).trans rfl
            have hfz24_0 := blk_frozen BK226.out 0
            have hfz24_1 := blk_frozen BK226.out 1
            have hfz24_2 := blk_frozen BK226.out 2
            have hfz24_3 := blk_frozen BK226.out 3
            have hfz24_4 := blk_frozen BK226.out 4
            have hcz25_0 : w10.cell? ⟨gb232, 0, none⟩ = some (.bool false) := (blk_cell BK232.out 0).trans rfl
            have hcz25_1 : w10.cell? ⟨gb232, 1, none⟩ = some (.bool false) := (blk_cell BK232.out 1).trans rfl
            have hcz25_2 : w10.cell? ⟨gb232, 2, none⟩ = some (.bool false) := (blk_cell BK232.out 2).trans rfl
            have hcz25_3 : w10.cell? ⟨gb232, 3, none⟩ = some (.int .i64 0) := (blk_cell BK232.out 3).trans rfl
            have hcz25_4 : w10.cell? ⟨gb232, 4, none⟩ = some (.int .i64 0) := (blk_cell BK232.out 4).trans rfl
            have hfz25_0 := blk_frozen BK232.out 0
            have hfz25_1 := blk_frozen BK232.out 1
            have hfz25_2 := blk_frozen BK232.out 2
            have hfz25_3 := blk_frozen BK232.out 3
            have hfz25_4 := blk_frozen BK232.out 4
            go_wp2
            go_meet
            case rel => exact ⟨_, (true), (by first | rfl | (simp; done) | (simp [*]; done)), H', ⟨by first | omega | exact Nat.le_refl _⟩, ⟨by (with_reducible repeat (first | refine blk_drewN ?_ _ | refine blk_drew ?_ | refine blk_alloc ?_ _)); refine blk_far ?_ NB226_232.out _; (with_reducible repeat (first | refine blk_drewN ?_ _ | refine blk_drew ?_ | refine blk_alloc ?_ _)); refine blk_far ?_ NB226_232.out _; (with_reducible repeat (first | refine blk_drewN ?_ _ | refine blk_drew ?_ | refine blk_alloc ?_ _)); refine blk_far ?_ NB226_232.out _; (with_reducible repeat (first | refine blk_drewN ?_ _ | refine blk_drew ?_ | refine blk_alloc ?_ _)); refine blk_far ?_ NB226_232.out _; (with_reducible repeat (first | refine blk_drewN ?_ _ | refine blk_drew ?_ | refine blk_alloc ?_ _)); refine blk_far ?_ NB226_232.out _; (with_reducible repeat (first | refine blk_drewN ?_ _ | refine blk_drew ?_ | refine blk_alloc ?_ _)); exact BK226.out⟩, ⟨by (with_reducible repeat (first | refine blk_drewN ?_ _ | refine blk_drew ?_ | refine blk_alloc ?_ _)); refine blk_put (cs := #[.bool t227, .bool true, .bool false, .int .i64 t230, .int .i64 0]) ?_ 4 _ rfl; (with_reducible repeat (first | refine blk_drewN ?_ _ | refine blk_drew ?_ | refine blk_alloc ?_ _)); refine blk_put (cs := #[.bool t227, .bool true, .bool false, .int .i64 0, .int .i64 0]) ?_ 3 _ rfl; (with_reducible repeat (first | refine blk_drewN ?_ _ | refine blk_drew ?_ | refine blk_alloc ?_ _)); refine blk_put (cs := #[.bool t227, .bool true, .bool false, .int .i64 0, .int .i64 0]) ?_ 2 _ rfl; (with_reducible repeat (first | refine blk_drewN ?_ _ | refine blk_drew ?_ | refine blk_alloc ?_ _)); refine blk_put (cs := #[.bool t227, .bool false, .bool false, .int .i64 0, .int .i64 0]) ?_ 1 _ rfl; (with_reducible repeat (first | refine blk_drewN ?_ _ | refine blk_drew ?_ | refine blk_alloc ?_ _)); refine blk_put (cs := #[.bool false, .bool false, .bool false, .int .i64 0, .int .i64 0]) ?_ 0 _ rfl; (with_reducible repeat (first | refine blk_drewN ?_ _ | refine blk_drew ?_ | refine blk_alloc ?_ _)); exact BK232.out⟩, ⟨by repeat (first | (with_reducible first | exact HB.out | apply below_alloc | apply pw_below_drewN | apply below_drew1 | refine below_set ?_ GE226.out | refine below_set ?_ GE232.out) | exact HB.out)⟩⟩
          · replace c22 := Bool.eq_false_iff.mpr c22
            subst c22
            have H1 : (hearthref1_FloDiv.j0 k (t221 != t227) false t221 true false t224 t225 t227 false false t230 t231) = some r := by rw [if_neg (show ¬ (false = true) by decide)] at H; exact H
            clear H
            have H := H1
            clear H1
            have H' := Aside0.mk H
            clear H
            have hnb26 := NB226_232.out
            have hnc26 := NB232_226.out
            have hcz27_0 : w10.cell? ⟨gb226, 0, none⟩ = some (.bool t221) := (blk_cell BK226.out 0).trans rfl
            have hcz27_1 : w10.cell? ⟨gb226, 1, none⟩ = some (.bool true) := (blk_cell BK226.out 1).trans rfl
            have hcz27_2 : w10.cell? ⟨gb226, 2, none⟩ = some (.bool false) := (blk_cell BK226.out 2).trans rfl
            have hcz27_3 : w10.cell? ⟨gb226, 3, none⟩ = some (.int .i64 t224) := (blk_cell BK226.out 3).trans rfl
            have hcz27_4 : w10.cell? ⟨gb226, 4, none⟩ = some (.int .i64 t225) := (blk_cell BK226.out 4).trans rfl
            have hfz27_0 := blk_frozen BK226.out 0
            have hfz27_1 := blk_frozen BK226.out 1
            have hfz27_2 := blk_frozen BK226.out 2
            have hfz27_3 := blk_frozen BK226.out 3
            have hfz27_4 := blk_frozen BK226.out 4
            have hcz28_0 : w10.cell? ⟨gb232, 0, none⟩ = some (.bool false) := (blk_cell BK232.out 0).trans rfl
            have hcz28_1 : w10.cell? ⟨gb232, 1, none⟩ = some (.bool false) := (blk_cell BK232.out 1).trans rfl
            have hcz28_2 : w10.cell? ⟨gb232, 2, none⟩ = some (.bool false) := (blk_cell BK232.out 2).trans rfl
            have hcz28_3 : w10.cell? ⟨gb232, 3, none⟩ = some (.int .i64 0) := (blk_cell BK232.out 3).trans rfl
            have hcz28_4 : w10.cell? ⟨gb232, 4, none⟩ = some (.int .i64 0) := (blk_cell BK232.out 4).trans rfl
            have hfz28_0 := blk_frozen BK232.out 0
            have hfz28_1 := blk_frozen BK232.out 1
            have hfz28_2 := blk_frozen BK232.out 2
            have hfz28_3 := blk_frozen BK232.out 3
            have hfz28_4 := blk_frozen BK232.out 4
            go_wp2
            go_meet
            case rel => exact ⟨_, (false), (by first | rfl | (simp; done) | (simp [*]; done)), H', ⟨by first | omega | exact Nat.le_refl _⟩, ⟨by (with_reducible repeat (first | refine blk_drewN ?_ _ | refine blk_drew ?_ | refine blk_alloc ?_ _)); refine blk_far ?_ NB226_232.out _; (with_reducible repeat (first | refine blk_drewN ?_ _ | refine blk_drew ?_ | refine blk_alloc ?_ _)); refine blk_far ?_ NB226_232.out _; (with_reducible repeat (first | refine blk_drewN ?_ _ | refine blk_drew ?_ | refine blk_alloc ?_ _)); refine blk_far ?_ NB226_232.out _; (with_reducible repeat (first | refine blk_drewN ?_ _ | refine blk_drew ?_ | refine blk_alloc ?_ _)); refine blk_far ?_ NB226_232.out _; (with_reducible repeat (first | refine blk_drewN ?_ _ | refine blk_drew ?_ | refine blk_alloc ?_ _)); refine blk_far ?_ NB226_232.out _; (with_reducible repeat (first | refine blk_drewN ?_ _ | refine blk_drew ?_ | refine blk_alloc ?_ _)); exact BK226.out⟩, ⟨by (with_reducible repeat (first | refine blk_drewN ?_ _ | refine blk_drew ?_ | refine blk_alloc ?_ _)); refine blk_put (cs := #[.bool t227, .bool false, .bool false, .int .i64 t230, .int .i64 0]) ?_ 4 _ rfl; (with_reducible repeat (first | refine blk_drewN ?_ _ | refine blk_drew ?_ | refine blk_alloc ?_ _)); refine blk_put (cs := #[.bool t227, .bool false, .bool false, .int .i64 0, .int .i64 0]) ?_ 3 _ rfl; (with_reducible repeat (first | refine blk_drewN ?_ _ | refine blk_drew ?_ | refine blk_alloc ?_ _)); refine blk_put (cs := #[.bool t227, .bool false, .bool false, .int .i64 0, .int .i64 0]) ?_ 2 _ rfl; (with_reducible repeat (first | refine blk_drewN ?_ _ | refine blk_drew ?_ | refine blk_alloc ?_ _)); refine blk_put (cs := #[.bool t227, .bool false, .bool false, .int .i64 0, .int .i64 0]) ?_ 1 _ rfl; (with_reducible repeat (first | refine blk_drewN ?_ _ | refine blk_drew ?_ | refine blk_alloc ?_ _)); refine blk_put (cs := #[.bool false, .bool false, .bool false, .int .i64 0, .int .i64 0]) ?_ 0 _ rfl; (with_reducible repeat (first | refine blk_drewN ?_ _ | refine blk_drew ?_ | refine blk_alloc ?_ _)); exact BK232.out⟩, ⟨by repeat (first | (with_reducible first | exact HB.out | apply below_alloc | apply pw_below_drewN | apply below_drew1 | refine below_set ?_ GE226.out | refine below_set ?_ GE232.out) | exact HB.out)⟩⟩
        · replace c21 := Bool.eq_false_iff.mpr c21
          subst c21
          have H1 : (if t228 = true then (hearthref1_FloDiv.j0 k (t221 != t227) false t221 false false t224 t225 t227 t228 false t230 t231) else (if t224 = 0 then (hearthref1_FloDiv.j0 k (t221 != t227) (t230 == 0) t221 false false t224 t225 t227 t228 false t230 t231) else (hearthref1_FloDiv.j0 k (t221 != t227) false t221 false false t224 t225 t227 t228 false t230 t231))) = some r := by rw [if_neg (show ¬ (false = true) by decide)] at H; exact H
          clear H
          have H := H1
          clear H1
          by_cases c29 : t228 = true
          · subst c29
            have H1 : (hearthref1_FloDiv.j0 k (t221 != t227) false t221 false false t224 t225 t227 true false t230 t231) = some r := by rw [if_pos rfl] at H; exact H
            clear H
            have H := H1
            clear H1
            have H' := Aside0.mk H
            clear H
            have hnb30 := NB226_232.out
            have hnc30 := NB232_226.out
            have hcz31_0 : w10.cell? ⟨gb226, 0, none⟩ = some (.bool t221) := (blk_cell BK226.out 0).trans rfl
            have hcz31_1 : w10.cell? ⟨gb226, 1, none⟩ = some (.bool false) := (blk_cell BK226.out 1).trans rfl
            have hcz31_2 : w10.cell? ⟨gb226, 2, none⟩ = some (.bool false) := (blk_cell BK226.out 2).trans rfl
            have hcz31_3 : w10.cell? ⟨gb226, 3, none⟩ = some (.int .i64 t224) := (blk_cell BK226.out 3).trans rfl
            have hcz31_4 : w10.cell? ⟨gb226, 4, none⟩ = some (.int .i64 t225) := (blk_cell BK226.out 4).trans rfl
            have hfz31_0 := blk_frozen BK226.out 0
            have hfz31_1 := blk_frozen BK226.out 1
            have hfz31_2 := blk_frozen BK226.out 2
            have hfz31_3 := blk_frozen BK226.out 3
            have hfz31_4 := blk_frozen BK226.out 4
            have hcz32_0 : w10.cell? ⟨gb232, 0, none⟩ = some (.bool false) := (blk_cell BK232.out 0).trans rfl
            have hcz32_1 : w10.cell? ⟨gb232, 1, none⟩ = some (.bool false) := (blk_cell BK232.out 1).trans rfl
            have hcz32_2 : w10.cell? ⟨gb232, 2, none⟩ = some (.bool false) := (blk_cell BK232.out 2).trans rfl
            have hcz32_3 : w10.cell? ⟨gb232, 3, none⟩ = some (.int .i64 0) := (blk_cell BK232.out 3).trans rfl
            have hcz32_4 : w10.cell? ⟨gb232, 4, none⟩ = some (.int .i64 0) := (blk_cell BK232.out 4).trans rfl
            have hfz32_0 := blk_frozen BK232.out 0
            have hfz32_1 := blk_frozen BK232.out 1
            have hfz32_2 := blk_frozen BK232.out 2
            have hfz32_3 := blk_frozen BK232.out 3
            have hfz32_4 := blk_frozen BK232.out 4
            go_wp2
            go_meet
            case rel => exact ⟨_, (false), (by first | rfl | (simp; done) | (simp [*]; done)), H', ⟨by first | omega | exact Nat.le_refl _⟩, ⟨by (with_reducible repeat (first | refine blk_drewN ?_ _ | refine blk_drew ?_ | refine blk_alloc ?_ _)); refine blk_far ?_ NB226_232.out _; (with_reducible repeat (first | refine blk_drewN ?_ _ | refine blk_drew ?_ | refine blk_alloc ?_ _)); refine blk_far ?_ NB226_232.out _; (with_reducible repeat (first | refine blk_drewN ?_ _ | refine blk_drew ?_ | refine blk_alloc ?_ _)); refine blk_far ?_ NB226_232.out _; (with_reducible repeat (first | refine blk_drewN ?_ _ | refine blk_drew ?_ | refine blk_alloc ?_ _)); refine blk_far ?_ NB226_232.out _; (with_reducible repeat (first | refine blk_drewN ?_ _ | refine blk_drew ?_ | refine blk_alloc ?_ _)); refine blk_far ?_ NB226_232.out _; (with_reducible repeat (first | refine blk_drewN ?_ _ | refine blk_drew ?_ | refine blk_alloc ?_ _)); exact BK226.out⟩, ⟨by (with_reducible repeat (first | refine blk_drewN ?_ _ | refine blk_drew ?_ | refine blk_alloc ?_ _)); refine blk_put (cs := #[.bool t227, .bool true, .bool false, .int .i64 t230, .int .i64 0]) ?_ 4 _ rfl; (with_reducible repeat (first | refine blk_drewN ?_ _ | refine blk_drew ?_ | refine blk_alloc ?_ _)); refine blk_put (cs := #[.bool t227, .bool true, .bool false, .int .i64 0, .int .i64 0]) ?_ 3 _ rfl; (with_reducible repeat (first | refine blk_drewN ?_ _ | refine blk_drew ?_ | refine blk_alloc ?_ _)); refine blk_put (cs := #[.bool t227, .bool true, .bool false, .int .i64 0, .int .i64 0]) ?_ 2 _ rfl; (with_reducible repeat (first | refine blk_drewN ?_ _ | refine blk_drew ?_ | refine blk_alloc ?_ _)); refine blk_put (cs := #[.bool t227, .bool false, .bool false, .int .i64 0, .int .i64 0]) ?_ 1 _ rfl; (with_reducible repeat (first | refine blk_drewN ?_ _ | refine blk_drew ?_ | refine blk_alloc ?_ _)); refine blk_put (cs := #[.bool false, .bool false, .bool false, .int .i64 0, .int .i64 0]) ?_ 0 _ rfl; (with_reducible repeat (first | refine blk_drewN ?_ _ | refine blk_drew ?_ | refine blk_alloc ?_ _)); exact BK232.out⟩, ⟨by repeat (first | (with_reducible first | exact HB.out | apply below_alloc | apply pw_below_drewN | apply below_drew1 | refine below_set ?_ GE226.out | refine below_set ?_ GE232.out) | exact HB.out)⟩⟩
          · replace c29 := Bool.eq_false_iff.mpr c29
            subst c29
            have H1 : (if t224 = 0 then (hearthref1_FloDiv.j0 k (t221 != t227) (t230 == 0) t221 false false t224 t225 t227 false false t230 t231) else (hearthref1_FloDiv.j0 k (t221 != t227) false t221 false false t224 t225 t227 false false t230 t231)) = some r := by rw [if_neg (show ¬ (false = true) by decide)] at H; exact H
            clear H
            have H := H1
            clear H1
            by_cases c33 : t224 = 0
            · rw [if_pos c33] at H
              have c33b0 : (t224 == 0) = true := beq_iff_eq.mpr c33
              have c33b1 : (t224 != 0) = false := bne_eq_false_iff_eq.mpr c33
              clear c33
              (first | rw [c33b0] | (simp only [i64_w, i32_w]; rw [c33b0]) | skip)
              have H' := Aside0.mk H
              clear H
              have hnb34 := NB226_232.out
              have hnc34 := NB232_226.out
              have hcz35_0 : w10.cell? ⟨gb226, 0, none⟩ = some (.bool t221) := (blk_cell BK226.out 0).trans rfl
              have hcz35_1 : w10.cell? ⟨gb226, 1, none⟩ = some (.bool false) := (blk_cell BK226.out 1).trans rfl
              have hcz35_2 : w10.cell? ⟨gb226, 2, none⟩ = some (.bool false) := (blk_cell BK226.out 2).trans rfl
              have hcz35_3 : w10.cell? ⟨gb226, 3, none⟩ = some (.int .i64 t224) := (blk_cell BK226.out 3).trans rfl
              have hcz35_4 : w10.cell? ⟨gb226, 4, none⟩ = some (.int .i64 t225) := (blk_cell BK226.out 4).trans rfl
              have hfz35_0 := blk_frozen BK226.out 0
              have hfz35_1 := blk_frozen BK226.out 1
              have hfz35_2 := blk_frozen BK226.out 2
              have hfz35_3 := blk_frozen BK226.out 3
              have hfz35_4 := blk_frozen BK226.out 4
              have hcz36_0 : w10.cell? ⟨gb232, 0, none⟩ = some (.bool false) := (blk_cell BK232.out 0).trans rfl
              have hcz36_1 : w10.cell? ⟨gb232, 1, none⟩ = some (.bool false) := (blk_cell BK232.out 1).trans rfl
              have hcz36_2 : w10.cell? ⟨gb232, 2, none⟩ = some (.bool false) := (blk_cell BK232.out 2).trans rfl
              have hcz36_3 : w10.cell? ⟨gb232, 3, none⟩ = some (.int .i64 0) := (blk_cell BK232.out 3).trans rfl
              have hcz36_4 : w10.cell? ⟨gb232, 4, none⟩ = some (.int .i64 0) := (blk_cell BK232.out 4).trans rfl
              have hfz36_0 := blk_frozen BK232.out 0
              have hfz36_1 := blk_frozen BK232.out 1
              have hfz36_2 := blk_frozen BK232.out 2
              have hfz36_3 := blk_frozen BK232.out 3
              have hfz36_4 := blk_frozen BK232.out 4
              go_wp2
              go_meet
              case rel => exact ⟨_, ((t230 == 0)), (by first | rfl | (simp; done) | (simp [*]; done)), H', ⟨by first | omega | exact Nat.le_refl _⟩, ⟨by (with_reducible repeat (first | refine blk_drewN ?_ _ | refine blk_drew ?_ | refine blk_alloc ?_ _)); refine blk_far ?_ NB226_232.out _; (with_reducible repeat (first | refine blk_drewN ?_ _ | refine blk_drew ?_ | refine blk_alloc ?_ _)); refine blk_far ?_ NB226_232.out _; (with_reducible repeat (first | refine blk_drewN ?_ _ | refine blk_drew ?_ | refine blk_alloc ?_ _)); refine blk_far ?_ NB226_232.out _; (with_reducible repeat (first | refine blk_drewN ?_ _ | refine blk_drew ?_ | refine blk_alloc ?_ _)); refine blk_far ?_ NB226_232.out _; (with_reducible repeat (first | refine blk_drewN ?_ _ | refine blk_drew ?_ | refine blk_alloc ?_ _)); refine blk_far ?_ NB226_232.out _; (with_reducible repeat (first | refine blk_drewN ?_ _ | refine blk_drew ?_ | refine blk_alloc ?_ _)); exact BK226.out⟩, ⟨by (with_reducible repeat (first | refine blk_drewN ?_ _ | refine blk_drew ?_ | refine blk_alloc ?_ _)); refine blk_put (cs := #[.bool t227, .bool false, .bool false, .int .i64 t230, .int .i64 0]) ?_ 4 _ rfl; (with_reducible repeat (first | refine blk_drewN ?_ _ | refine blk_drew ?_ | refine blk_alloc ?_ _)); refine blk_put (cs := #[.bool t227, .bool false, .bool false, .int .i64 0, .int .i64 0]) ?_ 3 _ rfl; (with_reducible repeat (first | refine blk_drewN ?_ _ | refine blk_drew ?_ | refine blk_alloc ?_ _)); refine blk_put (cs := #[.bool t227, .bool false, .bool false, .int .i64 0, .int .i64 0]) ?_ 2 _ rfl; (with_reducible repeat (first | refine blk_drewN ?_ _ | refine blk_drew ?_ | refine blk_alloc ?_ _)); refine blk_put (cs := #[.bool t227, .bool false, .bool false, .int .i64 0, .int .i64 0]) ?_ 1 _ rfl; (with_reducible repeat (first | refine blk_drewN ?_ _ | refine blk_drew ?_ | refine blk_alloc ?_ _)); refine blk_put (cs := #[.bool false, .bool false, .bool false, .int .i64 0, .int .i64 0]) ?_ 0 _ rfl; (with_reducible repeat (first | refine blk_drewN ?_ _ | refine blk_drew ?_ | refine blk_alloc ?_ _)); exact BK232.out⟩, ⟨by repeat (first | (with_reducible first | exact HB.out | apply below_alloc | apply pw_below_drewN | apply below_drew1 | refine below_set ?_ GE226.out | refine below_set ?_ GE232.out) | exact HB.out)⟩⟩
            · rw [if_neg c33] at H
              have c33b0 : (t224 == 0) = false := beq_eq_false_iff_ne.mpr c33
              have c33b1 : (t224 != 0) = true := bne_iff_ne.mpr c33
              (first | rw [c33b0] | (simp only [i64_w, i32_w]; rw [c33b0]) | skip)
              have H' := Aside0.mk H
              clear H
              have hnb37 := NB226_232.out
              have hnc37 := NB232_226.out
              have hcz38_0 : w10.cell? ⟨gb226, 0, none⟩ = some (.bool t221) := (blk_cell BK226.out 0).trans rfl
              have hcz38_1 : w10.cell? ⟨gb226, 1, none⟩ = some (.bool false) := (blk_cell BK226.out 1).trans rfl
              have hcz38_2 : w10.cell? ⟨gb226, 2, none⟩ = some (.bool false) := (blk_cell BK226.out 2).trans rfl
              have hcz38_3 : w10.cell? ⟨gb226, 3, none⟩ = some (.int .i64 t224) := (blk_cell BK226.out 3).trans rfl
              have hcz38_4 : w10.cell? ⟨gb226, 4, none⟩ = some (.int .i64 t225) := (blk_cell BK226.out 4).trans rfl
              have hfz38_0 := blk_frozen BK226.out 0
              have hfz38_1 := blk_frozen BK226.out 1
              have hfz38_2 := blk_frozen BK226.out 2
              have hfz38_3 := blk_frozen BK226.out 3
              have hfz38_4 := blk_frozen BK226.out 4
              have hcz39_0 : w10.cell? ⟨gb232, 0, none⟩ = some (.bool false) := (blk_cell BK232.out 0).trans rfl
              have hcz39_1 : w10.cell? ⟨gb232, 1, none⟩ = some (.bool false) := (blk_cell BK232.out 1).trans rfl
              have hcz39_2 : w10.cell? ⟨gb232, 2, none⟩ = some (.bool false) := (blk_cell BK232.out 2).trans rfl
              have hcz39_3 : w10.cell? ⟨gb232, 3, none⟩ = some (.int .i64 0) := (blk_cell BK232.out 3).trans rfl
              have hcz39_4 : w10.cell? ⟨gb232, 4, none⟩ = some (.int .i64 0) := (blk_cell BK232.out 4).trans rfl
              have hfz39_0 := blk_frozen BK232.out 0
              have hfz39_1 := blk_frozen BK232.out 1
              have hfz39_2 := blk_frozen BK232.out 2
              have hfz39_3 := blk_frozen BK232.out 3
              have hfz39_4 := blk_frozen BK232.out 4
              go_wp2
              go_meet
              case rel => exact ⟨_, (false), (by first | rfl | (simp; done) | (simp [*]; done)), H', ⟨by first | omega | exact Nat.le_refl _⟩, ⟨by (with_reducible repeat (first | refine blk_drewN ?_ _ | refine blk_drew ?_ | refine blk_alloc ?_ _)); refine blk_far ?_ NB226_232.out _; (with_reducible repeat (first | refine blk_drewN ?_ _ | refine blk_drew ?_ | refine blk_alloc ?_ _)); refine blk_far ?_ NB226_232.out _; (with_reducible repeat (first | refine blk_drewN ?_ _ | refine blk_drew ?_ | refine blk_alloc ?_ _)); refine blk_far ?_ NB226_232.out _; (with_reducible repeat (first | refine blk_drewN ?_ _ | refine blk_drew ?_ | refine blk_alloc ?_ _)); refine blk_far ?_ NB226_232.out _; (with_reducible repeat (first | refine blk_drewN ?_ _ | refine blk_drew ?_ | refine blk_alloc ?_ _)); refine blk_far ?_ NB226_232.out _; (with_reducible repeat (first | refine blk_drewN ?_ _ | refine blk_drew ?_ | refine blk_alloc ?_ _)); exact BK226.out⟩, ⟨by (with_reducible repeat (first | refine blk_drewN ?_ _ | refine blk_drew ?_ | refine blk_alloc ?_ _)); refine blk_put (cs := #[.bool t227, .bool false, .bool false, .int .i64 t230, .int .i64 0]) ?_ 4 _ rfl; (with_reducible repeat (first | refine blk_drewN ?_ _ | refine blk_drew ?_ | refine blk_alloc ?_ _)); refine blk_put (cs := #[.bool t227, .bool false, .bool false, .int .i64 0, .int .i64 0]) ?_ 3 _ rfl; (with_reducible repeat (first | refine blk_drewN ?_ _ | refine blk_drew ?_ | refine blk_alloc ?_ _)); refine blk_put (cs := #[.bool t227, .bool false, .bool false, .int .i64 0, .int .i64 0]) ?_ 2 _ rfl; (with_reducible repeat (first | refine blk_drewN ?_ _ | refine blk_drew ?_ | refine blk_alloc ?_ _)); refine blk_put (cs := #[.bool t227, .bool false, .bool false, .int .i64 0, .int .i64 0]) ?_ 1 _ rfl; (with_reducible repeat (first | refine blk_drewN ?_ _ | refine blk_drew ?_ | refine blk_alloc ?_ _)); refine blk_put (cs := #[.bool false, .bool false, .bool false, .int .i64 0, .int .i64 0]) ?_ 0 _ rfl; (with_reducible repeat (first | refine blk_drewN ?_ _ | refine blk_drew ?_ | refine blk_alloc ?_ _)); exact BK232.out⟩, ⟨by repeat (first | (with_reducible first | exact HB.out | apply below_alloc | apply pw_below_drewN | apply below_drew1 | refine below_set ?_ GE226.out | refine below_set ?_ GE232.out) | exact HB.out)⟩⟩
  case rest =>
    clear HC5
    try clear c1
    try clear c2
    try clear p2
    try clear c3
    try clear c5
    try clear c11
    try clear c14
    try clear c15
    try clear c17
    try clear c18
    try clear c21
    try clear c22
    try clear c23
    try clear c26
    try clear c29
    try clear c30
    try clear c33
    try clear c33b0
    try clear c33b1
    try clear c34
    try clear c37
    try clear hcz12_0
    try clear hcz12_1
    try clear hcz12_2
    try clear hcz12_3
    try clear hcz12_4
    try clear hcz13_0
    try clear hcz13_1
    try clear hcz13_2
    try clear hcz13_3
    try clear hcz13_4
    try clear hcz16_0
    try clear hcz16_1
    try clear hcz16_2
    try clear hcz16_3
    try clear hcz16_4
    try clear hcz19_0
    try clear hcz19_1
    try clear hcz19_2
    try clear hcz19_3
    try clear hcz19_4
    try clear hcz20_0
    try clear hcz20_1
    try clear hcz20_2
    try clear hcz20_3
    try clear hcz20_4
    try clear hcz24_0
    try clear hcz24_1
    try clear hcz24_2
    try clear hcz24_3
    try clear hcz24_4
    try clear hcz25_0
    try clear hcz25_1
    try clear hcz25_2
    try clear hcz25_3
    try clear hcz25_4
    try clear hcz27_0
    try clear hcz27_1
    try clear hcz27_2
    try clear hcz27_3
    try clear hcz27_4
    try clear hcz28_0
    try clear hcz28_1
    try clear hcz28_2
    try clear hcz28_3
    try clear hcz28_4
    try clear hcz31_0
    try clear hcz31_1
    try clear hcz31_2
    try clear hcz31_3
    try clear hcz31_4
    try clear hcz32_0
    try clear hcz32_1
    try clear hcz32_2
    try clear hcz32_3
    try clear hcz32_4
    try clear hcz35_0
    try clear hcz35_1
    try clear hcz35_2
    try clear hcz35_3
    try clear hcz35_4
    try clear hcz36_0
    try clear hcz36_1
    try clear hcz36_2
    try clear hcz36_3
    try clear hcz36_4
    try clear hcz38_0
    try clear hcz38_1
    try clear hcz38_2
    try clear hcz38_3
    try clear hcz38_4
    try clear hcz39_0
    try clear hcz39_1
    try clear hcz39_2
    try clear hcz39_3
    try clear hcz39_4
    try clear hcz8_0
    try clear hcz8_1
    try clear hcz8_2
    try clear hcz8_3
    try clear hcz8_4
    try clear hfz12_0
    try clear hfz12_1
    try clear hfz12_2
    try clear hfz12_3
    try clear hfz12_4
    try clear hfz13_0
    try clear hfz13_1
    try clear hfz13_2
    try clear hfz13_3
    try clear hfz13_4
    try clear hfz16_0
    try clear hfz16_1
    try clear hfz16_2
    try clear hfz16_3
    try clear hfz16_4
    try clear hfz19_0
    try clear hfz19_1
    try clear hfz19_2
    try clear hfz19_3
    try clear hfz19_4
    try clear hfz20_0
    try clear hfz20_1
    try clear hfz20_2
    try clear hfz20_3
    try clear hfz20_4
    try clear hfz24_0
    try clear hfz24_1
    try clear hfz24_2
    try clear hfz24_3
    try clear hfz24_4
    try clear hfz25_0
    try clear hfz25_1
    try clear hfz25_2
    try clear hfz25_3
    try clear hfz25_4
    try clear hfz27_0
    try clear hfz27_1
    try clear hfz27_2
    try clear hfz27_3
    try clear hfz27_4
    try clear hfz28_0
    try clear hfz28_1
    try clear hfz28_2
    try clear hfz28_3
    try clear hfz28_4
    try clear hfz31_0
    try clear hfz31_1
    try clear hfz31_2
    try clear hfz31_3
    try clear hfz31_4
    try clear hfz32_0
    try clear hfz32_1
    try clear hfz32_2
    try clear hfz32_3
    try clear hfz32_4
    try clear hfz35_0
    try clear hfz35_1
    try clear hfz35_2
    try clear hfz35_3
    try clear hfz35_4
    try clear hfz36_0
    try clear hfz36_1
    try clear hfz36_2
    try clear hfz36_3
    try clear hfz36_4
    try clear hfz38_0
    try clear hfz38_1
    try clear hfz38_2
    try clear hfz38_3
    try clear hfz38_4
    try clear hfz39_0
    try clear hfz39_1
    try clear hfz39_2
    try clear hfz39_3
    try clear hfz39_4
    try clear hfz8_0
    try clear hfz8_1
    try clear hfz8_2
    try clear hfz8_3
    try clear hfz8_4
    obtain ⟨kq, x21_4, rfl, HA, HJ4, BK226, BK232, HB⟩ := hcut
    cases kq with
    | zero => exact absurd HA.out (by simp [hearthref1_FloDiv.j0])
    | succ kj4 =>
      have H := HA.out
      clear HA
      simp only [hearthref1_FloDiv.j0] at H
      by_cases c40 : x21_4 = true
      · subst c40
        have H1 : (some 9221120237041090561) = some r := by rw [if_pos rfl] at H; exact H
        clear H
        have H := H1
        clear H1
        obtain rfl := Option.some.inj H
        go_wp2
        go_ret
        exact ⟨by first | rfl | (simp [errW_none, errW_some] <;> rfl) | (simp [*, errW_none, errW_some] <;> rfl), by repeat (first | (with_reducible first | exact HB.out | apply below_alloc | apply pw_below_drewN | apply below_drew1 | refine below_set ?_ GE226.out | refine below_set ?_ GE232.out) | exact HB.out)⟩
      · replace c40 := Bool.eq_false_iff.mpr c40
        subst c40
        have H1 : (if t222 = true then (hearthref1_FloDiv.j1 kj4 (t221 != t227) true t221 t222 t223 t224 t225 t227 t228 t229 t230 t231) else (if t228 = true then (hearthref1_FloDiv.j1 kj4 (t221 != t227) false t221 t222 t223 t224 t225 t227 t228 t229 t230 t231) else (hearthref1_FloDiv.j1 kj4 (t221 != t227) (t230 == 0) t221 t222 t223 t224 t225 t227 t228 t229 t230 t231))) = some r := by rw [if_neg (show ¬ (false = true) by decide)] at H; exact H
        clear H
        have H := H1
        clear H1
        have HC41 := Aside0.mk H
        clear H
        go_upto_region 6 with (fail)
        go_cut [56] (fun v56 wc => ∃ (kq : Nat) (x56_40 : Bool), v56 = .bool x56_40 ∧ Aside0 (hearthref1_FloDiv.j1 kq (t221 != t227) x56_40 t221 t222 t223 t224 t225 t227 t228 t229 t230 t231 = some r) ∧ Aside0 (kq ≤ kj4) ∧ Aside0 (wc.heap[gb226]? = some (.cells #[.bool t221, .bool t222, .bool t223, .int .i64 t224, .int .i64 t225] 40 (0, 0))) ∧ Aside0 (wc.heap[gb232]? = some (.cells #[.bool t227, .bool t228, .bool t229, .int .i64 t230, .int .i64 t231] 40 (0, 0))) ∧ Aside0 (Below w.heap.size w wc))
        case first =>
          have H := HC41.out
          clear HC41
          by_cases c42 : t222 = true
          · subst c42
            have H1 : (hearthref1_FloDiv.j1 kj4 (t221 != t227) true t221 true t223 t224 t225 t227 t228 t229 t230 t231) = some r := by rw [if_pos rfl] at H; exact H
            clear H
            have H := H1
            clear H1
            have H' := Aside0.mk H
            clear H
            have hnb43 := NB226_232.out
            have hnc43 := NB232_226.out
            have hcz44_0 : wc.cell? ⟨gb226, 0, none⟩ = some (.bool t221) := (blk_cell BK226.out 0).trans rfl
            have hcz44_1 : wc.cell? ⟨gb226, 1, none⟩ = some (.bool true) := (blk_cell BK226.out 1).trans rfl
            have hcz44_2 : wc.cell? ⟨gb226, 2, none⟩ = some (.bool t223) := (blk_cell BK226.out 2).trans rfl
            have hcz44_3 : wc.cell? ⟨gb226, 3, none⟩ = some (.int .i64 t224) := (blk_cell BK226.out 3).trans rfl
            have hcz44_4 : wc.cell? ⟨gb226, 4, none⟩ = some (.int .i64 t225) := (blk_cell BK226.out 4).trans rfl
            have hfz44_0 := blk_frozen BK226.out 0
            have hfz44_1 := blk_frozen BK226.out 1
            have hfz44_2 := blk_frozen BK226.out 2
            have hfz44_3 := blk_frozen BK226.out 3
            have hfz44_4 := blk_frozen BK226.out 4
            go_wp2
            go_meet
            case rel => exact ⟨_, (true), (by first | rfl | (simp; done) | (simp [*]; done)), H', ⟨by have := HJ4.out; first | omega | exact Nat.le_refl _⟩, ⟨by (with_reducible repeat (first | refine blk_drewN ?_ _ | refine blk_drew ?_ | refine blk_alloc ?_ _)); exact BK226.out⟩, ⟨by (with_reducible repeat (first | refine blk_drewN ?_ _ | refine blk_drew ?_ | refine blk_alloc ?_ _)); exact BK232.out⟩, ⟨by repeat (first | (with_reducible first | exact HB.out | apply below_alloc | apply pw_below_drewN | apply below_drew1 | refine below_set ?_ GE226.out | refine below_set ?_ GE232.out) | exact HB.out)⟩⟩
          · replace c42 := Bool.eq_false_iff.mpr c42
            subst c42
            have H1 : (if t228 = true then (hearthref1_FloDiv.j1 kj4 (t221 != t227) false t221 false t223 t224 t225 t227 t228 t229 t230 t231) else (hearthref1_FloDiv.j1 kj4 (t221 != t227) (t230 == 0) t221 false t223 t224 t225 t227 t228 t229 t230 t231)) = some r := by rw [if_neg (show ¬ (false = true) by decide)] at H; exact H
            clear H
            have H := H1
            clear H1
            by_cases c45 : t228 = true
            · subst c45
              have H1 : (hearthref1_FloDiv.j1 kj4 (t221 != t227) false t221 false t223 t224 t225 t227 true t229 t230 t231) = some r := by rw [if_pos rfl] at H; exact H
              clear H
              have H := H1
              clear H1
              have H' := Aside0.mk H
              clear H
              have hnb46 := NB226_232.out
              have hnc46 := NB232_226.out
              have hcz47_0 : wc.cell? ⟨gb226, 0, none⟩ = some (.bool t221) := (blk_cell BK226.out 0).trans rfl
              have hcz47_1 : wc.cell? ⟨gb226, 1, none⟩ = some (.bool false) := (blk_cell BK226.out 1).trans rfl
              have hcz47_2 : wc.cell? ⟨gb226, 2, none⟩ = some (.bool t223) := (blk_cell BK226.out 2).trans rfl
              have hcz47_3 : wc.cell? ⟨gb226, 3, none⟩ = some (.int .i64 t224) := (blk_cell BK226.out 3).trans rfl
              have hcz47_4 : wc.cell? ⟨gb226, 4, none⟩ = some (.int .i64 t225) := (blk_cell BK226.out 4).trans rfl
              have hfz47_0 := blk_frozen BK226.out 0
              have hfz47_1 := blk_frozen BK226.out 1
              have hfz47_2 := blk_frozen BK226.out 2
              have hfz47_3 := blk_frozen BK226.out 3
              have hfz47_4 := blk_frozen BK226.out 4
              have hcz48_0 : wc.cell? ⟨gb232, 0, none⟩ = some (.bool t227) := (blk_cell BK232.out 0).trans rfl
              have hcz48_1 : wc.cell? ⟨gb232, 1, none⟩ = some (.bool true) := (blk_cell BK232.out 1).trans rfl
              have hcz48_2 : wc.cell? ⟨gb232, 2, none⟩ = some (.bool t229) := (blk_cell BK232.out 2).trans rfl
              have hcz48_3 : wc.cell? ⟨gb232, 3, none⟩ = some (.int .i64 t230) := (blk_cell BK232.out 3).trans rfl
              have hcz48_4 : wc.cell? ⟨gb232, 4, none⟩ = some (.int .i64 t231) := (blk_cell BK232.out 4).trans rfl
              have hfz48_0 := blk_frozen BK232.out 0
              have hfz48_1 := blk_frozen BK232.out 1
              have hfz48_2 := blk_frozen BK232.out 2
              have hfz48_3 := blk_frozen BK232.out 3
              have hfz48_4 := blk_frozen BK232.out 4
              go_wp2
              go_meet
              case rel => exact ⟨_, (false), (by first | rfl | (simp; done) | (simp [*]; done)), H', ⟨by have := HJ4.out; first | omega | exact Nat.le_refl _⟩, ⟨by (with_reducible repeat (first | refine blk_drewN ?_ _ | refine blk_drew ?_ | refine blk_alloc ?_ _)); exact BK226.out⟩, ⟨by (with_reducible repeat (first | refine blk_drewN ?_ _ | refine blk_drew ?_ | refine blk_alloc ?_ _)); exact BK232.out⟩, ⟨by repeat (first | (with_reducible first | exact HB.out | apply below_alloc | apply pw_below_drewN | apply below_drew1 | refine below_set ?_ GE226.out | refine below_set ?_ GE232.out) | exact HB.out)⟩⟩
            · replace c45 := Bool.eq_false_iff.mpr c45
              subst c45
              have H1 : (hearthref1_FloDiv.j1 kj4 (t221 != t227) (t230 == 0) t221 false t223 t224 t225 t227 false t229 t230 t231) = some r := by rw [if_neg (show ¬ (false = true) by decide)] at H; exact H
              clear H
              have H := H1
              clear H1
              have H' := Aside0.mk H
              clear H
              have hnb49 := NB226_232.out
              have hnc49 := NB232_226.out
              have hcz50_0 : wc.cell? ⟨gb226, 0, none⟩ = some (.bool t221) := (blk_cell BK226.out 0).trans rfl
              have hcz50_1 : wc.cell? ⟨gb226, 1, none⟩ = some (.bool false) := (blk_cell BK226.out 1).trans rfl
              have hcz50_2 : wc.cell? ⟨gb226, 2, none⟩ = some (.bool t223) := (blk_cell BK226.out 2).trans rfl
              have hcz50_3 : wc.cell? ⟨gb226, 3, none⟩ = some (.int .i64 t224) := (blk_cell BK226.out 3).trans rfl
              have hcz50_4 : wc.cell? ⟨gb226, 4, none⟩ = some (.int .i64 t225) := (blk_cell BK226.out 4).trans rfl
              have hfz50_0 := blk_frozen BK226.out 0
              have hfz50_1 := blk_frozen BK226.out 1
              have hfz50_2 := blk_frozen BK226.out 2
              have hfz50_3 := blk_frozen BK226.out 3
              have hfz50_4 := blk_frozen BK226.out 4
              have hcz51_0 : wc.cell? ⟨gb232, 0, none⟩ = some (.bool t227) := (blk_cell BK232.out 0).trans rfl
              have hcz51_1 : wc.cell? ⟨gb232, 1, none⟩ = some (.bool false) := (blk_cell BK232.out 1).trans rfl
              have hcz51_2 : wc.cell? ⟨gb232, 2, none⟩ = some (.bool t229) := (blk_cell BK232.out 2).trans rfl
              have hcz51_3 : wc.cell? ⟨gb232, 3, none⟩ = some (.int .i64 t230) := (blk_cell BK232.out 3).trans rfl
              have hcz51_4 : wc.cell? ⟨gb232, 4, none⟩ = some (.int .i64 t231) := (blk_cell BK232.out 4).trans rfl
              have hfz51_0 := blk_frozen BK232.out 0
              have hfz51_1 := blk_frozen BK232.out 1
              have hfz51_2 := blk_frozen BK232.out 2
              have hfz51_3 := blk_frozen BK232.out 3
              have hfz51_4 := blk_frozen BK232.out 4
              go_wp2
              go_meet
              case rel => exact ⟨_, ((t230 == 0)), (by first | rfl | (simp; done) | (simp [*]; done)), H', ⟨by have := HJ4.out; first | omega | exact Nat.le_refl _⟩, ⟨by (with_reducible repeat (first | refine blk_drewN ?_ _ | refine blk_drew ?_ | refine blk_alloc ?_ _)); exact BK226.out⟩, ⟨by (with_reducible repeat (first | refine blk_drewN ?_ _ | refine blk_drew ?_ | refine blk_alloc ?_ _)); exact BK232.out⟩, ⟨by repeat (first | (with_reducible first | exact HB.out | apply below_alloc | apply pw_below_drewN | apply below_drew1 | refine below_set ?_ GE226.out | refine below_set ?_ GE232.out) | exact HB.out)⟩⟩
        case rest =>
          clear HC41
          try clear c1
          try clear c2
          try clear p2
          try clear c3
          try clear c4
          try clear c5
          try clear c11
          try clear c14
          try clear c15
          try clear c17
          try clear c18
          try clear c21
          try clear c22
          try clear c23
          try clear c26
          try clear c29
          try clear c30
          try clear c33
          try clear c33b0
          try clear c33b1
          try clear c34
          try clear c37
          try clear c40
          try clear c42
          try clear c43
          try clear c45
          try clear c46
          try clear c49
          try clear c51
          try clear hcz12_0
          try clear hcz12_1
          try clear hcz12_2
          try clear hcz12_3
          try clear hcz12_4
          try clear hcz13_0
          try clear hcz13_1
          try clear hcz13_2
          try clear hcz13_3
          try clear hcz13_4
          try clear hcz16_0
          try clear hcz16_1
          try clear hcz16_2
          try clear hcz16_3
          try clear hcz16_4
          try clear hcz19_0
          try clear hcz19_1
          try clear hcz19_2
          try clear hcz19_3
          try clear hcz19_4
          try clear hcz20_0
          try clear hcz20_1
          try clear hcz20_2
          try clear hcz20_3
          try clear hcz20_4
          try clear hcz24_0
          try clear hcz24_1
          try clear hcz24_2
          try clear hcz24_3
          try clear hcz24_4
          try clear hcz25_0
          try clear hcz25_1
          try clear hcz25_2
          try clear hcz25_3
          try clear hcz25_4
          try clear hcz27_0
          try clear hcz27_1
          try clear hcz27_2
          try clear hcz27_3
          try clear hcz27_4
          try clear hcz28_0
          try clear hcz28_1
          try clear hcz28_2
          try clear hcz28_3
          try clear hcz28_4
          try clear hcz31_0
          try clear hcz31_1
          try clear hcz31_2
          try clear hcz31_3
          try clear hcz31_4
          try clear hcz32_0
          try clear hcz32_1
          try clear hcz32_2
          try clear hcz32_3
          try clear hcz32_4
          try clear hcz35_0
          try clear hcz35_1
          try clear hcz35_2
          try clear hcz35_3
          try clear hcz35_4
          try clear hcz36_0
          try clear hcz36_1
          try clear hcz36_2
          try clear hcz36_3
          try clear hcz36_4
          try clear hcz38_0
          try clear hcz38_1
          try clear hcz38_2
          try clear hcz38_3
          try clear hcz38_4
          try clear hcz39_0
          try clear hcz39_1
          try clear hcz39_2
          try clear hcz39_3
          try clear hcz39_4
          try clear hcz44_0
          try clear hcz44_1
          try clear hcz44_2
          try clear hcz44_3
          try clear hcz44_4
          try clear hcz47_0
          try clear hcz47_1
          try clear hcz47_2
          try clear hcz47_3
          try clear hcz47_4
          try clear hcz48_0
          try clear hcz48_1
          try clear hcz48_2
          try clear hcz48_3
          try clear hcz48_4
          try clear hcz50_0
          try clear hcz50_1
          try clear hcz50_2
          try clear hcz50_3
          try clear hcz50_4
          try clear hcz51_0
          try clear hcz51_1
          try clear hcz51_2
          try clear hcz51_3
          try clear hcz51_4
          try clear hcz8_0
          try clear hcz8_1
          try clear hcz8_2
          try clear hcz8_3
          try clear hcz8_4
          try clear hfz12_0
          try clear hfz12_1
          try clear hfz12_2
          try clear hfz12_3
          try clear hfz12_4
          try clear hfz13_0
          try clear hfz13_1
          try clear hfz13_2
          try clear hfz13_3
          try clear hfz13_4
          try clear hfz16_0
          try clear hfz16_1
          try clear hfz16_2
          try clear hfz16_3
          try clear hfz16_4
          try clear hfz19_0
          try clear hfz19_1
          try clear hfz19_2
          try clear hfz19_3
          try clear hfz19_4
          try clear hfz20_0
          try clear hfz20_1
          try clear hfz20_2
          try clear hfz20_3
          try clear hfz20_4
          try clear hfz24_0
          try clear hfz24_1
          try clear hfz24_2
          try clear hfz24_3
          try clear hfz24_4
          try clear hfz25_0
          try clear hfz25_1
          try clear hfz25_2
          try clear hfz25_3
          try clear hfz25_4
          try clear hfz27_0
          try clear hfz27_1
          try clear hfz27_2
          try clear hfz27_3
          try clear hfz27_4
          try clear hfz28_0
          try clear hfz28_1
          try clear hfz28_2
          try clear hfz28_3
          try clear hfz28_4
          try clear hfz31_0
          try clear hfz31_1
          try clear hfz31_2
          try clear hfz31_3
          try clear hfz31_4
          try clear hfz32_0
          try clear hfz32_1
          try clear hfz32_2
          try clear hfz32_3
          try clear hfz32_4
          try clear hfz35_0
          try clear hfz35_1
          try clear hfz35_2
          try clear hfz35_3
          try clear hfz35_4
          try clear hfz36_0
          try clear hfz36_1
          try clear hfz36_2
          try clear hfz36_3
          try clear hfz36_4
          try clear hfz38_0
          try clear hfz38_1
          try clear hfz38_2
          try clear hfz38_3
          try clear hfz38_4
          try clear hfz39_0
          try clear hfz39_1
          try clear hfz39_2
          try clear hfz39_3
          try clear hfz39_4
          try clear hfz44_0
          try clear hfz44_1
          try clear hfz44_2
          try clear hfz44_3
          try clear hfz44_4
          try clear hfz47_0
          try clear hfz47_1
          try clear hfz47_2
          try clear hfz47_3
          try clear hfz47_4
          try clear hfz48_0
          try clear hfz48_1
          try clear hfz48_2
          try clear hfz48_3
          try clear hfz48_4
          try clear hfz50_0
          try clear hfz50_1
          try clear hfz50_2
          try clear hfz50_3
          try clear hfz50_4
          try clear hfz51_0
          try clear hfz51_1
          try clear hfz51_2
          try clear hfz51_3
          try clear hfz51_4
          try clear hfz8_0
          try clear hfz8_1
          try clear hfz8_2
          try clear hfz8_3
          try clear hfz8_4
          try clear p2
          obtain ⟨kq, x56_40, rfl, HA, HJ40, BK226, BK232, HB⟩ := hcut
          cases kq with
          | zero => exact absurd HA.out (by simp [hearthref1_FloDiv.j1])
          | succ kj40 =>
            have H := HA.out
            clear HA
            simp only [hearthref1_FloDiv.j1] at H
            by_cases c52 : x56_40 = true
            · subst c52
              have H1 : ((hearthref1_infinity.f (t221 != t227)).bind fun t233 => (some t233)) = some r := by rw [if_pos rfl] at H; exact H
              clear H
              have H := H1
              clear H1
              replace H := Option.bind_eq_some_iff.mp H
              obtain ⟨t233, A530, H⟩ := H
              replace H : (some t233) = some r := H
              have A53 := Aside0.mk A530
              clear A530
              obtain rfl := Option.some.inj H
              go_wp2_with (first | ((with_reducible refine gate_callee (f := 58) rfl ?_); refine goesL_ (some 70) rfl rfl Try.func58 (by kernel_rfl) rfl #[.bool (t221 != t227)] rfl (by (try simp only [List.map_toArray, List.map_cons, List.map_nil]); first | done | rfl | (simp only [List.length_drop, List.length_take]; rfl)) ?_; (with_reducible refine (hearthref1_infinity.calls (t221 != t227) t233 _ A53.out).mono ?_); rintro e w' ⟨rfl, ⟨nd, rfl⟩⟩; refine ⟨_, rfl, ?_⟩))
              go_ret
              exact ⟨by first | rfl | (simp [errW_none, errW_some] <;> rfl) | (simp [*, errW_none, errW_some] <;> rfl), by repeat (first | (with_reducible first | exact HB.out | apply below_alloc | apply pw_below_drewN | apply below_drew1 | refine below_set ?_ GE226.out | refine below_set ?_ GE232.out) | exact HB.out)⟩
            · replace c52 := Bool.eq_false_iff.mpr c52
              subst c52
              have H1 : (if t228 = true then ((hearthref1_signed.f (t221 != t227) 0).bind fun t234 => (some t234)) else ((hearthref1_list.f kj40 t224 120).bind fun t235 => (if 0 ≤ (t235.length : Int) then (if ((t235.length : Int) : Int).toNat ≤ 35184372088832 then (hearthref1_FloDiv.l0 kj40 (t221 != t227) t235 (List.replicate ((t235.length : Int) : Int).toNat 0) 0 (wrap64 ((t235.length : Int) - 1)) t221 t222 t223 t224 t225 t227 t228 t229 t230 t231) else (none)) else (none)))) = some r := by rw [if_neg (show ¬ (false = true) by decide)] at H; exact H
              clear H
              have H := H1
              clear H1
              by_cases c54 : t228 = true
              · subst c54
                have H1 : ((hearthref1_signed.f (t221 != t227) 0).bind fun t234 => (some t234)) = some r := by rw [if_pos rfl] at H; exact H
                clear H
                have H := H1
                clear H1
                replace H := Option.bind_eq_some_iff.mp H
                obtain ⟨t234, A550, H⟩ := H
                replace H : (some t234) = some r := H
                have A55 := Aside0.mk A550
                clear A550
                obtain rfl := Option.some.inj H
                have hnb56 := NB232_226.out
                have hnc56 := NB226_232.out
                have hcz57_0 : wc.cell? ⟨gb232, 0, none⟩ = some (.bool t227) := (blk_cell BK232.out 0).trans rfl
                have hcz57_1 : wc.cell? ⟨gb232, 1, none⟩ = some (.bool true) := (blk_cell BK232.out 1).trans rfl
                have hcz57_2 : wc.cell? ⟨gb232, 2, none⟩ = some (.bool t229) := (blk_cell BK232.out 2).trans rfl
                have hcz57_3 : wc.cell? ⟨gb232, 3, none⟩ = some (.int .i64 t230) := (blk_cell BK232.out 3).trans rfl
                have hcz57_4 : wc.cell? ⟨gb232, 4, none⟩ = some (.int .i64 t231) := (blk_cell BK232.out 4).trans rfl
                have hfz57_0 := blk_frozen BK232.out 0
                have hfz57_1 := blk_frozen BK232.out 1
                have hfz57_2 := blk_frozen BK232.out 2
                have hfz57_3 := blk_frozen BK232.out 3
                have hfz57_4 := blk_frozen BK232.out 4
                go_wp2_with (first | ((with_reducible refine gate_callee (f := 59) rfl ?_); refine goesL_ (some 75) rfl rfl Try.func59 (by kernel_rfl) rfl #[.bool (t221 != t227), .int .i64 0] rfl (by (try simp only [List.map_toArray, List.map_cons, List.map_nil]); first | done | rfl | (simp only [List.length_drop, List.length_take]; rfl)) ?_; (with_reducible refine (hearthref1_signed.calls (t221 != t227) 0 t234 _ A55.out).mono ?_); rintro e w' ⟨rfl, ⟨nd, rfl⟩⟩; refine ⟨_, rfl, ?_⟩))
                go_ret
                exact ⟨by first | rfl | (simp [errW_none, errW_some] <;> rfl) | (simp [*, errW_none, errW_some] <;> rfl), by repeat (first | (with_reducible first | exact HB.out | apply below_alloc | apply pw_below_drewN | apply below_drew1 | refine below_set ?_ GE226.out | refine below_set ?_ GE232.out) | exact HB.out)⟩
              · replace c54 := Bool.eq_false_iff.mpr c54
                subst c54
                have H1 : ((hearthref1_list.f kj40 t224 120).bind fun t235 => (if 0 ≤ (t235.length : Int) then (if ((t235.length : Int) : Int).toNat ≤ 35184372088832 then (hearthref1_FloDiv.l0 kj40 (t221 != t227) t235 (List.replicate ((t235.length : Int) : Int).toNat 0) 0 (wrap64 ((t235.length : Int) - 1)) t221 t222 t223 t224 t225 t227 false t229 t230 t231) else (none)) else (none))) = some r := by rw [if_neg (show ¬ (false = true) by decide)] at H; exact H
                clear H
                have H := H1
                clear H1
                replace H := Option.bind_eq_some_iff.mp H
                obtain ⟨t235, A580, H⟩ := H
                replace H : (if 0 ≤ (t235.length : Int) then (if ((t235.length : Int) : Int).toNat ≤ 35184372088832 then (hearthref1_FloDiv.l0 kj40 (t221 != t227) t235 (List.replicate ((t235.length : Int) : Int).toNat 0) 0 (wrap64 ((t235.length : Int) - 1)) t221 t222 t223 t224 t225 t227 false t229 t230 t231) else (none)) else (none)) = some r := H
                have A58 := Aside0.mk A580
                clear A580
                by_cases c59 : 0 ≤ (t235.length : Int)
                · rw [if_pos c59] at H
                  have c59b0 := eq_true c59
                  have c59b1 : decide (0 ≤ (t235.length : Int)) = true := decide_eq_true c59
                  clear c59
                  by_cases c60 : ((t235.length : Int) : Int).toNat ≤ 35184372088832
                  · rw [if_pos c60] at H
                    have c60b0 := eq_true c60
                    have c60b1 : decide (((t235.length : Int) : Int).toNat ≤ 35184372088832) = true := decide_eq_true c60
                    clear c60
                    obtain ⟨y238, hy238⟩ : ∃ y_ : List Int, y_ = (List.replicate ((t235.length : Int) : Int).toNat 0) := ⟨_, rfl⟩
                    replace H : (hearthref1_FloDiv.l0 kj40 (t221 != t227) t235 y238 0 (wrap64 ((t235.length : Int) - 1)) t221 t222 t223 t224 t225 t227 false t229 t230 t231) = some r := by first | (rw [hy238]; with_reducible exact H) | (have H2_ := (Option.bind_some _ _).symm.trans H; rw [hy238]; with_reducible exact H2_) | (have H2_ := (Option.bind_some _ _).symm.trans H; with_reducible exact H2_) | with_reducible exact H | (rw [hy238]; exact H) | exact H
                    have Ny238 := Aside0.mk hy238
                    clear hy238
                    have H' := Aside0.mk H
                    clear H
                    have hnb61 := NB232_226.out
                    have hnc61 := NB226_232.out
                    have hcz62_0 : wc.cell? ⟨gb232, 0, none⟩ = some (.bool t227) := (blk_cell BK232.out 0).trans rfl
                    have hcz62_1 : wc.cell? ⟨gb232, 1, none⟩ = some (.bool false) := (blk_cell BK232.out 1).trans rfl
                    have hcz62_2 : wc.cell? ⟨gb232, 2, none⟩ = some (.bool t229) := (blk_cell BK232.out 2).trans rfl
                    have hcz62_3 : wc.cell? ⟨gb232, 3, none⟩ = some (.int .i64 t230) := (blk_cell BK232.out 3).trans rfl
                    have hcz62_4 : wc.cell? ⟨gb232, 4, none⟩ = some (.int .i64 t231) := (blk_cell BK232.out 4).trans rfl
                    have hfz62_0 := blk_frozen BK232.out 0
                    have hfz62_1 := blk_frozen BK232.out 1
                    have hfz62_2 := blk_frozen BK232.out 2
                    have hfz62_3 := blk_frozen BK232.out 3
                    have hfz62_4 := blk_frozen BK232.out 4
                    have hcz63_0 : wc.cell? ⟨gb226, 0, none⟩ = some (.bool t221) := (blk_cell BK226.out 0).trans rfl
                    have hcz63_1 : wc.cell? ⟨gb226, 1, none⟩ = some (.bool t222) := (blk_cell BK226.out 1).trans rfl
                    have hcz63_2 : wc.cell? ⟨gb226, 2, none⟩ = some (.bool t223) := (blk_cell BK226.out 2).trans rfl
                    have hcz63_3 : wc.cell? ⟨gb226, 3, none⟩ = some (.int .i64 t224) := (blk_cell BK226.out 3).trans rfl
                    have hcz63_4 : wc.cell? ⟨gb226, 4, none⟩ = some (.int .i64 t225) := (blk_cell BK226.out 4).trans rfl
                    have hfz63_0 := blk_frozen BK226.out 0
                    have hfz63_1 := blk_frozen BK226.out 1
                    have hfz63_2 := blk_frozen BK226.out 2
                    have hfz63_3 := blk_frozen BK226.out 3
                    have hfz63_4 := blk_frozen BK226.out 4
                    go_wp2_with (first | ((with_reducible refine gate_callee (f := 54) rfl ?_); refine goesL_ (some 78) rfl rfl Try.func54 (by kernel_rfl) rfl #[.int .i64 t224, .int .i64 120] rfl (by (try simp only [List.map_toArray, List.map_cons, List.map_nil]); first | done | rfl | (simp only [List.length_drop, List.length_take]; rfl)) ?_; (with_reducible refine (hearthref1_list.calls kj40 t224 120 t235 _ A58.out).mono ?_); rintro e w64 ⟨v236, rfl, ho0, hb⟩; refine ⟨_, rfl, ?_⟩; have n0_ := Aside0.mk (Kd.R_lower ho0 (below_size (by repeat (first | (with_reducible first | exact HB.out | apply below_alloc | apply pw_below_drewN | apply below_drew1 | refine below_set ?_ GE226.out | refine below_set ?_ GE232.out) | exact HB.out)))); have n1_ := Aside0.mk (blk_below (g := gb226) (o := .cells #[.bool t221, .bool t222, .bool t223, .int .i64 t224, .int .i64 t225] 40 (0, 0)) (by (with_reducible repeat (first | refine blk_drewN ?_ _ | refine blk_drew ?_ | refine blk_alloc ?_ _)); exact BK226.out) hb); have n2_ := Aside0.mk (blk_below (g := gb232) (o := .cells #[.bool t227, .bool false, .bool t229, .int .i64 t230, .int .i64 t231] 40 (0, 0)) (by (with_reducible repeat (first | refine blk_drewN ?_ _ | refine blk_drew ?_ | refine blk_alloc ?_ _)); exact BK232.out) hb); have n3_ := Aside0.mk (below_step (by repeat (first | (with_reducible first | exact HB.out | apply below_alloc | apply pw_below_drewN | apply below_drew1 | refine below_set ?_ GE226.out | refine below_set ?_ GE232.out) | exact HB.out)) hb); clear BK226; clear BK232; clear HB; have HO237 := n0_; have BK226 := n1_; have BK232 := n2_; have HB := n3_; clear n0_ n1_ n2_ n3_; (try clear hb); (try clear hb2); (try clear hk); (try clear hi); (try clear ho0); obtain ⟨Ao65, co65, eo65⟩ := Kd.R_slice HO237.out; subst eo65) | ((with_reducible refine gate_dst (N := 81) rfl ?_); refine Kd.R_make (Kd.int .i64) _ 3 rfl (N := 81) rfl 42 _ _ rfl (t235.length : Int) rfl rfl Try.underlying42 (.int .i64 0) 8 info3 rfl (by decide) (by omega) 0 (ok := fun _ => True) (okp := fun _ => True) rfl (fun _ hk => hk) trivial (of_decide_eq_true (by first | (with_reducible assumption) | assumption)) (Nat.le_trans (Nat.mul_le_mul_right _ (of_decide_eq_true (by first | (with_reducible assumption) | assumption) : (t235.length : Int).toNat ≤ 35184372088832)) (by omega)) (Below.refl _ _) (Nat.le_refl _) ?_; intro v239 w66 ho67 hb hg_ hnew_; clear hg_ hnew_; (first | rw [← Ny238.out] at ho67 | (simp only [Int.reduceToNat] at ho67; rw [← Ny238.out] at ho67)); have n0_ := Aside0.mk (Kd.R_elder' (by (with_reducible repeat (first | apply Kd.R_alloc | apply Kd.R_drewN | apply Kd.R_drew)); exact HO237.out) (Kd.R_base ho67) hb); have n1_ := Aside0.mk (Kd.R_lower (Kd.R_new' ho67 (Kd.R_lt (by (with_reducible repeat (first | apply Kd.R_alloc | apply Kd.R_drewN | apply Kd.R_drew)); exact HO237.out))) (below_size (by repeat (first | (with_reducible first | exact HB.out | apply below_alloc | apply pw_below_drewN | apply below_drew1 | refine below_set ?_ GE226.out | refine below_set ?_ GE232.out) | exact HB.out)))); have n2_ := Aside0.mk (blk_below (g := gb226) (o := .cells #[.bool t221, .bool t222, .bool t223, .int .i64 t224, .int .i64 t225] 40 (0, 0)) (by (with_reducible repeat (first | refine blk_drewN ?_ _ | refine blk_drew ?_ | refine blk_alloc ?_ _)); exact BK226.out) hb); have n3_ := Aside0.mk (blk_below (g := gb232) (o := .cells #[.bool t227, .bool false, .bool t229, .int .i64 t230, .int .i64 t231] 40 (0, 0)) (by (with_reducible repeat (first | refine blk_drewN ?_ _ | refine blk_drew ?_ | refine blk_alloc ?_ _)); exact BK232.out) hb); have n4_ := Aside0.mk (below_step (by repeat (first | (with_reducible first | exact HB.out | apply below_alloc | apply pw_below_drewN | apply below_drew1 | refine below_set ?_ GE226.out | refine below_set ?_ GE232.out) | exact HB.out)) hb); clear HO237; clear BK226; clear BK232; clear HB; have HO237 := n0_; have HO240 := n1_; have BK226 := n2_; have BK232 := n3_; have HB := n4_; clear n0_ n1_ n2_ n3_ n4_; clear hb ho67))
                    go_loopg [10, 11] kj40 (fun kq v10 v11 w' => ∃ (x9_3 : List Int) (x10_3 : Int) (x11_3 : Int), v10 = .int .i64 x10_3 ∧ v11 = .int .i64 x11_3 ∧ Aside0 (hearthref1_FloDiv.l0 kq (t221 != t227) t235 x9_3 x10_3 x11_3 t221 t222 t223 t224 t225 t227 false t229 t230 t231 = some r) ∧ Aside0 (kq ≤ kj40) ∧ Aside0 (Kd.R (Kd.int .i64) 3 w' w.heap.size (fun k_ => some k_ ≠ (v239 : Value).ownBlock) (.slice Ao65 t235.length co65) t235) ∧ Aside0 (Kd.R (Kd.int .i64) 3 w' w.heap.size (fun k_ => some k_ ≠ ((.slice Ao65 t235.length co65) : Value).ownBlock) v239 x9_3) ∧ Aside0 (w'.heap[gb226]? = some (.cells #[.bool t221, .bool t222, .bool t223, .int .i64 t224, .int .i64 t225] 40 (0, 0))) ∧ Aside0 (w'.heap[gb232]? = some (.cells #[.bool t227, .bool false, .bool t229, .int .i64 t230, .int .i64 t231] 40 (0, 0))) ∧ Aside0 (Below w.heap.size w w'))
                    case atStart => exact ⟨(y238), (0), (wrap64 ((t235.length : Int) - 1)), (by first | rfl | (simp; done) | (simp [*]; done)), (by first | rfl | (simp; done) | (simp [*]; done)), H', ⟨Nat.le_refl _⟩, ⟨by (with_reducible repeat (first | apply Kd.R_alloc | apply Kd.R_drewN | apply Kd.R_drew)); exact Kd.R_mono HO237.out (fun _ hk => hk.2)⟩, ⟨by (with_reducible repeat (first | apply Kd.R_alloc | apply Kd.R_drewN | apply Kd.R_drew)); exact Kd.R_mono HO240.out (fun _ hk => hk.2)⟩, ⟨by (with_reducible repeat (first | refine blk_drewN ?_ _ | refine blk_drew ?_ | refine blk_alloc ?_ _)); exact BK226.out⟩, ⟨by (with_reducible repeat (first | refine blk_drewN ?_ _ | refine blk_drew ?_ | refine blk_alloc ?_ _)); exact BK232.out⟩, ⟨by repeat (first | (with_reducible first | exact HB.out | apply below_alloc | apply pw_below_drewN | apply below_drew1 | refine below_set ?_ GE226.out | refine below_set ?_ GE232.out) | exact HB.out)⟩⟩
                    case round =>
                      clear H'
                      try clear c1
                      try clear c2
                      try clear p2
                      try clear c3
                      try clear c4
                      try clear c5
                      try clear c6
                      try clear p6
                      try clear c11
                      try clear c14
                      try clear c15
                      try clear c17
                      try clear c18
                      try clear c21
                      try clear c22
                      try clear c23
                      try clear c26
                      try clear c29
                      try clear c30
                      try clear c33
                      try clear c33b0
                      try clear c33b1
                      try clear c34
                      try clear c37
                      try clear c40
                      try clear c42
                      try clear c43
                      try clear c45
                      try clear c46
                      try clear c49
                      try clear c51
                      try clear c52
                      try clear c54
                      try clear c56
                      try clear c58
                      try clear c59
                      try clear c59b0
                      try clear c59b1
                      try clear c60
                      try clear c60b0
                      try clear c60b1
                      try clear c61
                      try clear p64
                      try clear hcz12_0
                      try clear hcz12_1
                      try clear hcz12_2
                      try clear hcz12_3
                      try clear hcz12_4
                      try clear hcz13_0
                      try clear hcz13_1
                      try clear hcz13_2
                      try clear hcz13_3
                      try clear hcz13_4
                      try clear hcz16_0
                      try clear hcz16_1
                      try clear hcz16_2
                      try clear hcz16_3
                      try clear hcz16_4
                      try clear hcz19_0
                      try clear hcz19_1
                      try clear hcz19_2
                      try clear hcz19_3
                      try clear hcz19_4
                      try clear hcz20_0
                      try clear hcz20_1
                      try clear hcz20_2
                      try clear hcz20_3
                      try clear hcz20_4
                      try clear hcz24_0
                      try clear hcz24_1
                      try clear hcz24_2
                      try clear hcz24_3
                      try clear hcz24_4
                      try clear hcz25_0
                      try clear hcz25_1
                      try clear hcz25_2
                      try clear hcz25_3
                      try clear hcz25_4
                      try clear hcz27_0
                      try clear hcz27_1
                      try clear hcz27_2
                      try clear hcz27_3
                      try clear hcz27_4
                      try clear hcz28_0
                      try clear hcz28_1
                      try clear hcz28_2
                      try clear hcz28_3
                      try clear hcz28_4
                      try clear hcz31_0
                      try clear hcz31_1
                      try clear hcz31_2
                      try clear hcz31_3
                      try clear hcz31_4
                      try clear hcz32_0
                      try clear hcz32_1
                      try clear hcz32_2
                      try clear hcz32_3
                      try clear hcz32_4
                      try clear hcz35_0
                      try clear hcz35_1
                      try clear hcz35_2
                      try clear hcz35_3
                      try clear hcz35_4
                      try clear hcz36_0
                      try clear hcz36_1
                      try clear hcz36_2
                      try clear hcz36_3
                      try clear hcz36_4
                      try clear hcz38_0
                      try clear hcz38_1
                      try clear hcz38_2
                      try clear hcz38_3
                      try clear hcz38_4
                      try clear hcz39_0
                      try clear hcz39_1
                      try clear hcz39_2
                      try clear hcz39_3
                      try clear hcz39_4
                      try clear hcz44_0
                      try clear hcz44_1
                      try clear hcz44_2
                      try clear hcz44_3
                      try clear hcz44_4
                      try clear hcz47_0
                      try clear hcz47_1
                      try clear hcz47_2
                      try clear hcz47_3
                      try clear hcz47_4
                      try clear hcz48_0
                      try clear hcz48_1
                      try clear hcz48_2
                      try clear hcz48_3
                      try clear hcz48_4
                      try clear hcz50_0
                      try clear hcz50_1
                      try clear hcz50_2
                      try clear hcz50_3
                      try clear hcz50_4
                      try clear hcz51_0
                      try clear hcz51_1
                      try clear hcz51_2
                      try clear hcz51_3
                      try clear hcz51_4
                      try clear hcz57_0
                      try clear hcz57_1
                      try clear hcz57_2
                      try clear hcz57_3
                      try clear hcz57_4
                      try clear hcz62_0
                      try clear hcz62_1
                      try clear hcz62_2
                      try clear hcz62_3
                      try clear hcz62_4
                      try clear hcz63_0
                      try clear hcz63_1
                      try clear hcz63_2
                      try clear hcz63_3
                      try clear hcz63_4
                      try clear hcz8_0
                      try clear hcz8_1
                      try clear hcz8_2
                      try clear hcz8_3
                      try clear hcz8_4
                      try clear hfz12_0
                      try clear hfz12_1
                      try clear hfz12_2
                      try clear hfz12_3
                      try clear hfz12_4
                      try clear hfz13_0
                      try clear hfz13_1
                      try clear hfz13_2
                      try clear hfz13_3
                      try clear hfz13_4
                      try clear hfz16_0
                      try clear hfz16_1
                      try clear hfz16_2
                      try clear hfz16_3
                      try clear hfz16_4
                      try clear hfz19_0
                      try clear hfz19_1
                      try clear hfz19_2
                      try clear hfz19_3
                      try clear hfz19_4
                      try clear hfz20_0
                      try clear hfz20_1
                      try clear hfz20_2
                      try clear hfz20_3
                      try clear hfz20_4
                      try clear hfz24_0
                      try clear hfz24_1
                      try clear hfz24_2
                      try clear hfz24_3
                      try clear hfz24_4
                      try clear hfz25_0
                      try clear hfz25_1
                      try clear hfz25_2
                      try clear hfz25_3
                      try clear hfz25_4
                      try clear hfz27_0
                      try clear hfz27_1
                      try clear hfz27_2
                      try clear hfz27_3
                      try clear hfz27_4
                      try clear hfz28_0
                      try clear hfz28_1
                      try clear hfz28_2
                      try clear hfz28_3
                      try clear hfz28_4
                      try clear hfz31_0
                      try clear hfz31_1
                      try clear hfz31_2
                      try clear hfz31_3
                      try clear hfz31_4
                      try clear hfz32_0
                      try clear hfz32_1
                      try clear hfz32_2
                      try clear hfz32_3
                      try clear hfz32_4
                      try clear hfz35_0
                      try clear hfz35_1
                      try clear hfz35_2
                      try clear hfz35_3
                      try clear hfz35_4
                      try clear hfz36_0
                      try clear hfz36_1
                      try clear hfz36_2
                      try clear hfz36_3
                      try clear hfz36_4
                      try clear hfz38_0
                      try clear hfz38_1
                      try clear hfz38_2
                      try clear hfz38_3
                      try clear hfz38_4
                      try clear hfz39_0
                      try clear hfz39_1
                      try clear hfz39_2
                      try clear hfz39_3
                      try clear hfz39_4
                      try clear hfz44_0
                      try clear hfz44_1
                      try clear hfz44_2
                      try clear hfz44_3
                      try clear hfz44_4
                      try clear hfz47_0
                      try clear hfz47_1
                      try clear hfz47_2
                      try clear hfz47_3
                      try clear hfz47_4
                      try clear hfz48_0
                      try clear hfz48_1
                      try clear hfz48_2
                      try clear hfz48_3
                      try clear hfz48_4
                      try clear hfz50_0
                      try clear hfz50_1
                      try clear hfz50_2
                      try clear hfz50_3
                      try clear hfz50_4
                      try clear hfz51_0
                      try clear hfz51_1
                      try clear hfz51_2
                      try clear hfz51_3
                      try clear hfz51_4
                      try clear hfz57_0
                      try clear hfz57_1
                      try clear hfz57_2
                      try clear hfz57_3
                      try clear hfz57_4
                      try clear hfz62_0
                      try clear hfz62_1
                      try clear hfz62_2
                      try clear hfz62_3
                      try clear hfz62_4
                      try clear hfz63_0
                      try clear hfz63_1
                      try clear hfz63_2
                      try clear hfz63_3
                      try clear hfz63_4
                      try clear hfz8_0
                      try clear hfz8_1
                      try clear hfz8_2
                      try clear hfz8_3
                      try clear hfz8_4
                      try clear p2
                      obtain ⟨x9_3, x10_3, x11_3, rfl, rfl, HA, HK3, HO_8, HO_9, BK226, BK232, HB⟩ := hrel
                      cases gk with
                      | zero => exact absurd HA.out (by simp [hearthref1_FloDiv.l0])
                      | succ k3 =>
                        have H := HA.out
                        clear HA
                        simp only [hearthref1_FloDiv.l0] at H
                        by_cases c68 : x11_3 ≥ 0
                        · rw [if_pos c68] at H
                          have c68b0 : decide (0 ≤ x11_3) = true := decide_eq_true c68
                          clear c68
                          by_cases c69 : 0 ≤ x11_3
                          · rw [if_pos c69] at H
                            have c69b0 : decide (0 ≤ x11_3) = true := decide_eq_true c69
                            clear c69
                            by_cases c70 : x11_3 < (t235.length : Int)
                            · rw [if_pos c70] at H
                              have c70b0 : decide (x11_3 < (t235.length : Int)) = true := decide_eq_true c70
                              clear c70
                              by_cases c71 : (wrap64 ((wrap64 (x10_3 + x10_3)) + (rd t235 x11_3))) ≥ t230
                              · rw [if_pos c71] at H
                                have c71b0 : decide (t230 ≤ (wrap64 ((wrap64 (x10_3 + x10_3)) + (rd t235 x11_3)))) = true := decide_eq_true c71
                                clear c71
                                by_cases c72 : x11_3 < (x9_3.length : Int)
                                · rw [if_pos c72] at H
                                  have c72b0 : decide (x11_3 < (x9_3.length : Int)) = true := decide_eq_true c72
                                  clear c72
                                  obtain ⟨y242, hy242⟩ : ∃ y_ : List Int, y_ = (x9_3.set (x11_3 : Int).toNat 1) := ⟨_, rfl⟩
                                  replace H : (hearthref1_FloDiv.l0 k3 (t221 != t227) t235 y242 (wrap64 ((wrap64 ((wrap64 (x10_3 + x10_3)) + (rd t235 x11_3))) - t230)) (wrap64 (x11_3 - 1)) t221 t222 t223 t224 t225 t227 false t229 t230 t231) = some r := by first | (rw [hy242]; with_reducible exact H) | (have H2_ := (Option.bind_some _ _).symm.trans H; rw [hy242]; with_reducible exact H2_) | (have H2_ := (Option.bind_some _ _).symm.trans H; with_reducible exact H2_) | with_reducible exact H | (rw [hy242]; exact H) | exact H
                                  have Ny242 := Aside0.mk hy242
                                  clear hy242
                                  have H' := Aside0.mk H
                                  clear H
                                  have p241 : 0 ≤ (x11_3 : Int) := of_decide_eq_true (by first | (with_reducible assumption) | assumption)
                                  have q241 : x11_3 < (t235.length : Int) := of_decide_eq_true (by first | (with_reducible assumption) | assumption)
                                  obtain ⟨ad241, e241, hx241_0⟩ := Kd.at_int (Kd.R_reads' HO_8.out).2.2 x11_3 p241 q241
                                  cases e241
                                  replace p241 := eq_true p241
                                  replace q241 := eq_true q241
                                  have hnb74 := NB232_226.out
                                  have hnc74 := NB226_232.out
                                  have hcz75_0 : wr.cell? ⟨gb232, 0, none⟩ = some (.bool t227) := (blk_cell BK232.out 0).trans rfl
                                  have hcz75_1 : wr.cell? ⟨gb232, 1, none⟩ = some (.bool false) := (blk_cell BK232.out 1).trans rfl
                                  have hcz75_2 : wr.cell? ⟨gb232, 2, none⟩ = some (.bool t229) := (blk_cell BK232.out 2).trans rfl
                                  have hcz75_3 : wr.cell? ⟨gb232, 3, none⟩ = some (.int .i64 t230) := (blk_cell BK232.out 3).trans rfl
                                  have hcz75_4 : wr.cell? ⟨gb232, 4, none⟩ = some (.int .i64 t231) := (blk_cell BK232.out 4).trans rfl
                                  have hfz75_0 := blk_frozen BK232.out 0
                                  have hfz75_1 := blk_frozen BK232.out 1
                                  have hfz75_2 := blk_frozen BK232.out 2
                                  have hfz75_3 := blk_frozen BK232.out 3
                                  have hfz75_4 := blk_frozen BK232.out 4
                                  have p73 : 0 ≤ (x11_3 : Int) := of_decide_eq_true (by first | (with_reducible assumption) | assumption)
                                  have q73 : (x11_3 : Int) < ((x9_3.length : Int) : Int) := of_decide_eq_true (by first | (with_reducible assumption) | assumption)
                                  obtain ⟨go73, co73, eo73, gb73, gl73, cl73, HG73⟩ := Kd.R_form HO_9.out (by omega)
                                  (first | cases eo73 | (injection eo73 with ea_ en_ ec_; (first | subst ea_ | (injection ea_ with ea_; subst ea_)); subst ec_; clear en_))
                                  have GB73 := Aside0.mk gb73
                                  have GG73 := Aside0.mk HG73
                                  clear gb73 gl73 HG73
                                  obtain ⟨hx73_0, hf73_0⟩ := Kd.R_celln 0 HO_9.out (x11_3 : Int) p73 q73
                                  replace p73 := eq_true p73
                                  replace q73 := eq_true q73
                                  have HP76 := Kd.R_putg HO_9.out (x11_3 : Int) 1
                                  go_wp2_with (first | ((with_reducible refine gate_store (t := 3) (p := 107) rfl ?_); refine store_event (t := 3) (p := 107) (v := ?vo_w77) (w1 := (wr.setCell ⟨go73, (x11_3 : Int).toNat, none⟩ (.int .i64 1))) ?hg ?ho ?hn ?hr ?_; (case ho => rfl); (case hg => rfl); (case hn => rfl); (case hr => first | (go_simp; done) | (go_simp; rfl)); intro w77 hw; have hg : wr.grownBy w77 (some go73) := (by rw [hw]; exact HP76.2); have hp_ : Kd.R (Kd.int .i64) 3 w77 w.heap.size (fun k_ => some k_ ≠ (.slice (some ad241) t235.length co65 : Value).ownBlock) (.slice (some ⟨go73, 0, none⟩) x9_3.length co73) y242 := (by rw [hw, Ny242.out]; exact HP76.1); clear HP76; have n0_ := Aside0.mk (Kd.R_after (v := (.slice (some ⟨go73, 0, none⟩) x9_3.length co73)) (v1 := (.slice (some ⟨go73, 0, none⟩) x9_3.length co73)) (ok := (fun _ => True)) (by (with_reducible repeat (first | apply Kd.R_alloc | apply Kd.R_drewN | apply Kd.R_drew)); exact Kd.R_mono HO_8.out (fun _ hk => ⟨trivial, hk⟩)) hg (.inl rfl)); have n1_ := Aside0.mk (hp_); have n2_ := Aside0.mk (blk_grown (g := gb226) (o := .cells #[.bool t221, .bool t222, .bool t223, .int .i64 t224, .int .i64 t225] 40 (0, 0)) (by (with_reducible repeat (first | refine blk_drewN ?_ _ | refine blk_drew ?_ | refine blk_alloc ?_ _)); exact BK226.out) hg (Kd.R_ne HO_9.out BK226.out (by decide))); have n3_ := Aside0.mk (blk_grown (g := gb232) (o := .cells #[.bool t227, .bool false, .bool t229, .int .i64 t230, .int .i64 t231] 40 (0, 0)) (by (with_reducible repeat (first | refine blk_drewN ?_ _ | refine blk_drew ?_ | refine blk_alloc ?_ _)); exact BK232.out) hg (Kd.R_ne HO_9.out BK232.out (by decide))); have n4_ := Aside0.mk ((by rw [hw]; exact below_set (HB.out) GB73.out : Below w.heap.size w w77)); clear HO_8; clear HO_9; clear BK226; clear BK232; clear HB; have HO_8 := n0_; have HO_9 := n1_; have BK226 := n2_; have BK232 := n3_; have HB := n4_; clear n0_ n1_ n2_ n3_ n4_; clear hg hw hp_))
                                  go_roundg k3
                                  case measure => have := HJ4.out; have := HJ40.out; have := HK3.out; omega
                                  case rel => exact ⟨(y242), (wrap64 ((wrap64 ((wrap64 (x10_3 + x10_3)) + (rd t235 x11_3))) - t230)), (wrap64 (x11_3 - 1)), (by first | rfl | (simp; done) | (simp [*]; done)), (by first | rfl | (simp; done) | (simp [*]; done)), H', ⟨by have := HJ4.out; have := HJ40.out; have := HK3.out; omega⟩, ⟨by (with_reducible repeat (first | apply Kd.R_alloc | apply Kd.R_drewN | apply Kd.R_drew)); exact Kd.R_mono HO_8.out (fun _ hk => hk.2)⟩, ⟨by (with_reducible repeat (first | apply Kd.R_alloc | apply Kd.R_drewN | apply Kd.R_drew)); exact HO_9.out⟩, ⟨by (with_reducible repeat (first | refine blk_drewN ?_ _ | refine blk_drew ?_ | refine blk_alloc ?_ _)); exact BK226.out⟩, ⟨by (with_reducible repeat (first | refine blk_drewN ?_ _ | refine blk_drew ?_ | refine blk_alloc ?_ _)); exact BK232.out⟩, ⟨by repeat (first | (with_reducible first | exact HB.out | apply below_alloc | apply pw_below_drewN | apply below_drew1 | refine below_set ?_ GE226.out | refine below_set ?_ GE232.out) | exact HB.out)⟩⟩
                                · rw [if_neg c72] at H
                                  exact absurd H (by simp)
                              · rw [if_neg c71] at H
                                have c71b0 : decide (t230 ≤ (wrap64 ((wrap64 (x10_3 + x10_3)) + (rd t235 x11_3)))) = false := decide_eq_false c71
                                clear c71
                                have H' := Aside0.mk H
                                clear H
                                have p241 : 0 ≤ (x11_3 : Int) := of_decide_eq_true (by first | (with_reducible assumption) | assumption)
                                have q241 : x11_3 < (t235.length : Int) := of_decide_eq_true (by first | (with_reducible assumption) | assumption)
                                obtain ⟨ad241, e241, hx241_0⟩ := Kd.at_int (Kd.R_reads' HO_8.out).2.2 x11_3 p241 q241
                                cases e241
                                replace p241 := eq_true p241
                                replace q241 := eq_true q241
                                have hnb78 := NB232_226.out
                                have hnc78 := NB226_232.out
                                have hcz79_0 : wr.cell? ⟨gb232, 0, none⟩ = some (.bool t227) := (blk_cell BK232.out 0).trans rfl
                                have hcz79_1 : wr.cell? ⟨gb232, 1, none⟩ = some (.bool false) := (blk_cell BK232.out 1).trans rfl
                                have hcz79_2 : wr.cell? ⟨gb232, 2, none⟩ = some (.bool t229) := (blk_cell BK232.out 2).trans rfl
                                have hcz79_3 : wr.cell? ⟨gb232, 3, none⟩ = some (.int .i64 t230) := (blk_cell BK232.out 3).trans rfl
                                have hcz79_4 : wr.cell? ⟨gb232, 4, none⟩ = some (.int .i64 t231) := (blk_cell BK232.out 4).trans rfl
                                have hfz79_0 := blk_frozen BK232.out 0
                                have hfz79_1 := blk_frozen BK232.out 1
                                have hfz79_2 := blk_frozen BK232.out 2
                                have hfz79_3 := blk_frozen BK232.out 3
                                have hfz79_4 := blk_frozen BK232.out 4
                                go_wp2
                                go_roundg k3
                                case measure => have := HJ4.out; have := HJ40.out; have := HK3.out; omega
                                case rel => exact ⟨(x9_3), (wrap64 ((wrap64 (x10_3 + x10_3)) + (rd t235 x11_3))), (wrap64 (x11_3 - 1)), (by first | rfl | (simp; done) | (simp [*]; done)), (by first | rfl | (simp; done) | (simp [*]; done)), H', ⟨by have := HJ4.out; have := HJ40.out; have := HK3.out; omega⟩, ⟨by (with_reducible repeat (first | apply Kd.R_alloc | apply Kd.R_drewN | apply Kd.R_drew)); exact HO_8.out⟩, ⟨by (with_reducible repeat (first | apply Kd.R_alloc | apply Kd.R_drewN | apply Kd.R_drew)); exact HO_9.out⟩, ⟨by (with_reducible repeat (first | refine blk_drewN ?_ _ | refine blk_drew ?_ | refine blk_alloc ?_ _)); exact BK226.out⟩, ⟨by (with_reducible repeat (first | refine blk_drewN ?_ _ | refine blk_drew ?_ | refine blk_alloc ?_ _)); exact BK232.out⟩, ⟨by repeat (first | (with_reducible first | exact HB.out | apply below_alloc | apply pw_below_drewN | apply below_drew1 | refine below_set ?_ GE226.out | refine below_set ?_ GE232.out) | exact HB.out)⟩⟩
                            · rw [if_neg c70] at H
                              exact absurd H (by simp)
                          · rw [if_neg c69] at H
                            exact absurd H (by simp)
                        · rw [if_neg c68] at H
                          have c68b0 : decide (0 ≤ x11_3) = false := decide_eq_false c68
                          clear c68
                          replace H := Option.bind_eq_some_iff.mp H
                          obtain ⟨t243, A800, H⟩ := H
                          replace H : (some t243) = some r := H
                          have A80 := Aside0.mk A800
                          clear A800
                          obtain rfl := Option.some.inj H
                          have hnb81 := NB226_232.out
                          have hnc81 := NB232_226.out
                          have hcz82_0 : wr.cell? ⟨gb226, 0, none⟩ = some (.bool t221) := (blk_cell BK226.out 0).trans rfl
                          have hcz82_1 : wr.cell? ⟨gb226, 1, none⟩ = some (.bool t222) := (blk_cell BK226.out 1).trans rfl
                          have hcz82_2 : wr.cell? ⟨gb226, 2, none⟩ = some (.bool t223) := (blk_cell BK226.out 2).trans rfl
                          have hcz82_3 : wr.cell? ⟨gb226, 3, none⟩ = some (.int .i64 t224) := (blk_cell BK226.out 3).trans rfl
                          have hcz82_4 : wr.cell? ⟨gb226, 4, none⟩ = some (.int .i64 t225) := (blk_cell BK226.out 4).trans rfl
                          have hfz82_0 := blk_frozen BK226.out 0
                          have hfz82_1 := blk_frozen BK226.out 1
                          have hfz82_2 := blk_frozen BK226.out 2
                          have hfz82_3 := blk_frozen BK226.out 3
                          have hfz82_4 := blk_frozen BK226.out 4
                          have hcz83_0 : wr.cell? ⟨gb232, 0, none⟩ = some (.bool t227) := (blk_cell BK232.out 0).trans rfl
                          have hcz83_1 : wr.cell? ⟨gb232, 1, none⟩ = some (.bool false) := (blk_cell BK232.out 1).trans rfl
                          have hcz83_2 : wr.cell? ⟨gb232, 2, none⟩ = some (.bool t229) := (blk_cell BK232.out 2).trans rfl
                          have hcz83_3 : wr.cell? ⟨gb232, 3, none⟩ = some (.int .i64 t230) := (blk_cell BK232.out 3).trans rfl
                          have hcz83_4 : wr.cell? ⟨gb232, 4, none⟩ = some (.int .i64 t231) := (blk_cell BK232.out 4).trans rfl
                          have hfz83_0 := blk_frozen BK232.out 0
                          have hfz83_1 := blk_frozen BK232.out 1
                          have hfz83_2 := blk_frozen BK232.out 2
                          have hfz83_3 := blk_frozen BK232.out 3
                          have hfz83_4 := blk_frozen BK232.out 4
                          obtain ⟨Ao84, co84, eo84⟩ := Kd.R_slice HO_9.out
                          subst eo84
                          go_wp2_with (first | ((with_reducible refine gate_callee (f := 55) rfl ?_); refine goesL_ (some 118) rfl rfl Try.func55 (by kernel_rfl) rfl #[.bool (t221 != t227), .slice Ao84 x9_3.length co84, .int .i64 (wrap64 ((wrap64 (t225 - t231)) - 120)), .bool (decide (x10_3 > 0))] rfl (by (try simp only [List.map_toArray, List.map_cons, List.map_nil]); first | done | rfl | (simp only [List.length_drop, List.length_take]; rfl)) ?_; (with_reducible refine (hearthref1_rounded.calls k3 (t221 != t227) _ _ x9_3 (wrap64 ((wrap64 (t225 - t231)) - 120)) (decide (x10_3 > 0)) t243 _ ?side1 ?side2 A80.out).mono ?_); (case side1 => repeat (first | exact (Kd.R_reads' HO_9.out).2.2 | (with_reducible refine Kd.C_alloc ?_ _) | (with_reducible refine Kd.C_drewN ?_ _) | (with_reducible refine Kd.C_drew ?_))); (case side2 => exact (Kd.R_reads' HO_9.out).2.1); rintro e w85 ⟨rfl, hb⟩; refine ⟨_, rfl, ?_⟩; have n0_ := Aside0.mk (Kd.R_below (by (with_reducible repeat (first | apply Kd.R_alloc | apply Kd.R_drewN | apply Kd.R_drew)); exact HO_8.out) hb); have n1_ := Aside0.mk (Kd.R_below (by (with_reducible repeat (first | apply Kd.R_alloc | apply Kd.R_drewN | apply Kd.R_drew)); exact HO_9.out) hb); have n2_ := Aside0.mk (blk_below (g := gb226) (o := .cells #[.bool t221, .bool t222, .bool t223, .int .i64 t224, .int .i64 t225] 40 (0, 0)) (by (with_reducible repeat (first | refine blk_drewN ?_ _ | refine blk_drew ?_ | refine blk_alloc ?_ _)); exact BK226.out) hb); have n3_ := Aside0.mk (blk_below (g := gb232) (o := .cells #[.bool t227, .bool false, .bool t229, .int .i64 t230, .int .i64 t231] 40 (0, 0)) (by (with_reducible repeat (first | refine blk_drewN ?_ _ | refine blk_drew ?_ | refine blk_alloc ?_ _)); exact BK232.out) hb); have n4_ := Aside0.mk (below_step (by repeat (first | (with_reducible first | exact HB.out | apply below_alloc | apply pw_below_drewN | apply below_drew1 | refine below_set ?_ GE226.out | refine below_set ?_ GE232.out) | exact HB.out)) hb); clear HO_8; clear HO_9; clear BK226; clear BK232; clear HB; have HO_8 := n0_; have HO_9 := n1_; have BK226 := n2_; have BK232 := n3_; have HB := n4_; clear n0_ n1_ n2_ n3_ n4_; (try clear hb); (try clear hb2); (try clear hk); (try clear hi)))
                          go_ret
                          exact ⟨by first | rfl | (simp [errW_none, errW_some] <;> rfl) | (simp [*, errW_none, errW_some] <;> rfl), by repeat (first | (with_reducible first | exact HB.out | apply below_alloc | apply pw_below_drewN | apply below_drew1 | refine below_set ?_ GE226.out | refine below_set ?_ GE232.out) | exact HB.out)⟩
                  · rw [if_neg c60] at H
                    exact absurd H (by simp)
                · rw [if_neg c59] at H
                  exact absurd H (by simp)

end Go.Proofs.Ytpjcheenihlagaa.PFixAll
