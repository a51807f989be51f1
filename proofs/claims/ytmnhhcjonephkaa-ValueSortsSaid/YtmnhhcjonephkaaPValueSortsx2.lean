-- PRINTED BY print.sh 35421559b90ae4d0a3588c463048766b98c2df88dd9212a6774a882060cdf62d: not written by this session
import Derived.Test.YtmnhhcjonephkaaPValueSortsx0
import Derived.Test.YtmnhhcjonephkaaPValueSortsx1
namespace Go.Proofs.Ytmnhhcjonephkaa.PValueSorts
open Go.RowKit Go.Proofs.YtmnhhcjonephkaaW.PrintWords Go.Proofs.YtmnhhcjonephkaaW.PrintLast Go.Proofs.YtmnhhcjonephkaaW.PrintMore
attribute [local go_sem] max2_int min2_int max_two min_two max_three min_three max_four min_four   -- for this text's walks alone
set_option linter.unusedVariables false
set_option linter.unusedSimpArgs false

/-! ### hearthlaw2_ValueSorts: function 21 -/
def hearthlaw2_ValueSorts.j0 : Nat → Int → Int → Int → Bool → Int → Bool → Bool → Option (Bool)
  | 0, _, _, _, _, _, _, _ => none
  | k + 1, x0, x3, x4, x6, x7, x8, x58 => if x58 = true then (some false) else (if x8 = true then ((value_Link.f x7).bind fun t132 => (some (t132 == x0))) else (if x3 = 0 then (some x6) else (if x3 = 1 then (some (x6 == (decide (x4 ≥ 0)))) else (if x3 = 2 then (if x4 ≥ 0 then (some (x6 == (decide (x4 ≤ 5)))) else (some (x6 == false))) else (if x3 = 3 then (if x4 ≥ 0 then (if x4 ≤ 1114111 then (if x4 < 55296 then (some (x6 == true)) else (some (x6 == (decide (x4 > 57343))))) else (some (x6 == false))) else (some (x6 == false))) else (if x6 = true then (some false) else (if x3 = 4 then (if x4 < (-1) then (some true) else (some (decide (x4 > 262143)))) else (some true))))))))
def hearthlaw2_ValueSorts.f (k : Nat) (a0 : Int) : Option (Bool) := (value_Read.f a0).bind fun bt125 => ((value_Next.f a0).bind fun bt129 => ((hearthlaw2_alive.f).bind fun t131 => (if t131 = true then (if bt125.2.2 = true then (if bt129.2 = true then (hearthlaw2_ValueSorts.j0 k a0 (Go.bits .and .i64 a0 7) (a0 / 8) bt125.2.2 bt129.1 bt129.2 true) else (if bt125.1 = (wrap64 ((Go.bits .and .i64 a0 7) + 1)) then (if bt125.2.1 = (a0 / 8) then (hearthlaw2_ValueSorts.j0 k a0 (Go.bits .and .i64 a0 7) (a0 / 8) bt125.2.2 bt129.1 bt129.2 false) else (hearthlaw2_ValueSorts.j0 k a0 (Go.bits .and .i64 a0 7) (a0 / 8) bt125.2.2 bt129.1 bt129.2 true)) else (hearthlaw2_ValueSorts.j0 k a0 (Go.bits .and .i64 a0 7) (a0 / 8) bt125.2.2 bt129.1 bt129.2 true))) else (if bt129.2 = true then (if (Go.bits .and .i64 a0 7) = 4 then (hearthlaw2_ValueSorts.j0 k a0 (Go.bits .and .i64 a0 7) (a0 / 8) bt125.2.2 bt129.1 bt129.2 (bt129.1 != (a0 / 8))) else (hearthlaw2_ValueSorts.j0 k a0 (Go.bits .and .i64 a0 7) (a0 / 8) bt125.2.2 bt129.1 bt129.2 true)) else (hearthlaw2_ValueSorts.j0 k a0 (Go.bits .and .i64 a0 7) (a0 / 8) bt125.2.2 bt129.1 bt129.2 false))) else (hearthlaw2_ValueSorts.j0 k a0 (Go.bits .and .i64 a0 7) (a0 / 8) bt125.2.2 bt129.1 bt129.2 true))))
theorem hearthlaw2_ValueSorts.mono_l : ∀ k, (∀ y0 y1 y2 y3 y4 y5 y6, LeO (hearthlaw2_ValueSorts.j0 k y0 y1 y2 y3 y4 y5 y6) (hearthlaw2_ValueSorts.j0 (k + 1) y0 y1 y2 y3 y4 y5 y6))
  | 0 => fun _ _ _ _ _ _ _ r h => by simp [hearthlaw2_ValueSorts.j0] at h
  | k + 1 => by
    have ih0 := hearthlaw2_ValueSorts.mono_l k
    · intro y0 y1 y2 y3 y4 y5 y6
      unfold hearthlaw2_ValueSorts.j0
      repeat' first
      | (with_reducible exact ih0 _ _ _ _ _ _ _)
      | (with_reducible exact LeO.refl _)
      | (with_reducible exact LeO.none _)
      | (with_reducible refine LeO.ite ?_ ?_)
      | (with_reducible refine LeO.bind ?_ (fun _ => ?_))
      | exact ih0 _ _ _ _ _ _ _
      | exact LeO.none _
      | refine LeO.ite ?_ ?_
      | refine LeO.bind ?_ (fun _ => ?_)
theorem hearthlaw2_ValueSorts.mono : ∀ a0 k, LeO (hearthlaw2_ValueSorts.f k a0) (hearthlaw2_ValueSorts.f (k + 1) a0) := by
  intro a0 k
  have ih0 := hearthlaw2_ValueSorts.mono_l k
  unfold hearthlaw2_ValueSorts.f
  repeat' first
      | (with_reducible exact ih0 _ _ _ _ _ _ _)
      | (with_reducible exact LeO.refl _)
      | (with_reducible exact LeO.none _)
      | (with_reducible refine LeO.ite ?_ ?_)
      | (with_reducible refine LeO.bind ?_ (fun _ => ?_))
      | exact ih0 _ _ _ _ _ _ _
      | exact LeO.none _
      | refine LeO.ite ?_ ?_
      | refine LeO.bind ?_ (fun _ => ?_)
set_option maxHeartbeats 8000000 in
set_option maxRecDepth 100000 in
theorem hearthlaw2_ValueSorts.calls (k : Nat) (a0 : Int) (r : Bool) (w : World) (h : hearthlaw2_ValueSorts.f k a0 = some r) :
    Calls Try.prog 21 #[.int .i64 a0] w fun e w' => e = .returned (.bool r) ∧ Below w.heap.size w w' := by
  have hu36 := Try.underlying36
  have HB := Aside0.mk (Below.refl w.heap.size w)
  have H : ((value_Read.f a0).bind fun bt125 => ((value_Next.f a0).bind fun bt129 => ((hearthlaw2_alive.f).bind fun t131 => (if t131 = true then (if bt125.2.2 = true then (if bt129.2 = true then (hearthlaw2_ValueSorts.j0 k a0 (Go.bits .and .i64 a0 7) (a0 / 8) bt125.2.2 bt129.1 bt129.2 true) else (if bt125.1 = (wrap64 ((Go.bits .and .i64 a0 7) + 1)) then (if bt125.2.1 = (a0 / 8) then (hearthlaw2_ValueSorts.j0 k a0 (Go.bits .and .i64 a0 7) (a0 / 8) bt125.2.2 bt129.1 bt129.2 false) else (hearthlaw2_ValueSorts.j0 k a0 (Go.bits .and .i64 a0 7) (a0 / 8) bt125.2.2 bt129.1 bt129.2 true)) else (hearthlaw2_ValueSorts.j0 k a0 (Go.bits .and .i64 a0 7) (a0 / 8) bt125.2.2 bt129.1 bt129.2 true))) else (if bt129.2 = true then (if (Go.bits .and .i64 a0 7) = 4 then (hearthlaw2_ValueSorts.j0 k a0 (Go.bits .and .i64 a0 7) (a0 / 8) bt125.2.2 bt129.1 bt129.2 (bt129.1 != (a0 / 8))) else (hearthlaw2_ValueSorts.j0 k a0 (Go.bits .and .i64 a0 7) (a0 / 8) bt125.2.2 bt129.1 bt129.2 true)) else (hearthlaw2_ValueSorts.j0 k a0 (Go.bits .and .i64 a0 7) (a0 / 8) bt125.2.2 bt129.1 bt129.2 false))) else (hearthlaw2_ValueSorts.j0 k a0 (Go.bits .and .i64 a0 7) (a0 / 8) bt125.2.2 bt129.1 bt129.2 true))))) = some r := h
  clear h
  replace H := Option.bind_eq_some_iff.mp H
  obtain ⟨⟨t125, t126, t127⟩, A20, H⟩ := H
  replace H : ((value_Next.f a0).bind fun bt129 => ((hearthlaw2_alive.f).bind fun t131 => (if t131 = true then (if t127 = true then (if bt129.2 = true then (hearthlaw2_ValueSorts.j0 k a0 (Go.bits .and .i64 a0 7) (a0 / 8) t127 bt129.1 bt129.2 true) else (if t125 = (wrap64 ((Go.bits .and .i64 a0 7) + 1)) then (if t126 = (a0 / 8) then (hearthlaw2_ValueSorts.j0 k a0 (Go.bits .and .i64 a0 7) (a0 / 8) t127 bt129.1 bt129.2 false) else (hearthlaw2_ValueSorts.j0 k a0 (Go.bits .and .i64 a0 7) (a0 / 8) t127 bt129.1 bt129.2 true)) else (hearthlaw2_ValueSorts.j0 k a0 (Go.bits .and .i64 a0 7) (a0 / 8) t127 bt129.1 bt129.2 true))) else (if bt129.2 = true then (if (Go.bits .and .i64 a0 7) = 4 then (hearthlaw2_ValueSorts.j0 k a0 (Go.bits .and .i64 a0 7) (a0 / 8) t127 bt129.1 bt129.2 (bt129.1 != (a0 / 8))) else (hearthlaw2_ValueSorts.j0 k a0 (Go.bits .and .i64 a0 7) (a0 / 8) t127 bt129.1 bt129.2 true)) else (hearthlaw2_ValueSorts.j0 k a0 (Go.bits .and .i64 a0 7) (a0 / 8) t127 bt129.1 bt129.2 false))) else (hearthlaw2_ValueSorts.j0 k a0 (Go.bits .and .i64 a0 7) (a0 / 8) t127 bt129.1 bt129.2 true)))) = some r := H
  have A2 := Aside0.mk A20
  clear A20
  replace H := Option.bind_eq_some_iff.mp H
  obtain ⟨⟨t129, t130⟩, A30, H⟩ := H
  replace H : ((hearthlaw2_alive.f).bind fun t131 => (if t131 = true then (if t127 = true then (if t130 = true then (hearthlaw2_ValueSorts.j0 k a0 (Go.bits .and .i64 a0 7) (a0 / 8) t127 t129 t130 true) else (if t125 = (wrap64 ((Go.bits .and .i64 a0 7) + 1)) then (if t126 = (a0 / 8) then (hearthlaw2_ValueSorts.j0 k a0 (Go.bits .and .i64 a0 7) (a0 / 8) t127 t129 t130 false) else (hearthlaw2_ValueSorts.j0 k a0 (Go.bits .and .i64 a0 7) (a0 / 8) t127 t129 t130 true)) else (hearthlaw2_ValueSorts.j0 k a0 (Go.bits .and .i64 a0 7) (a0 / 8) t127 t129 t130 true))) else (if t130 = true then (if (Go.bits .and .i64 a0 7) = 4 then (hearthlaw2_ValueSorts.j0 k a0 (Go.bits .and .i64 a0 7) (a0 / 8) t127 t129 t130 (t129 != (a0 / 8))) else (hearthlaw2_ValueSorts.j0 k a0 (Go.bits .and .i64 a0 7) (a0 / 8) t127 t129 t130 true)) else (hearthlaw2_ValueSorts.j0 k a0 (Go.bits .and .i64 a0 7) (a0 / 8) t127 t129 t130 false))) else (hearthlaw2_ValueSorts.j0 k a0 (Go.bits .and .i64 a0 7) (a0 / 8) t127 t129 t130 true))) = some r := H
  have A3 := Aside0.mk A30
  clear A30
  have HC4 := Aside0.mk H
  clear H
  go_enter Try.func21, Try.ntmps21
  go_upto_region 5 with (first | ((with_reducible refine gate_callee (f := 42) rfl ?_); refine goesL_ (some 15) rfl rfl Try.func42 (by kernel_rfl) rfl #[.int .i64 a0] rfl (by (try simp only [List.map_toArray, List.map_cons, List.map_nil]); first | done | rfl | (simp only [List.length_drop, List.length_take]; rfl)) ?_; (with_reducible refine (value_Read.calls a0 t125 t126 t127 _ A2.out).mono ?_); rintro e w5 ⟨rfl, hb⟩; refine ⟨_, rfl, ?_⟩; have n0_ := Aside0.mk (below_step (by repeat (first | (with_reducible first | exact HB.out | apply below_alloc | apply pw_below_drewN | apply below_drew1) | exact HB.out)) hb); clear HB; have HB := n0_; clear n0_; (try clear hb); (try clear hb2); (try clear hk); (try clear hi)) | ((with_reducible refine gate_dst (N := 5) rfl ?_); refine box_event ?hg (N := 5) ?hd (cs := #[.int .i64 0, .int .i64 0]) (t := 36) ?hr ?_; (case hd => rfl); (case hg => rfl); (case hr => first | (go_simp; done) | (go_simp; rfl)); intro gb128 hg w6 hbox hb; have n0_ := Aside0.mk (below_step (by repeat (first | (with_reducible first | exact HB.out | apply below_alloc | apply pw_below_drewN | apply below_drew1) | exact HB.out)) hb); have n1_ := Aside0.mk (hbox); have n2_ := Aside0.mk ((by rw [hg]; exact (below_size (by repeat (first | (with_reducible first | exact HB.out | apply below_alloc | apply pw_below_drewN | apply below_drew1) | exact HB.out))) : w.heap.size ≤ gb128)); have n3_ := Aside0.mk ((by rw [hg]; exact (below_size (by repeat (first | (with_reducible first | exact HB.out | apply below_alloc | apply pw_below_drewN | apply below_drew1) | exact HB.out))) : w.heap.size ≤ gb128)); clear HB; have HB := n0_; have BK128 := n1_; have GW128 := n2_; have GE128 := n3_; clear n0_ n1_ n2_ n3_; clear hb hbox hg; have hcz7_0 : w6.cell? ⟨gb128, 0, none⟩ = some (.int .i64 0) := (blk_cell BK128.out 0).trans rfl; have hcz7_1 : w6.cell? ⟨gb128, 1, none⟩ = some (.int .i64 0) := (blk_cell BK128.out 1).trans rfl; have hfz7_0 := blk_frozen BK128.out 0; have hfz7_1 := blk_frozen BK128.out 1) | ((with_reducible refine gate_callee (f := 50) rfl ?_); refine goesL_ (some 20) rfl rfl Try.func50 (by kernel_rfl) rfl #[.int .i64 a0] rfl (by (try simp only [List.map_toArray, List.map_cons, List.map_nil]); first | done | rfl | (simp only [List.length_drop, List.length_take]; rfl)) ?_; (with_reducible refine (value_Next.calls a0 t129 t130 _ A3.out).mono ?_); rintro e w' ⟨rfl, ⟨nd, rfl⟩⟩; refine ⟨_, rfl, ?_⟩))
  (try simp only [Act.put, List.setIfInBounds_toArray, List.set_cons_zero, List.set_cons_succ])
  go_cut [58] (fun v58 wc => ∃ (kq : Nat) (x58_3 : Bool), v58 = .bool x58_3 ∧ Aside0 (hearthlaw2_ValueSorts.j0 kq a0 (Go.bits .and .i64 a0 7) (a0 / 8) t127 t129 t130 x58_3 = some r) ∧ Aside0 (kq ≤ k) ∧ Aside0 (wc.heap[gb128]? = some (.cells #[.int .i64 t125, .int .i64 t126] 36 (0, 0))) ∧ Aside0 (Below w.heap.size w wc))
  case first =>
    have H := HC4.out
    clear HC4
    replace H := Option.bind_eq_some_iff.mp H
    obtain ⟨t131, A80, H⟩ := H
    replace H : (if t131 = true then (if t127 = true then (if t130 = true then (hearthlaw2_ValueSorts.j0 k a0 (Go.bits .and .i64 a0 7) (a0 / 8) t127 t129 t130 true) else (if t125 = (wrap64 ((Go.bits .and .i64 a0 7) + 1)) then (if t126 = (a0 / 8) then (hearthlaw2_ValueSorts.j0 k a0 (Go.bits .and .i64 a0 7) (a0 / 8) t127 t129 t130 false) else (hearthlaw2_ValueSorts.j0 k a0 (Go.bits .and .i64 a0 7) (a0 / 8) t127 t129 t130 true)) else (hearthlaw2_ValueSorts.j0 k a0 (Go.bits .and .i64 a0 7) (a0 / 8) t127 t129 t130 true))) else (if t130 = true then (if (Go.bits .and .i64 a0 7) = 4 then (hearthlaw2_ValueSorts.j0 k a0 (Go.bits .and .i64 a0 7) (a0 / 8) t127 t129 t130 (t129 != (a0 / 8))) else (hearthlaw2_ValueSorts.j0 k a0 (Go.bits .and .i64 a0 7) (a0 / 8) t127 t129 t130 true)) else (hearthlaw2_ValueSorts.j0 k a0 (Go.bits .and .i64 a0 7) (a0 / 8) t127 t129 t130 false))) else (hearthlaw2_ValueSorts.j0 k a0 (Go.bits .and .i64 a0 7) (a0 / 8) t127 t129 t130 true)) = some r := H
    have A8 := Aside0.mk A80
    clear A80
    by_cases c9 : t131 = true
    · subst c9
      have H1 : (if t127 = true then (if t130 = true then (hearthlaw2_ValueSorts.j0 k a0 (Go.bits .and .i64 a0 7) (a0 / 8) t127 t129 t130 true) else (if t125 = (wrap64 ((Go.bits .and .i64 a0 7) + 1)) then (if t126 = (a0 / 8) then (hearthlaw2_ValueSorts.j0 k a0 (Go.bits .and .i64 a0 7) (a0 / 8) t127 t129 t130 false) else (hearthlaw2_ValueSorts.j0 k a0 (Go.bits .and .i64 a0 7) (a0 / 8) t127 t129 t130 true)) else (hearthlaw2_ValueSorts.j0 k a0 (Go.bits .and .i64 a0 7) (a0 / 8) t127 t129 t130 true))) else (if t130 = true then (if (Go.bits .and .i64 a0 7) = 4 then (hearthlaw2_ValueSorts.j0 k a0 (Go.bits .and .i64 a0 7) (a0 / 8) t127 t129 t130 (t129 != (a0 / 8))) else (hearthlaw2_ValueSorts.j0 k a0 (Go.bits .and .i64 a0 7) (a0 / 8) t127 t129 t130 true)) else (hearthlaw2_ValueSorts.j0 k a0 (Go.bits .and .i64 a0 7) (a0 / 8) t127 t129 t130 false))) = some r := by rw [if_pos rfl] at H; exact H
      clear H
      have H := H1
      clear H1
      by_cases c10 : t127 = true
      · subst c10
        have H1 : (if t130 = true then (hearthlaw2_ValueSorts.j0 k a0 (Go.bits .and .i64 a0 7) (a0 / 8) true t129 t130 true) else (if t125 = (wrap64 ((Go.bits .and .i64 a0 7) + 1)) then (if t126 = (a0 / 8) then (hearthlaw2_ValueSorts.j0 k a0 (Go.bits .and .i64 a0 7) (a0 / 8) true t129 t130 false) else (hearthlaw2_ValueSorts.j0 k a0 (Go.bits .and .i64 a0 7) (a0 / 8) true t129 t130 true)) else (hearthlaw2_ValueSorts.j0 k a0 (Go.bits .and .i64 a0 7) (a0 / 8) true t129 t130 true))) = some r := by rw [if_pos rfl] at H; exact H
        clear H
        have H := H1
        clear H1
        by_cases c11 : t130 = true
        · subst c11
          have H1 : (hearthlaw2_ValueSorts.j0 k a0 (Go.bits .and .i64 a0 7) (a0 / 8) true t129 true true) = some r := by rw [if_pos rfl] at H; exact H
          clear H
          have H := H1
          clear H1
          have H' := Aside0.mk H
          clear H
          go_wp2_with (first | ((with_reducible refine gate_callee (f := 39) rfl ?_); refine goesL_ (some 23) rfl rfl Try.func39 (by kernel_rfl) rfl #[] rfl (by (try simp only [List.map_toArray, List.map_cons, List.map_nil]); first | done | rfl | (simp only [List.length_drop, List.length_take]; rfl)) ?_; (with_reducible refine (hearthlaw2_alive.calls  true _ A8.out).mono ?_); rintro e w12 ⟨rfl, hb⟩; refine ⟨_, rfl, ?_⟩; have n0_ := Aside0.mk (blk_below (g := gb128) (o := .cells #[.int .i64 t125, .int .i64 t126] 36 (0, 0)) (by (with_reducible repeat (first | refine blk_drewN ?_ _ | refine blk_drew ?_ | refine blk_alloc ?_ _)); refine blk_put (cs := #[.int .i64 t125, .int .i64 0]) ?_ 1 _ rfl; (with_reducible repeat (first | refine blk_drewN ?_ _ | refine blk_drew ?_ | refine blk_alloc ?_ _)); refine blk_put (cs := #[.int .i64 0, .int .i64 0]) ?_ 0 _ rfl; (with_reducible repeat (first | refine blk_drewN ?_ _ | refine blk_drew ?_ | refine blk_alloc ?_ _)); exact BK128.out) hb); have n1_ := Aside0.mk (below_step (by repeat (first | (with_reducible first | exact HB.out | apply below_alloc | apply pw_below_drewN | apply below_drew1 | refine below_set ?_ GE128.out) | exact HB.out)) hb); clear BK128; clear HB; have BK128 := n0_; have HB := n1_; clear n0_ n1_; (try clear hb); (try clear hb2); (try clear hk); (try clear hi)))
          go_meet
          case rel => exact ⟨_, (true), (by first | rfl | (simp; done) | (simp [*]; done)), H', ⟨by first | omega | exact Nat.le_refl _⟩, ⟨by (with_reducible repeat (first | refine blk_drewN ?_ _ | refine blk_drew ?_ | refine blk_alloc ?_ _)); exact BK128.out⟩, ⟨by repeat (first | (with_reducible first | exact HB.out | apply below_alloc | apply pw_below_drewN | apply below_drew1 | refine below_set ?_ GE128.out) | exact HB.out)⟩⟩
        · replace c11 := Bool.eq_false_iff.mpr c11
          subst c11
          have H1 : (if t125 = (wrap64 ((Go.bits .and .i64 a0 7) + 1)) then (if t126 = (a0 / 8) then (hearthlaw2_ValueSorts.j0 k a0 (Go.bits .and .i64 a0 7) (a0 / 8) true t129 false false) else (hearthlaw2_ValueSorts.j0 k a0 (Go.bits .and .i64 a0 7) (a0 / 8) true t129 false true)) else (hearthlaw2_ValueSorts.j0 k a0 (Go.bits .and .i64 a0 7) (a0 / 8) true t129 false true)) = some r := by rw [if_neg (show ¬ (false = true) by decide)] at H; exact H
          clear H
          have H := H1
          clear H1
          by_cases c13 : t125 = (wrap64 ((Go.bits .and .i64 a0 7) + 1))
          · rw [if_pos c13] at H
            have c13b0 : (t125 == (wrap64 ((Go.bits .and .i64 a0 7) + 1))) = true := beq_iff_eq.mpr c13
            have c13b1 : (t125 != (wrap64 ((Go.bits .and .i64 a0 7) + 1))) = false := bne_eq_false_iff_eq.mpr c13
            clear c13
            (first | rw [c13b0] | (simp only [i64_w, i32_w]; rw [c13b0]) | skip)
            by_cases c14 : t126 = (a0 / 8)
            · rw [if_pos c14] at H
              have c14b0 : (t126 == (a0 / 8)) = true := beq_iff_eq.mpr c14
              have c14b1 : (t126 != (a0 / 8)) = false := bne_eq_false_iff_eq.mpr c14
              clear c14
              have H' := Aside0.mk H
              clear H
              go_wp2_with (first | ((with_reducible refine gate_callee (f := 39) rfl ?_); refine goesL_ (some 23) rfl rfl Try.func39 (by kernel_rfl) rfl #[] rfl (by (try simp only [List.map_toArray, List.map_cons, List.map_nil]); first | done | rfl | (simp only [List.length_drop, List.length_take]; rfl)) ?_; (with_reducible refine (hearthlaw2_alive.calls  true _ A8.out).mono ?_); rintro e w15 ⟨rfl, hb⟩; refine ⟨_, rfl, ?_⟩; have n0_ := Aside0.mk (blk_below (g := gb128) (o := .cells #[.int .i64 t125, .int .i64 t126] 36 (0, 0)) (by (with_reducible repeat (first | refine blk_drewN ?_ _ | refine blk_drew ?_ | refine blk_alloc ?_ _)); refine blk_put (cs := #[.int .i64 t125, .int .i64 0]) ?_ 1 _ rfl; (with_reducible repeat (first | refine blk_drewN ?_ _ | refine blk_drew ?_ | refine blk_alloc ?_ _)); refine blk_put (cs := #[.int .i64 0, .int .i64 0]) ?_ 0 _ rfl; (with_reducible repeat (first | refine blk_drewN ?_ _ | refine blk_drew ?_ | refine blk_alloc ?_ _)); exact BK128.out) hb); have n1_ := Aside0.mk (below_step (by repeat (first | (with_reducible first | exact HB.out | apply below_alloc | apply pw_below_drewN | apply below_drew1 | refine below_set ?_ GE128.out) | exact HB.out)) hb); clear BK128; clear HB; have BK128 := n0_; have HB := n1_; clear n0_ n1_; (try clear hb); (try clear hb2); (try clear hk); (try clear hi); have hcz16_0 : w15.cell? ⟨gb128, 0, none⟩ = some (.int .i64 t125) := (blk_cell BK128.out 0).trans rfl; have hcz16_1 : w15.cell? ⟨gb128, 1, none⟩ = some (.int .i64 t126) := (blk_cell BK128.out 1).trans rfl; have hfz16_0 := blk_frozen BK128.out 0; have hfz16_1 := blk_frozen BK128.out 1))
              go_meet
              case rel => exact ⟨_, (false), (by first | rfl | (simp; done) | (simp [*]; done)), H', ⟨by first | omega | exact Nat.le_refl _⟩, ⟨by (with_reducible repeat (first | refine blk_drewN ?_ _ | refine blk_drew ?_ | refine blk_alloc ?_ _)); exact BK128.out⟩, ⟨by repeat (first | (with_reducible first | exact HB.out | apply below_alloc | apply pw_below_drewN | apply below_drew1 | refine below_set ?_ GE128.out) | exact HB.out)⟩⟩
            · rw [if_neg c14] at H
              have c14b0 : (t126 == (a0 / 8)) = false := beq_eq_false_iff_ne.mpr c14
              have c14b1 : (t126 != (a0 / 8)) = true := bne_iff_ne.mpr c14
              have H' := Aside0.mk H
              clear H
              go_wp2_with (first | ((with_reducible refine gate_callee (f := 39) rfl ?_); refine goesL_ (some 23) rfl rfl Try.func39 (by kernel_rfl) rfl #[] rfl (by (try simp only [List.map_toArray, List.map_cons, List.map_nil]); first | done | rfl | (simp only [List.length_drop, List.length_take]; rfl)) ?_; (with_reducible refine (hearthlaw2_alive.calls  true _ A8.out).mono ?_); rintro e w17 ⟨rfl, hb⟩; refine ⟨_, rfl, ?_⟩; have n0_ := Aside0.mk (blk_below (g := gb128) (o := .cells #[.int .i64 t125, .int .i64 t126] 36 (0, 0)) (by (with_reducible repeat (first | refine blk_drewN ?_ _ | refine blk_drew ?_ | refine blk_alloc ?_ _)); refine blk_put (cs := #[.int .i64 t125, .int .i64 0]) ?_ 1 _ rfl; (with_reducible repeat (first | refine blk_drewN ?_ _ | refine blk_drew ?_ | refine blk_alloc ?_ _)); refine blk_put (cs := #[.int .i64 0, .int .i64 0]) ?_ 0 _ rfl; (with_reducible repeat (first | refine blk_drewN ?_ _ | refine blk_drew ?_ | refine blk_alloc ?_ _)); exact BK128.out) hb); have n1_ := Aside0.mk (below_step (by repeat (first | (with_reducible first | exact HB.out | apply below_alloc | apply pw_below_drewN | apply below_drew1 | refine below_set ?_ GE128.out) | exact HB.out)) hb); clear BK128; clear HB; have BK128 := n0_; have HB := n1_; clear n0_ n1_; (try clear hb); (try clear hb2); (try clear hk); (try clear hi); have hcz18_0 : w17.cell? ⟨gb128, 0, none⟩ = some (.int .i64 t125) := (blk_cell BK128.out 0).trans rfl; have hcz18_1 : w17.cell? ⟨gb128, 1, none⟩ = some (.int .i64 t126) := (blk_cell BK128.out 1).trans rfl; have hfz18_0 := blk_frozen BK128.out 0; have hfz18_1 := blk_frozen BK128.out 1))
              go_meet
              case rel => exact ⟨_, (true), (by first | rfl | (simp; done) | (simp [*]; done)), H', ⟨by first | omega | exact Nat.le_refl _⟩, ⟨by (with_reducible repeat (first | refine blk_drewN ?_ _ | refine blk_drew ?_ | refine blk_alloc ?_ _)); exact BK128.out⟩, ⟨by repeat (first | (with_reducible first | exact HB.out | apply below_alloc | apply pw_below_drewN | apply below_drew1 | refine below_set ?_ GE128.out) | exact HB.out)⟩⟩
          · rw [if_neg c13] at H
            have c13b0 : (t125 == (wrap64 ((Go.bits .and .i64 a0 7) + 1))) = false := beq_eq_false_iff_ne.mpr c13
            have c13b1 : (t125 != (wrap64 ((Go.bits .and .i64 a0 7) + 1))) = true := bne_iff_ne.mpr c13
            (first | rw [c13b0] | (simp only [i64_w, i32_w]; rw [c13b0]) | skip)
            have H' := Aside0.mk H
            clear H
            go_wp2_with (first | ((with_reducible refine gate_callee (f := 39) rfl ?_); refine goesL_ (some 23) rfl rfl Try.func39 (by kernel_rfl) rfl #[] rfl (by (try simp only [List.map_toArray, List.map_cons, List.map_nil]); first | done | rfl | (simp only [List.length_drop, List.length_take]; rfl)) ?_; (with_reducible refine (hearthlaw2_alive.calls  true _ A8.out).mono ?_); rintro e w19 ⟨rfl, hb⟩; refine ⟨_, rfl, ?_⟩; have n0_ := Aside0.mk (blk_below (g := gb128) (o := .cells #[.int .i64 t125, .int .i64 t126] 36 (0, 0)) (by (with_reducible repeat (first | refine blk_drewN ?_ _ | refine blk_drew ?_ | refine blk_alloc ?_ _)); refine blk_put (cs := #[.int .i64 t125, .int .i64 0]) ?_ 1 _ rfl; (with_reducible repeat (first | refine blk_drewN ?_ _ | refine blk_drew ?_ | refine blk_alloc ?_ _)); refine blk_put (cs := #[.int .i64 0, .int .i64 0]) ?_ 0 _ rfl; (with_reducible repeat (first | refine blk_drewN ?_ _ | refine blk_drew ?_ | refine blk_alloc ?_ _)); exact BK128.out) hb); have n1_ := Aside0.mk (below_step (by repeat (first | (with_reducible first | exact HB.out | apply below_alloc | apply pw_below_drewN | apply below_drew1 | refine below_set ?_ GE128.out) | exact HB.out)) hb); clear BK128; clear HB; have BK128 := n0_; have HB := n1_; clear n0_ n1_; (try clear hb); (try clear hb2); (try clear hk); (try clear hi); have hcz20_0 : w19.cell? ⟨gb128, 0, none⟩ = some (.int .i64 t125) := (blk_cell BK128.out 0).trans rfl; have hcz20_1 : w19.cell? ⟨gb128, 1, none⟩ = some (.int .i64 t126) := (blk_cell BK128.out 1).trans rfl; have hfz20_0 := blk_frozen BK128.out 0; have hfz20_1 := blk_frozen BK128.out 1))
            go_meet
            case rel => exact ⟨_, (true), (by first | rfl | (simp; done) | (simp [*]; done)), H', ⟨by first | omega | exact Nat.le_refl _⟩, ⟨by (with_reducible repeat (first | refine blk_drewN ?_ _ | refine blk_drew ?_ | refine blk_alloc ?_ _)); exact BK128.out⟩, ⟨by repeat (first | (with_reducible first | exact HB.out | apply below_alloc | apply pw_below_drewN | apply below_drew1 | refine below_set ?_ GE128.out) | exact HB.out)⟩⟩
      · replace c10 := Bool.eq_false_iff.mpr c10
        subst c10
        have H1 : (if t130 = true then (if (Go.bits .and .i64 a0 7) = 4 then (hearthlaw2_ValueSorts.j0 k a0 (Go.bits .and .i64 a0 7) (a0 / 8) false t129 t130 (t129 != (a0 / 8))) else (hearthlaw2_ValueSorts.j0 k a0 (Go.bits .and .i64 a0 7) (a0 / 8) false t129 t130 true)) else (hearthlaw2_ValueSorts.j0 k a0 (Go.bits .and .i64 a0 7) (a0 / 8) false t129 t130 false)) = some r := by rw [if_neg (show ¬ (false = true) by decide)] at H; exact H
        clear H
        have H := H1
        clear H1
        by_cases c21 : t130 = true
        · subst c21
          have H1 : (if (Go.bits .and .i64 a0 7) = 4 then (hearthlaw2_ValueSorts.j0 k a0 (Go.bits .and .i64 a0 7) (a0 / 8) false t129 true (t129 != (a0 / 8))) else (hearthlaw2_ValueSorts.j0 k a0 (Go.bits .and .i64 a0 7) (a0 / 8) false t129 true true)) = some r := by rw [if_pos rfl] at H; exact H
          clear H
          have H := H1
          clear H1
          by_cases c22 : (Go.bits .and .i64 a0 7) = 4
          · rw [if_pos c22] at H
            have c22b0 : ((Go.bits .and .i64 a0 7) == 4) = true := beq_iff_eq.mpr c22
            have c22b1 : ((Go.bits .and .i64 a0 7) != 4) = false := bne_eq_false_iff_eq.mpr c22
            clear c22
            have H' := Aside0.mk H
            clear H
            go_wp2_with (first | ((with_reducible refine gate_callee (f := 39) rfl ?_); refine goesL_ (some 23) rfl rfl Try.func39 (by kernel_rfl) rfl #[] rfl (by (try simp only [List.map_toArray, List.map_cons, List.map_nil]); first | done | rfl | (simp only [List.length_drop, List.length_take]; rfl)) ?_; (with_reducible refine (hearthlaw2_alive.calls  true _ A8.out).mono ?_); rintro e w23 ⟨rfl, hb⟩; refine ⟨_, rfl, ?_⟩; have n0_ := Aside0.mk (blk_below (g := gb128) (o := .cells #[.int .i64 t125, .int .i64 t126] 36 (0, 0)) (by (with_reducible repeat (first | refine blk_drewN ?_ _ | refine blk_drew ?_ | refine blk_alloc ?_ _)); refine blk_put (cs := #[.int .i64 t125, .int .i64 0]) ?_ 1 _ rfl; (with_reducible repeat (first | refine blk_drewN ?_ _ | refine blk_drew ?_ | refine blk_alloc ?_ _)); refine blk_put (cs := #[.int .i64 0, .int .i64 0]) ?_ 0 _ rfl; (with_reducible repeat (first | refine blk_drewN ?_ _ | refine blk_drew ?_ | refine blk_alloc ?_ _)); exact BK128.out) hb); have n1_ := Aside0.mk (below_step (by repeat (first | (with_reducible first | exact HB.out | apply below_alloc | apply pw_below_drewN | apply below_drew1 | refine below_set ?_ GE128.out) | exact HB.out)) hb); clear BK128; clear HB; have BK128 := n0_; have HB := n1_; clear n0_ n1_; (try clear hb); (try clear hb2); (try clear hk); (try clear hi)))
            go_meet
            case rel => exact ⟨_, ((t129 != (a0 / 8))), (by first | rfl | (simp; done) | (simp [*]; done)), H', ⟨by first | omega | exact Nat.le_refl _⟩, ⟨by (with_reducible repeat (first | refine blk_drewN ?_ _ | refine blk_drew ?_ | refine blk_alloc ?_ _)); exact BK128.out⟩, ⟨by repeat (first | (with_reducible first | exact HB.out | apply below_alloc | apply pw_below_drewN | apply below_drew1 | refine below_set ?_ GE128.out) | exact HB.out)⟩⟩
          · rw [if_neg c22] at H
            have c22b0 : ((Go.bits .and .i64 a0 7) == 4) = false := beq_eq_false_iff_ne.mpr c22
            have c22b1 : ((Go.bits .and .i64 a0 7) != 4) = true := bne_iff_ne.mpr c22
            have H' := Aside0.mk H
            clear H
            go_wp2_with (first | ((with_reducible refine gate_callee (f := 39) rfl ?_); refine goesL_ (some 23) rfl rfl Try.func39 (by kernel_rfl) rfl #[] rfl (by (try simp only [List.map_toArray, List.map_cons, List.map_nil]); first | done | rfl | (simp only [List.length_drop, List.length_take]; rfl)) ?_; (with_reducible refine (hearthlaw2_alive.calls  true _ A8.out).mono ?_); rintro e w24 ⟨rfl, hb⟩; refine ⟨_, rfl, ?_⟩; have n0_ := Aside0.mk (blk_below (g := gb128) (o := .cells #[.int .i64 t125, .int .i64 t126] 36 (0, 0)) (by (with_reducible repeat (first | refine blk_drewN ?_ _ | refine blk_drew ?_ | refine blk_alloc ?_ _)); refine blk_put (cs := #[.int .i64 t125, .int .i64 0]) ?_ 1 _ rfl; (with_reducible repeat (first | refine blk_drewN ?_ _ | refine blk_drew ?_ | refine blk_alloc ?_ _)); refine blk_put (cs := #[.int .i64 0, .int .i64 0]) ?_ 0 _ rfl; (with_reducible repeat (first | refine blk_drewN ?_ _ | refine blk_drew ?_ | refine blk_alloc ?_ _)); exact BK128.out) hb); have n1_ := Aside0.mk (below_step (by repeat (first | (with_reducible first | exact HB.out | apply below_alloc | apply pw_below_drewN | apply below_drew1 | refine below_set ?_ GE128.out) | exact HB.out)) hb); clear BK128; clear HB; have BK128 := n0_; have HB := n1_; clear n0_ n1_; (try clear hb); (try clear hb2); (try clear hk); (try clear hi)))
            go_meet
            case rel => exact ⟨_, (true), (by first | rfl | (simp; done) | (simp [*]; done)), H', ⟨by first | omega | exact Nat.le_refl _⟩, ⟨by (with_reducible repeat (first | refine blk_drewN ?_ _ | refine blk_drew ?_ | refine blk_alloc ?_ _)); exact BK128.out⟩, ⟨by repeat (first | (with_reducible first | exact HB.out | apply below_alloc | apply pw_below_drewN | apply below_drew1 | refine below_set ?_ GE128.out) | exact HB.out)⟩⟩
        · replace c21 := Bool.eq_false_iff.mpr c21
          subst c21
          have H1 : (hearthlaw2_ValueSorts.j0 k a0 (Go.bits .and .i64 a0 7) (a0 / 8) false t129 false false) = some r := by rw [if_neg (show ¬ (false = true) by decide)] at H; exact H
          clear H
          have H := H1
          clear H1
          have H' := Aside0.mk H
          clear H
          go_wp2_with (first | ((with_reducible refine gate_callee (f := 39) rfl ?_); refine goesL_ (some 23) rfl rfl Try.func39 (by kernel_rfl) rfl #[] rfl (by (try simp only [List.map_toArray, List.map_cons, List.map_nil]); first | done | rfl | (simp only [List.length_drop, List.length_take]; rfl)) ?_; (with_reducible refine (hearthlaw2_alive.calls  true _ A8.out).mono ?_); rintro e w25 ⟨rfl, hb⟩; refine ⟨_, rfl, ?_⟩; have n0_ := Aside0.mk (blk_below (g := gb128) (o := .cells #[.int .i64 t125, .int .i64 t126] 36 (0, 0)) (by (with_reducible repeat (first | refine blk_drewN ?_ _ | refine blk_drew ?_ | refine blk_alloc ?_ _)); refine blk_put (cs := #[.int .i64 t125, .int .i64 0]) ?_ 1 _ rfl; (with_reducible repeat (first | refine blk_drewN ?_ _ | refine blk_drew ?_ | refine blk_alloc ?_ _)); refine blk_put (cs := #[.int .i64 0, .int .i64 0]) ?_ 0 _ rfl; (with_reducible repeat (first | refine blk_drewN ?_ _ | refine blk_drew ?_ | refine blk_alloc ?_ _)); exact BK128.out) hb); have n1_ := Aside0.mk (below_step (by repeat (first | (with_reducible first | exact HB.out | apply below_alloc | apply pw_below_drewN | apply below_drew1 | refine below_set ?_ GE128.out) | exact HB.out)) hb); clear BK128; clear HB; have BK128 := n0_; have HB := n1_; clear n0_ n1_; (try clear hb); (try clear hb2); (try clear hk); (try clear hi)))
          go_meet
          case rel => exact ⟨_, (false), (by first | rfl | (simp; done) | (simp [*]; done)), H', ⟨by first | omega | exact Nat.le_refl _⟩, ⟨by (with_reducible repeat (first | refine blk_drewN ?_ _ | refine blk_drew ?_ | refine blk_alloc ?_ _)); exact BK128.out⟩, ⟨by repeat (first | (with_reducible first | exact HB.out | apply below_alloc | apply pw_below_drewN | apply below_drew1 | refine below_set ?_ GE128.out) | exact HB.out)⟩⟩
    · replace c9 := Bool.eq_false_iff.mpr c9
      subst c9
      have H1 : (hearthlaw2_ValueSorts.j0 k a0 (Go.bits .and .i64 a0 7) (a0 / 8) t127 t129 t130 true) = some r := by rw [if_neg (show ¬ (false = true) by decide)] at H; exact H
      clear H
      have H := H1
      clear H1
      have H' := Aside0.mk H
      clear H
      go_wp2_with (first | ((with_reducible refine gate_callee (f := 39) rfl ?_); refine goesL_ (some 23) rfl rfl Try.func39 (by kernel_rfl) rfl #[] rfl (by (try simp only [List.map_toArray, List.map_cons, List.map_nil]); first | done | rfl | (simp only [List.length_drop, List.length_take]; rfl)) ?_; (with_reducible refine (hearthlaw2_alive.calls  false _ A8.out).mono ?_); rintro e w26 ⟨rfl, hb⟩; refine ⟨_, rfl, ?_⟩; have n0_ := Aside0.mk (blk_below (g := gb128) (o := .cells #[.int .i64 t125, .int .i64 t126] 36 (0, 0)) (by (with_reducible repeat (first | refine blk_drewN ?_ _ | refine blk_drew ?_ | refine blk_alloc ?_ _)); refine blk_put (cs := #[.int .i64 t125, .int .i64 0]) ?_ 1 _ rfl; (with_reducible repeat (first | refine blk_drewN ?_ _ | refine blk_drew ?_ | refine blk_alloc ?_ _)); refine blk_put (cs := #[.int .i64 0, .int .i64 0]) ?_ 0 _ rfl; (with_reducible repeat (first | refine blk_drewN ?_ _ | refine blk_drew ?_ | refine blk_alloc ?_ _)); exact BK128.out) hb); have n1_ := Aside0.mk (below_step (by repeat (first | (with_reducible first | exact HB.out | apply below_alloc | apply pw_below_drewN | apply below_drew1 | refine below_set ?_ GE128.out) | exact HB.out)) hb); clear BK128; clear HB; have BK128 := n0_; have HB := n1_; clear n0_ n1_; (try clear hb); (try clear hb2); (try clear hk); (try clear hi)))
      go_meet
      case rel => exact ⟨_, (true), (by first | rfl | (simp; done) | (simp [*]; done)), H', ⟨by first | omega | exact Nat.le_refl _⟩, ⟨by (with_reducible repeat (first | refine blk_drewN ?_ _ | refine blk_drew ?_ | refine blk_alloc ?_ _)); exact BK128.out⟩, ⟨by repeat (first | (with_reducible first | exact HB.out | apply below_alloc | apply pw_below_drewN | apply below_drew1 | refine below_set ?_ GE128.out) | exact HB.out)⟩⟩
  case rest =>
    clear HC4
    try clear c1
    try clear c2
    try clear p2
    try clear c3
    try clear c4
    try clear c5
    try clear p6
    try clear c9
    try clear c10
    try clear c11
    try clear c13
    try clear c13b0
    try clear c13b1
    try clear c14
    try clear c14b0
    try clear c14b1
    try clear c21
    try clear c22
    try clear c22b0
    try clear c22b1
    try clear hcz16_0
    try clear hcz16_1
    try clear hcz18_0
    try clear hcz18_1
    try clear hcz20_0
    try clear hcz20_1
    try clear hcz7_0
    try clear hcz7_1
    try clear hfz16_0
    try clear hfz16_1
    try clear hfz18_0
    try clear hfz18_1
    try clear hfz20_0
    try clear hfz20_1
    try clear hfz7_0
    try clear hfz7_1
    obtain ⟨kq, x58_3, rfl, HA, HJ3, BK128, HB⟩ := hcut
    cases kq with
    | zero => exact absurd HA.out (by simp [hearthlaw2_ValueSorts.j0])
    | succ kj3 =>
      have H := HA.out
      clear HA
      simp only [hearthlaw2_ValueSorts.j0] at H
      by_cases c27 : x58_3 = true
      · subst c27
        have H1 : (some false) = some r := by rw [if_pos rfl] at H; exact H
        clear H
        have H := H1
        clear H1
        obtain rfl := Option.some.inj H
        go_wp2
        go_ret
        exact ⟨by first | rfl | (simp [errW_none, errW_some] <;> rfl) | (simp [*, errW_none, errW_some] <;> rfl), by repeat (first | (with_reducible first | exact HB.out | apply below_alloc | apply pw_below_drewN | apply below_drew1 | refine below_set ?_ GE128.out) | exact HB.out)⟩
      · replace c27 := Bool.eq_false_iff.mpr c27
        subst c27
        have H1 : (if t130 = true then ((value_Link.f t129).bind fun t132 => (some (t132 == a0))) else (if (Go.bits .and .i64 a0 7) = 0 then (some t127) else (if (Go.bits .and .i64 a0 7) = 1 then (some (t127 == (decide ((a0 / 8) ≥ 0)))) else (if (Go.bits .and .i64 a0 7) = 2 then (if (a0 / 8) ≥ 0 then (some (t127 == (decide ((a0 / 8) ≤ 5)))) else (some (t127 == false))) else (if (Go.bits .and .i64 a0 7) = 3 then (if (a0 / 8) ≥ 0 then (if (a0 / 8) ≤ 1114111 then (if (a0 / 8) < 55296 then (some (t127 == true)) else (some (t127 == (decide ((a0 / 8) > 57343))))) else (some (t127 == false))) else (some (t127 == false))) else (if t127 = true then (some false) else (if (Go.bits .and .i64 a0 7) = 4 then (if (a0 / 8) < (-1) then (some true) else (some (decide ((a0 / 8) > 262143)))) else (some true)))))))) = some r := by rw [if_neg (show ¬ (false = true) by decide)] at H; exact H
        clear H
        have H := H1
        clear H1
        by_cases c28 : t130 = true
        · subst c28
          have H1 : ((value_Link.f t129).bind fun t132 => (some (t132 == a0))) = some r := by rw [if_pos rfl] at H; exact H
          clear H
          have H := H1
          clear H1
          replace H := Option.bind_eq_some_iff.mp H
          obtain ⟨t132, A290, H⟩ := H
          replace H : (some (t132 == a0)) = some r := H
          have A29 := Aside0.mk A290
          clear A290
          obtain rfl := Option.some.inj H
          go_wp2_with (first | ((with_reducible refine gate_callee (f := 48) rfl ?_); refine goesL_ (some 61) rfl rfl Try.func48 (by kernel_rfl) rfl #[.int .i64 t129] rfl (by (try simp only [List.map_toArray, List.map_cons, List.map_nil]); first | done | rfl | (simp only [List.length_drop, List.length_take]; rfl)) ?_; (with_reducible refine (value_Link.calls t129 t132 _ A29.out).mono ?_); rintro e w' ⟨rfl, ⟨nd, rfl⟩⟩; refine ⟨_, rfl, ?_⟩))
          go_ret
          exact ⟨by first | rfl | (simp [errW_none, errW_some] <;> rfl) | (simp [*, errW_none, errW_some] <;> rfl), by repeat (first | (with_reducible first | exact HB.out | apply below_alloc | apply pw_below_drewN | apply below_drew1 | refine below_set ?_ GE128.out) | exact HB.out)⟩
        · replace c28 := Bool.eq_false_iff.mpr c28
          subst c28
          have H1 : (if (Go.bits .and .i64 a0 7) = 0 then (some t127) else (if (Go.bits .and .i64 a0 7) = 1 then (some (t127 == (decide ((a0 / 8) ≥ 0)))) else (if (Go.bits .and .i64 a0 7) = 2 then (if (a0 / 8) ≥ 0 then (some (t127 == (decide ((a0 / 8) ≤ 5)))) else (some (t127 == false))) else (if (Go.bits .and .i64 a0 7) = 3 then (if (a0 / 8) ≥ 0 then (if (a0 / 8) ≤ 1114111 then (if (a0 / 8) < 55296 then (some (t127 == true)) else (some (t127 == (decide ((a0 / 8) > 57343))))) else (some (t127 == false))) else (some (t127 == false))) else (if t127 = true then (some false) else (if (Go.bits .and .i64 a0 7) = 4 then (if (a0 / 8) < (-1) then (some true) else (some (decide ((a0 / 8) > 262143)))) else (some true))))))) = some r := by rw [if_neg (show ¬ (false = true) by decide)] at H; exact H
          clear H
          have H := H1
          clear H1
          by_cases c30 : (Go.bits .and .i64 a0 7) = 0
          · rw [if_pos c30] at H
            have c30b0 : ((Go.bits .and .i64 a0 7) == 0) = true := beq_iff_eq.mpr c30
            have c30b1 : ((Go.bits .and .i64 a0 7) != 0) = false := bne_eq_false_iff_eq.mpr c30
            clear c30
            obtain rfl := Option.some.inj H
            go_wp2
            go_ret
            exact ⟨by first | rfl | (simp [errW_none, errW_some] <;> rfl) | (simp [*, errW_none, errW_some] <;> rfl), by repeat (first | (with_reducible first | exact HB.out | apply below_alloc | apply pw_below_drewN | apply below_drew1 | refine below_set ?_ GE128.out) | exact HB.out)⟩
          · rw [if_neg c30] at H
            have c30b0 : ((Go.bits .and .i64 a0 7) == 0) = false := beq_eq_false_iff_ne.mpr c30
            have c30b1 : ((Go.bits .and .i64 a0 7) != 0) = true := bne_iff_ne.mpr c30
            by_cases c31 : (Go.bits .and .i64 a0 7) = 1
            · rw [if_pos c31] at H
              have c31b0 : ((Go.bits .and .i64 a0 7) == 1) = true := beq_iff_eq.mpr c31
              have c31b1 : ((Go.bits .and .i64 a0 7) != 1) = false := bne_eq_false_iff_eq.mpr c31
              clear c31
              obtain rfl := Option.some.inj H
              go_wp2
              go_ret
              exact ⟨by first | rfl | (simp [errW_none, errW_some] <;> rfl) | (simp [*, errW_none, errW_some] <;> rfl), by repeat (first | (with_reducible first | exact HB.out | apply below_alloc | apply pw_below_drewN | apply below_drew1 | refine below_set ?_ GE128.out) | exact HB.out)⟩
            · rw [if_neg c31] at H
              have c31b0 : ((Go.bits .and .i64 a0 7) == 1) = false := beq_eq_false_iff_ne.mpr c31
              have c31b1 : ((Go.bits .and .i64 a0 7) != 1) = true := bne_iff_ne.mpr c31
              by_cases c32 : (Go.bits .and .i64 a0 7) = 2
              · rw [if_pos c32] at H
                have c32b0 : ((Go.bits .and .i64 a0 7) == 2) = true := beq_iff_eq.mpr c32
                have c32b1 : ((Go.bits .and .i64 a0 7) != 2) = false := bne_eq_false_iff_eq.mpr c32
                clear c32
                by_cases c33 : (a0 / 8) ≥ 0
                · rw [if_pos c33] at H
                  have c33b0 : decide (0 ≤ (a0 / 8)) = true := decide_eq_true c33
                  clear c33
                  obtain rfl := Option.some.inj H
                  go_wp2
                  go_ret
                  exact ⟨by first | rfl | (simp [errW_none, errW_some] <;> rfl) | (simp [*, errW_none, errW_some] <;> rfl), by repeat (first | (with_reducible first | exact HB.out | apply below_alloc | apply pw_below_drewN | apply below_drew1 | refine below_set ?_ GE128.out) | exact HB.out)⟩
                · rw [if_neg c33] at H
                  have c33b0 : decide (0 ≤ (a0 / 8)) = false := decide_eq_false c33
                  clear c33
                  obtain rfl := Option.some.inj H
                  go_wp2
                  go_ret
                  exact ⟨by first | rfl | (simp [errW_none, errW_some] <;> rfl) | (simp [*, errW_none, errW_some] <;> rfl), by repeat (first | (with_reducible first | exact HB.out | apply below_alloc | apply pw_below_drewN | apply below_drew1 | refine below_set ?_ GE128.out) | exact HB.out)⟩
              · rw [if_neg c32] at H
                have c32b0 : ((Go.bits .and .i64 a0 7) == 2) = false := beq_eq_false_iff_ne.mpr c32
                have c32b1 : ((Go.bits .and .i64 a0 7) != 2) = true := bne_iff_ne.mpr c32
                by_cases c34 : (Go.bits .and .i64 a0 7) = 3
                · rw [if_pos c34] at H
                  have c34b0 : ((Go.bits .and .i64 a0 7) == 3) = true := beq_iff_eq.mpr c34
                  have c34b1 : ((Go.bits .and .i64 a0 7) != 3) = false := bne_eq_false_iff_eq.mpr c34
                  clear c34
                  by_cases c35 : (a0 / 8) ≥ 0
                  · rw [if_pos c35] at H
                    have c35b0 : decide (0 ≤ (a0 / 8)) = true := decide_eq_true c35
                    clear c35
                    by_cases c36 : (a0 / 8) ≤ 1114111
                    · rw [if_pos c36] at H
                      have c36b0 : decide ((a0 / 8) ≤ 1114111) = true := decide_eq_true c36
                      clear c36
                      by_cases c37 : (a0 / 8) < 55296
                      · rw [if_pos c37] at H
                        have c37b0 : decide ((a0 / 8) < 55296) = true := decide_eq_true c37
                        clear c37
                        obtain rfl := Option.some.inj H
                        go_wp2
                        go_ret
                        exact ⟨by first | rfl | (simp [errW_none, errW_some] <;> rfl) | (simp [*, errW_none, errW_some] <;> rfl), by repeat (first | (with_reducible first | exact HB.out | apply below_alloc | apply pw_below_drewN | apply below_drew1 | refine below_set ?_ GE128.out) | exact HB.out)⟩
                      · rw [if_neg c37] at H
                        have c37b0 : decide ((a0 / 8) < 55296) = false := decide_eq_false c37
                        clear c37
                        obtain rfl := Option.some.inj H
                        go_wp2
                        go_ret
                        exact ⟨by first | rfl | (simp [errW_none, errW_some] <;> rfl) | (simp [*, errW_none, errW_some] <;> rfl), by repeat (first | (with_reducible first | exact HB.out | apply below_alloc | apply pw_below_drewN | apply below_drew1 | refine below_set ?_ GE128.out) | exact HB.out)⟩
                    · rw [if_neg c36] at H
                      have c36b0 : decide ((a0 / 8) ≤ 1114111) = false := decide_eq_false c36
                      clear c36
                      obtain rfl := Option.some.inj H
                      go_wp2
                      go_ret
                      exact ⟨by first | rfl | (simp [errW_none, errW_some] <;> rfl) | (simp [*, errW_none, errW_some] <;> rfl), by repeat (first | (with_reducible first | exact HB.out | apply below_alloc | apply pw_below_drewN | apply below_drew1 | refine below_set ?_ GE128.out) | exact HB.out)⟩
                  · rw [if_neg c35] at H
                    have c35b0 : decide (0 ≤ (a0 / 8)) = false := decide_eq_false c35
                    clear c35
                    obtain rfl := Option.some.inj H
                    go_wp2
                    go_ret
                    exact ⟨by first | rfl | (simp [errW_none, errW_some] <;> rfl) | (simp [*, errW_none, errW_some] <;> rfl), by repeat (first | (with_reducible first | exact HB.out | apply below_alloc | apply pw_below_drewN | apply below_drew1 | refine below_set ?_ GE128.out) | exact HB.out)⟩
                · rw [if_neg c34] at H
                  have c34b0 : ((Go.bits .and .i64 a0 7) == 3) = false := beq_eq_false_iff_ne.mpr c34
                  have c34b1 : ((Go.bits .and .i64 a0 7) != 3) = true := bne_iff_ne.mpr c34
                  by_cases c38 : t127 = true
                  · subst c38
                    have H1 : (some false) = some r := by rw [if_pos rfl] at H; exact H
                    clear H
                    have H := H1
                    clear H1
                    obtain rfl := Option.some.inj H
                    go_wp2
                    go_ret
                    exact ⟨by first | rfl | (simp [errW_none, errW_some] <;> rfl) | (simp [*, errW_none, errW_some] <;> rfl), by repeat (first | (with_reducible first | exact HB.out | apply below_alloc | apply pw_below_drewN | apply below_drew1 | refine below_set ?_ GE128.out) | exact HB.out)⟩
                  · replace c38 := Bool.eq_false_iff.mpr c38
                    subst c38
                    have H1 : (if (Go.bits .and .i64 a0 7) = 4 then (if (a0 / 8) < (-1) then (some true) else (some (decide ((a0 / 8) > 262143)))) else (some true)) = some r := by rw [if_neg (show ¬ (false = true) by decide)] at H; exact H
                    clear H
                    have H := H1
                    clear H1
                    by_cases c39 : (Go.bits .and .i64 a0 7) = 4
                    · rw [if_pos c39] at H
                      have c39b0 : ((Go.bits .and .i64 a0 7) == 4) = true := beq_iff_eq.mpr c39
                      have c39b1 : ((Go.bits .and .i64 a0 7) != 4) = false := bne_eq_false_iff_eq.mpr c39
                      clear c39
                      by_cases c40 : (a0 / 8) < (-1)
                      · rw [if_pos c40] at H
                        have c40b0 : decide ((a0 / 8) < (-1)) = true := decide_eq_true c40
                        clear c40
                        obtain rfl := Option.some.inj H
                        go_wp2
                        go_ret
                        exact ⟨by first | rfl | (simp [errW_none, errW_some] <;> rfl) | (simp [*, errW_none, errW_some] <;> rfl), by repeat (first | (with_reducible first | exact HB.out | apply below_alloc | apply pw_below_drewN | apply below_drew1 | refine below_set ?_ GE128.out) | exact HB.out)⟩
                      · rw [if_neg c40] at H
                        have c40b0 : decide ((a0 / 8) < (-1)) = false := decide_eq_false c40
                        clear c40
                        obtain rfl := Option.some.inj H
                        go_wp2
                        go_ret
                        exact ⟨by first | rfl | (simp [errW_none, errW_some] <;> rfl) | (simp [*, errW_none, errW_some] <;> rfl), by repeat (first | (with_reducible first | exact HB.out | apply below_alloc | apply pw_below_drewN | apply below_drew1 | refine below_set ?_ GE128.out) | exact HB.out)⟩
                    · rw [if_neg c39] at H
                      have c39b0 : ((Go.bits .and .i64 a0 7) == 4) = false := beq_eq_false_iff_ne.mpr c39
                      have c39b1 : ((Go.bits .and .i64 a0 7) != 4) = true := bne_iff_ne.mpr c39
                      obtain rfl := Option.some.inj H
                      go_wp2
                      go_ret
                      exact ⟨by first | rfl | (simp [errW_none, errW_some] <;> rfl) | (simp [*, errW_none, errW_some] <;> rfl), by repeat (first | (with_reducible first | exact HB.out | apply below_alloc | apply pw_below_drewN | apply below_drew1 | refine below_set ?_ GE128.out) | exact HB.out)⟩

/-- THE ONE PURE STATEMENT of hearthlaw2_ValueSorts: yours. -/
def hearthlaw2_ValueSorts.Pure : Prop := ∀ (a0 : Int), (Lit.int .i64 a0).wf = true → ∃ k, hearthlaw2_ValueSorts.f k a0 = some true
theorem hearthlaw2_ValueSorts.walk (P : hearthlaw2_ValueSorts.Pure) (a0 : Int) (w : World) (w0 : (Lit.int .i64 a0).wf = true) :
    Calls Try.prog 21 #[.int .i64 a0] w fun e w' => e = .returned (.bool true) ∧ Below w.heap.size w w' := by
  obtain ⟨k, h⟩ := P a0 w0
  refine (hearthlaw2_ValueSorts.calls k a0 true w h).mono ?_
  rintro e w' ⟨rfl, hd⟩
  exact ⟨rfl, hd⟩

end Go.Proofs.Ytmnhhcjonephkaa.PValueSorts
