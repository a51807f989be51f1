-- PRINTED BY print.sh 35421559b90ae4d0a3588c463048766b98c2df88dd9212a6774a882060cdf62d: not written by this session
import Derived.Test.YtmnhhcjonephkaaPHashAllx0
import Derived.Test.YtmnhhcjonephkaaPHashAllx1
import Derived.Test.YtmnhhcjonephkaaPHashAllx2
import Derived.Test.YtmnhhcjonephkaaPHashAllx3
namespace Go.Proofs.Ytmnhhcjonephkaa.PHashAll
open Go.RowKit Go.Proofs.YtmnhhcjonephkaaW.PrintWords Go.Proofs.YtmnhhcjonephkaaW.PrintLast Go.Proofs.YtmnhhcjonephkaaW.PrintMore
attribute [local go_sem] max2_int min2_int max_two min_two max_three min_three max_four min_four   -- for this text's walks alone
set_option linter.unusedVariables false
set_option linter.unusedSimpArgs false

/-! ### hearthlaw11_HashAll: function 13 -/
mutual
def hearthlaw11_HashAll.l0 : Nat → List (S38) → Int → Option (Bool)
  | 0, _, _ => none
  | k + 1, x0, x3 => if x3 < 2 then (hearthlaw11_HashAll.l1 k x0 x3 0) else ((hearthlaw11_alive.f).bind fun t133 => (some t133))
def hearthlaw11_HashAll.l1 : Nat → List (S38) → Int → Int → Option (Bool)
  | 0, _, _, _ => none
  | k + 1, x0, x3, x4 => if x4 < (x0.length : Int) then (if 0 ≤ x4 then ((hearthlaw11_HashOf.f k ((rd_T38 x0 x4).f0.f0) ((rd_T38 x0 x4).f0.f1) ((rd_T38 x0 x4).f1) ((rd_T38 x0 x4).f2) ((rd_T38 x0 x4).f3) ((rd_T38 x0 x4).f4)).bind fun t135 => (if t135 = true then ((hearthlaw11_HashSlots.f k ((rd_T38 x0 x4).f0.f0) ((rd_T38 x0 x4).f0.f1) ((rd_T38 x0 x4).f1) ((rd_T38 x0 x4).f2) ((rd_T38 x0 x4).f3) ((rd_T38 x0 x4).f4)).bind fun t137 => (if t137 = true then ((hearthlaw11_HashGrows.f k ((rd_T38 x0 x4).f0.f0) ((rd_T38 x0 x4).f0.f1) ((rd_T38 x0 x4).f1) ((rd_T38 x0 x4).f2) ((rd_T38 x0 x4).f3) ((rd_T38 x0 x4).f4)).bind fun t139 => (if t139 = true then (hearthlaw11_HashAll.l1 k x0 x3 (wrap64 (x4 + 1))) else (some false))) else (some false))) else (some false))) else (none)) else (hearthlaw11_HashAll.l0 k x0 (wrap64 (x3 + 1)))
end
def hearthlaw11_HashAll.f (k : Nat) (l0 : List (S38)) : Option (Bool) := hearthlaw11_HashAll.l0 k l0 0
theorem hearthlaw11_HashAll.mono_l : ∀ k, (∀ y0 y1, LeO (hearthlaw11_HashAll.l0 k y0 y1) (hearthlaw11_HashAll.l0 (k + 1) y0 y1)) ∧ (∀ y0 y1 y2, LeO (hearthlaw11_HashAll.l1 k y0 y1 y2) (hearthlaw11_HashAll.l1 (k + 1) y0 y1 y2))
  | 0 => ⟨fun _ _ r h => by simp [hearthlaw11_HashAll.l0] at h, fun _ _ _ r h => by simp [hearthlaw11_HashAll.l1] at h⟩
  | k + 1 => by
    obtain ⟨ih0, ih1⟩ := hearthlaw11_HashAll.mono_l k
    refine ⟨?_, ?_⟩
    · intro y0 y1
      unfold hearthlaw11_HashAll.l0
      repeat' first
      | (with_reducible exact ih0 _ _)
      | (with_reducible exact ih1 _ _ _)
      | (with_reducible exact hearthlaw11_HashGrows.mono _ _ _ _ _ _ _)
      | (with_reducible exact hearthlaw11_HashOf.mono _ _ _ _ _ _ _)
      | (with_reducible exact hearthlaw11_HashSlots.mono _ _ _ _ _ _ _)
      | (with_reducible exact LeO.refl _)
      | (with_reducible exact LeO.none _)
      | (with_reducible refine LeO.ite ?_ ?_)
      | (with_reducible refine LeO.bind ?_ (fun _ => ?_))
      | exact ih0 _ _
      | exact ih1 _ _ _
      | exact hearthlaw11_HashGrows.mono _ _ _ _ _ _ _
      | exact hearthlaw11_HashOf.mono _ _ _ _ _ _ _
      | exact hearthlaw11_HashSlots.mono _ _ _ _ _ _ _
      | exact LeO.none _
      | refine LeO.ite ?_ ?_
      | refine LeO.bind ?_ (fun _ => ?_)
    · intro y0 y1 y2
      unfold hearthlaw11_HashAll.l1
      repeat' first
      | (with_reducible exact ih0 _ _)
      | (with_reducible exact ih1 _ _ _)
      | (with_reducible exact hearthlaw11_HashGrows.mono _ _ _ _ _ _ _)
      | (with_reducible exact hearthlaw11_HashOf.mono _ _ _ _ _ _ _)
      | (with_reducible exact hearthlaw11_HashSlots.mono _ _ _ _ _ _ _)
      | (with_reducible exact LeO.refl _)
      | (with_reducible exact LeO.none _)
      | (with_reducible refine LeO.ite ?_ ?_)
      | (with_reducible refine LeO.bind ?_ (fun _ => ?_))
      | exact ih0 _ _
      | exact ih1 _ _ _
      | exact hearthlaw11_HashGrows.mono _ _ _ _ _ _ _
      | exact hearthlaw11_HashOf.mono _ _ _ _ _ _ _
      | exact hearthlaw11_HashSlots.mono _ _ _ _ _ _ _
      | exact LeO.none _
      | refine LeO.ite ?_ ?_
      | refine LeO.bind ?_ (fun _ => ?_)
theorem hearthlaw11_HashAll.mono : ∀ a0 k, LeO (hearthlaw11_HashAll.f k a0) (hearthlaw11_HashAll.f (k + 1) a0) := by
  intro a0 k
  obtain ⟨ih0, ih1⟩ := hearthlaw11_HashAll.mono_l k
  unfold hearthlaw11_HashAll.f
  repeat' first
      | (with_reducible exact ih0 _ _)
      | (with_reducible exact ih1 _ _ _)
      | (with_reducible exact hearthlaw11_HashGrows.mono _ _ _ _ _ _ _)
      | (with_reducible exact hearthlaw11_HashOf.mono _ _ _ _ _ _ _)
      | (with_reducible exact hearthlaw11_HashSlots.mono _ _ _ _ _ _ _)
      | (with_reducible exact LeO.refl _)
      | (with_reducible exact LeO.none _)
      | (with_reducible refine LeO.ite ?_ ?_)
      | (with_reducible refine LeO.bind ?_ (fun _ => ?_))
      | exact ih0 _ _
      | exact ih1 _ _ _
      | exact hearthlaw11_HashGrows.mono _ _ _ _ _ _ _
      | exact hearthlaw11_HashOf.mono _ _ _ _ _ _ _
      | exact hearthlaw11_HashSlots.mono _ _ _ _ _ _ _
      | exact LeO.none _
      | refine LeO.ite ?_ ?_
      | refine LeO.bind ?_ (fun _ => ?_)
set_option maxHeartbeats 8000000 in
set_option maxRecDepth 100000 in
theorem hearthlaw11_HashAll.calls (k : Nat) (A0 : Option Addr) (c0 : Nat) (l0 : List (S38)) (r : Bool) (w : World) (hr0 : Kd.C k38 w A0 l0.length l0) (hc0 : l0.length ≤ c0) (h : hearthlaw11_HashAll.f k l0 = some r) :
    Calls Try.prog 13 #[.slice A0 l0.length c0] w fun e w' => e = .returned (.bool r) ∧ Below w.heap.size w w' := by
  have hu38 := Try.underlying38
  have HR0 := Aside0.mk hr0
  have HC0 := Aside0.mk hc0
  clear hr0 hc0
  have HB := Aside0.mk (Below.refl w.heap.size w)
  have H : (hearthlaw11_HashAll.l0 k l0 0) = some r := h
  clear h
  have H' := Aside0.mk H
  clear H
  go_enter Try.func13, Try.ntmps13
  go_wp2
  go_loopg [3] k (fun kq v3 w' => ∃ (x3_1 : Int), v3 = .int .i64 x3_1 ∧ Aside0 (hearthlaw11_HashAll.l0 kq l0 x3_1 = some r) ∧ Aside0 (kq ≤ k) ∧ Aside0 (Below w.heap.size w w'))
  case atStart => exact ⟨(0), (by first | rfl | (simp; done) | (simp [*]; done)), H', ⟨Nat.le_refl _⟩, ⟨by repeat (first | (with_reducible first | exact HB.out | apply below_alloc | apply pw_below_drewN | apply below_drew1) | exact HB.out)⟩⟩
  case round =>
    clear H'
    try clear c1
    obtain ⟨x3_1, rfl, HA, HK1, HB⟩ := hrel
    cases gk with
    | zero => exact absurd HA.out (by simp [hearthlaw11_HashAll.l0])
    | succ k1 =>
      have H := HA.out
      clear HA
      simp only [hearthlaw11_HashAll.l0] at H
      by_cases c2 : x3_1 < 2
      · rw [if_pos c2] at H
        have c2b0 : decide (x3_1 < 2) = true := decide_eq_true c2
        clear c2
        have H' := Aside0.mk H
        clear H
        go_wp2
        go_loopg [4] k1 (fun kq v4 w' => ∃ (x4_2 : Int), v4 = .int .i64 x4_2 ∧ Aside0 (hearthlaw11_HashAll.l1 kq l0 x3_1 x4_2 = some r) ∧ Aside0 (kq ≤ k1) ∧ Aside0 (Below w.heap.size w w'))
        case atStart => exact ⟨(0), (by first | rfl | (simp; done) | (simp [*]; done)), H', ⟨Nat.le_refl _⟩, ⟨by repeat (first | (with_reducible first | exact HB.out | apply below_alloc | apply pw_below_drewN | apply below_drew1) | exact HB.out)⟩⟩
        case round =>
          clear H'
          try clear c1
          try clear c2
          try clear c2b0
          try clear p2
          obtain ⟨x4_2, rfl, HA, HK2, HB⟩ := hrel
          cases gk with
          | zero => exact absurd HA.out (by simp [hearthlaw11_HashAll.l1])
          | succ k2 =>
            have H := HA.out
            clear HA
            simp only [hearthlaw11_HashAll.l1] at H
            by_cases c3 : x4_2 < (l0.length : Int)
            · rw [if_pos c3] at H
              have c3b0 : decide (x4_2 < (l0.length : Int)) = true := decide_eq_true c3
              clear c3
              by_cases c4 : 0 ≤ x4_2
              · rw [if_pos c4] at H
                have c4b0 : decide (0 ≤ x4_2) = true := decide_eq_true c4
                clear c4
                replace H := Option.bind_eq_some_iff.mp H
                obtain ⟨t135, A50, H⟩ := H
                replace H : (if t135 = true then ((hearthlaw11_HashSlots.f k2 ((rd_T38 l0 x4_2).f0.f0) ((rd_T38 l0 x4_2).f0.f1) ((rd_T38 l0 x4_2).f1) ((rd_T38 l0 x4_2).f2) ((rd_T38 l0 x4_2).f3) ((rd_T38 l0 x4_2).f4)).bind fun t137 => (if t137 = true then ((hearthlaw11_HashGrows.f k2 ((rd_T38 l0 x4_2).f0.f0) ((rd_T38 l0 x4_2).f0.f1) ((rd_T38 l0 x4_2).f1) ((rd_T38 l0 x4_2).f2) ((rd_T38 l0 x4_2).f3) ((rd_T38 l0 x4_2).f4)).bind fun t139 => (if t139 = true then (hearthlaw11_HashAll.l1 k2 l0 x3_1 (wrap64 (x4_2 + 1))) else (some false))) else (some false))) else (some false)) = some r := H
                have A5 := Aside0.mk A50
                clear A50
                by_cases c6 : t135 = true
                · subst c6
                  have H1 : ((hearthlaw11_HashSlots.f k2 ((rd_T38 l0 x4_2).f0.f0) ((rd_T38 l0 x4_2).f0.f1) ((rd_T38 l0 x4_2).f1) ((rd_T38 l0 x4_2).f2) ((rd_T38 l0 x4_2).f3) ((rd_T38 l0 x4_2).f4)).bind fun t137 => (if t137 = true then ((hearthlaw11_HashGrows.f k2 ((rd_T38 l0 x4_2).f0.f0) ((rd_T38 l0 x4_2).f0.f1) ((rd_T38 l0 x4_2).f1) ((rd_T38 l0 x4_2).f2) ((rd_T38 l0 x4_2).f3) ((rd_T38 l0 x4_2).f4)).bind fun t139 => (if t139 = true then (hearthlaw11_HashAll.l1 k2 l0 x3_1 (wrap64 (x4_2 + 1))) else (some false))) else (some false))) = some r := by rw [if_pos rfl] at H; exact H
                  clear H
                  have H := H1
                  clear H1
                  replace H := Option.bind_eq_some_iff.mp H
                  obtain ⟨t137, A70, H⟩ := H
                  replace H : (if t137 = true then ((hearthlaw11_HashGrows.f k2 ((rd_T38 l0 x4_2).f0.f0) ((rd_T38 l0 x4_2).f0.f1) ((rd_T38 l0 x4_2).f1) ((rd_T38 l0 x4_2).f2) ((rd_T38 l0 x4_2).f3) ((rd_T38 l0 x4_2).f4)).bind fun t139 => (if t139 = true then (hearthlaw11_HashAll.l1 k2 l0 x3_1 (wrap64 (x4_2 + 1))) else (some false))) else (some false)) = some r := H
                  have A7 := Aside0.mk A70
                  clear A70
                  by_cases c8 : t137 = true
                  · subst c8
                    have H1 : ((hearthlaw11_HashGrows.f k2 ((rd_T38 l0 x4_2).f0.f0) ((rd_T38 l0 x4_2).f0.f1) ((rd_T38 l0 x4_2).f1) ((rd_T38 l0 x4_2).f2) ((rd_T38 l0 x4_2).f3) ((rd_T38 l0 x4_2).f4)).bind fun t139 => (if t139 = true then (hearthlaw11_HashAll.l1 k2 l0 x3_1 (wrap64 (x4_2 + 1))) else (some false))) = some r := by rw [if_pos rfl] at H; exact H
                    clear H
                    have H := H1
                    clear H1
                    replace H := Option.bind_eq_some_iff.mp H
                    obtain ⟨t139, A90, H⟩ := H
                    replace H : (if t139 = true then (hearthlaw11_HashAll.l1 k2 l0 x3_1 (wrap64 (x4_2 + 1))) else (some false)) = some r := H
                    have A9 := Aside0.mk A90
                    clear A90
                    by_cases c10 : t139 = true
                    · subst c10
                      have H1 : (hearthlaw11_HashAll.l1 k2 l0 x3_1 (wrap64 (x4_2 + 1))) = some r := by rw [if_pos rfl] at H; exact H
                      clear H
                      have H := H1
                      clear H1
                      have H' := Aside0.mk H
                      clear H
                      have p134 : 0 ≤ (x4_2 : Int) := of_decide_eq_true (by first | (with_reducible assumption) | assumption)
                      have q134 : x4_2 < (l0.length : Int) := of_decide_eq_true (by first | (with_reducible assumption) | assumption)
                      obtain ⟨ad134, e134, hx134_0, hx134_1, hx134_2, hx134_3, hx134_4, hx134_5⟩ := at_T38 HR0.out x4_2 p134 q134
                      cases e134
                      replace hx134_0 := (HB.out.cell (World.block_lt_of_cell? w _ hx134_0)).trans hx134_0
                      replace hx134_1 := (HB.out.cell (World.block_lt_of_cell? w _ hx134_1)).trans hx134_1
                      replace hx134_2 := (HB.out.cell (World.block_lt_of_cell? w _ hx134_2)).trans hx134_2
                      replace hx134_3 := (HB.out.cell (World.block_lt_of_cell? w _ hx134_3)).trans hx134_3
                      replace hx134_4 := (HB.out.cell (World.block_lt_of_cell? w _ hx134_4)).trans hx134_4
                      replace hx134_5 := (HB.out.cell (World.block_lt_of_cell? w _ hx134_5)).trans hx134_5
                      replace p134 := eq_true p134
                      replace q134 := eq_true q134
                      go_wp2_with (first | ((with_reducible refine gate_callee (f := 9) rfl ?_); refine goesL_ (some 19) rfl rfl Try.func9 (by kernel_rfl) rfl #[.agg #[.int .i64 ((rd_T38 l0 x4_2).f0.f0), .int .i64 ((rd_T38 l0 x4_2).f0.f1), .int .i64 ((rd_T38 l0 x4_2).f1), .int .i64 ((rd_T38 l0 x4_2).f2), .int .i64 ((rd_T38 l0 x4_2).f3), .int .i64 ((rd_T38 l0 x4_2).f4)]] rfl (by (try simp only [List.map_toArray, List.map_cons, List.map_nil]); first | done | rfl | (simp only [List.length_drop, List.length_take]; rfl)) ?_; (with_reducible refine (hearthlaw11_HashOf.calls k2 ((rd_T38 l0 x4_2).f0.f0) ((rd_T38 l0 x4_2).f0.f1) ((rd_T38 l0 x4_2).f1) ((rd_T38 l0 x4_2).f2) ((rd_T38 l0 x4_2).f3) ((rd_T38 l0 x4_2).f4) true _ A5.out).mono ?_); rintro e w11 ⟨rfl, hb⟩; refine ⟨_, rfl, ?_⟩; have n0_ := Aside0.mk (below_step (by repeat (first | (with_reducible first | exact HB.out | apply below_alloc | apply pw_below_drewN | apply below_drew1) | exact HB.out)) hb); clear HB; have HB := n0_; clear n0_; (try clear hb); (try clear hb2); (try clear hk); (try clear hi); have p136 : 0 ≤ (x4_2 : Int) := of_decide_eq_true (by first | (with_reducible assumption) | assumption); have q136 : x4_2 < (l0.length : Int) := of_decide_eq_true (by first | (with_reducible assumption) | assumption); obtain ⟨ad136, e136, hx136_0, hx136_1, hx136_2, hx136_3, hx136_4, hx136_5⟩ := at_T38 HR0.out x4_2 p136 q136; obtain rfl : ad134 = ad136 := (by injection e136); replace hx136_0 := (HB.out.cell (World.block_lt_of_cell? w _ hx136_0)).trans hx136_0; replace hx136_1 := (HB.out.cell (World.block_lt_of_cell? w _ hx136_1)).trans hx136_1; replace hx136_2 := (HB.out.cell (World.block_lt_of_cell? w _ hx136_2)).trans hx136_2; replace hx136_3 := (HB.out.cell (World.block_lt_of_cell? w _ hx136_3)).trans hx136_3; replace hx136_4 := (HB.out.cell (World.block_lt_of_cell? w _ hx136_4)).trans hx136_4; replace hx136_5 := (HB.out.cell (World.block_lt_of_cell? w _ hx136_5)).trans hx136_5; replace p136 := eq_true p136; replace q136 := eq_true q136) | (go_at_call 10; (with_reducible refine (hearthlaw11_HashSlots.calls k2 ((rd_T38 l0 x4_2).f0.f0) ((rd_T38 l0 x4_2).f0.f1) ((rd_T38 l0 x4_2).f1) ((rd_T38 l0 x4_2).f2) ((rd_T38 l0 x4_2).f3) ((rd_T38 l0 x4_2).f4) true _ A7.out).mono ?_); rintro e w12 ⟨rfl, hb⟩; have n0_ := Aside0.mk (below_step (by repeat (first | (with_reducible first | exact HB.out | apply below_alloc | apply pw_below_drewN | apply below_drew1) | exact HB.out)) hb); clear HB; have HB := n0_; clear n0_; (try clear hb); (try clear hb2); (try clear hk); (try clear hi); have p138 : 0 ≤ (x4_2 : Int) := of_decide_eq_true (by first | (with_reducible assumption) | assumption); have q138 : x4_2 < (l0.length : Int) := of_decide_eq_true (by first | (with_reducible assumption) | assumption); obtain ⟨ad138, e138, hx138_0, hx138_1, hx138_2, hx138_3, hx138_4, hx138_5⟩ := at_T38 HR0.out x4_2 p138 q138; obtain rfl : ad134 = ad138 := (by injection e138); replace hx138_0 := (HB.out.cell (World.block_lt_of_cell? w _ hx138_0)).trans hx138_0; replace hx138_1 := (HB.out.cell (World.block_lt_of_cell? w _ hx138_1)).trans hx138_1; replace hx138_2 := (HB.out.cell (World.block_lt_of_cell? w _ hx138_2)).trans hx138_2; replace hx138_3 := (HB.out.cell (World.block_lt_of_cell? w _ hx138_3)).trans hx138_3; replace hx138_4 := (HB.out.cell (World.block_lt_of_cell? w _ hx138_4)).trans hx138_4; replace hx138_5 := (HB.out.cell (World.block_lt_of_cell? w _ hx138_5)).trans hx138_5; replace p138 := eq_true p138; replace q138 := eq_true q138) | (go_at_call 11; (with_reducible refine (hearthlaw11_HashGrows.calls k2 ((rd_T38 l0 x4_2).f0.f0) ((rd_T38 l0 x4_2).f0.f1) ((rd_T38 l0 x4_2).f1) ((rd_T38 l0 x4_2).f2) ((rd_T38 l0 x4_2).f3) ((rd_T38 l0 x4_2).f4) true _ A9.out).mono ?_); rintro e w13 ⟨rfl, hb⟩; have n0_ := Aside0.mk (below_step (by repeat (first | (with_reducible first | exact HB.out | apply below_alloc | apply pw_below_drewN | apply below_drew1) | exact HB.out)) hb); clear HB; have HB := n0_; clear n0_; (try clear hb); (try clear hb2); (try clear hk); (try clear hi)))
                      go_roundg k2
                      case measure => have := HK1.out; have := HK2.out; omega
                      case rel => exact ⟨(wrap64 (x4_2 + 1)), (by first | rfl | (simp; done) | (simp [*]; done)), H', ⟨by have := HK1.out; have := HK2.out; omega⟩, ⟨by repeat (first | (with_reducible first | exact HB.out | apply below_alloc | apply pw_below_drewN | apply below_drew1) | exact HB.out)⟩⟩
                    · replace c10 := Bool.eq_false_iff.mpr c10
                      subst c10
                      have H1 : (some false) = some r := by rw [if_neg (show ¬ (false = true) by decide)] at H; exact H
                      clear H
                      have H := H1
                      clear H1
                      obtain rfl := Option.some.inj H
                      have p134 : 0 ≤ (x4_2 : Int) := of_decide_eq_true (by first | (with_reducible assumption) | assumption)
                      have q134 : x4_2 < (l0.length : Int) := of_decide_eq_true (by first | (with_reducible assumption) | assumption)
                      obtain ⟨ad134, e134, hx134_0, hx134_1, hx134_2, hx134_3, hx134_4, hx134_5⟩ := at_T38 HR0.out x4_2 p134 q134
                      cases e134
                      replace hx134_0 := (HB.out.cell (World.block_lt_of_cell? w _ hx134_0)).trans hx134_0
                      replace hx134_1 := (HB.out.cell (World.block_lt_of_cell? w _ hx134_1)).trans hx134_1
                      replace hx134_2 := (HB.out.cell (World.block_lt_of_cell? w _ hx134_2)).trans hx134_2
                      replace hx134_3 := (HB.out.cell (World.block_lt_of_cell? w _ hx134_3)).trans hx134_3
                      replace hx134_4 := (HB.out.cell (World.block_lt_of_cell? w _ hx134_4)).trans hx134_4
                      replace hx134_5 := (HB.out.cell (World.block_lt_of_cell? w _ hx134_5)).trans hx134_5
                      replace p134 := eq_true p134
                      replace q134 := eq_true q134
                      go_wp2_with (first | ((with_reducible refine gate_callee (f := 9) rfl ?_); refine goesL_ (some 19) rfl rfl Try.func9 (by kernel_rfl) rfl #[.agg #[.int .i64 ((rd_T38 l0 x4_2).f0.f0), .int .i64 ((rd_T38 l0 x4_2).f0.f1), .int .i64 ((rd_T38 l0 x4_2).f1), .int .i64 ((rd_T38 l0 x4_2).f2), .int .i64 ((rd_T38 l0 x4_2).f3), .int .i64 ((rd_T38 l0 x4_2).f4)]] rfl (by (try simp only [List.map_toArray, List.map_cons, List.map_nil]); first | done | rfl | (simp only [List.length_drop, List.length_take]; rfl)) ?_; (with_reducible refine (hearthlaw11_HashOf.calls k2 ((rd_T38 l0 x4_2).f0.f0) ((rd_T38 l0 x4_2).f0.f1) ((rd_T38 l0 x4_2).f1) ((rd_T38 l0 x4_2).f2) ((rd_T38 l0 x4_2).f3) ((rd_T38 l0 x4_2).f4) true _ A5.out).mono ?_); rintro e w14 ⟨rfl, hb⟩; refine ⟨_, rfl, ?_⟩; have n0_ := Aside0.mk (below_step (by repeat (first | (with_reducible first | exact HB.out | apply below_alloc | apply pw_below_drewN | apply below_drew1) | exact HB.out)) hb); clear HB; have HB := n0_; clear n0_; (try clear hb); (try clear hb2); (try clear hk); (try clear hi); have p136 : 0 ≤ (x4_2 : Int) := of_decide_eq_true (by first | (with_reducible assumption) | assumption); have q136 : x4_2 < (l0.length : Int) := of_decide_eq_true (by first | (with_reducible assumption) | assumption); obtain ⟨ad136, e136, hx136_0, hx136_1, hx136_2, hx136_3, hx136_4, hx136_5⟩ := at_T38 HR0.out x4_2 p136 q136; obtain rfl : ad134 = ad136 := (by injection e136); replace hx136_0 := (HB.out.cell (World.block_lt_of_cell? w _ hx136_0)).trans hx136_0; replace hx136_1 := (HB.out.cell (World.block_lt_of_cell? w _ hx136_1)).trans hx136_1; replace hx136_2 := (HB.out.cell (World.block_lt_of_cell? w _ hx136_2)).trans hx136_2; replace hx136_3 := (HB.out.cell (World.block_lt_of_cell? w _ hx136_3)).trans hx136_3; replace hx136_4 := (HB.out.cell (World.block_lt_of_cell? w _ hx136_4)).trans hx136_4; replace hx136_5 := (HB.out.cell (World.block_lt_of_cell? w _ hx136_5)).trans hx136_5; replace p136 := eq_true p136; replace q136 := eq_true q136) | (go_at_call 10; (with_reducible refine (hearthlaw11_HashSlots.calls k2 ((rd_T38 l0 x4_2).f0.f0) ((rd_T38 l0 x4_2).f0.f1) ((rd_T38 l0 x4_2).f1) ((rd_T38 l0 x4_2).f2) ((rd_T38 l0 x4_2).f3) ((rd_T38 l0 x4_2).f4) true _ A7.out).mono ?_); rintro e w15 ⟨rfl, hb⟩; have n0_ := Aside0.mk (below_step (by repeat (first | (with_reducible first | exact HB.out | apply below_alloc | apply pw_below_drewN | apply below_drew1) | exact HB.out)) hb); clear HB; have HB := n0_; clear n0_; (try clear hb); (try clear hb2); (try clear hk); (try clear hi); have p138 : 0 ≤ (x4_2 : Int) := of_decide_eq_true (by first | (with_reducible assumption) | assumption); have q138 : x4_2 < (l0.length : Int) := of_decide_eq_true (by first | (with_reducible assumption) | assumption); obtain ⟨ad138, e138, hx138_0, hx138_1, hx138_2, hx138_3, hx138_4, hx138_5⟩ := at_T38 HR0.out x4_2 p138 q138; obtain rfl : ad134 = ad138 := (by injection e138); replace hx138_0 := (HB.out.cell (World.block_lt_of_cell? w _ hx138_0)).trans hx138_0; replace hx138_1 := (HB.out.cell (World.block_lt_of_cell? w _ hx138_1)).trans hx138_1; replace hx138_2 := (HB.out.cell (World.block_lt_of_cell? w _ hx138_2)).trans hx138_2; replace hx138_3 := (HB.out.cell (World.block_lt_of_cell? w _ hx138_3)).trans hx138_3; replace hx138_4 := (HB.out.cell (World.block_lt_of_cell? w _ hx138_4)).trans hx138_4; replace hx138_5 := (HB.out.cell (World.block_lt_of_cell? w _ hx138_5)).trans hx138_5; replace p138 := eq_true p138; replace q138 := eq_true q138) | (go_at_call 11; (with_reducible refine (hearthlaw11_HashGrows.calls k2 ((rd_T38 l0 x4_2).f0.f0) ((rd_T38 l0 x4_2).f0.f1) ((rd_T38 l0 x4_2).f1) ((rd_T38 l0 x4_2).f2) ((rd_T38 l0 x4_2).f3) ((rd_T38 l0 x4_2).f4) false _ A9.out).mono ?_); rintro e w16 ⟨rfl, hb⟩; have n0_ := Aside0.mk (below_step (by repeat (first | (with_reducible first | exact HB.out | apply below_alloc | apply pw_below_drewN | apply below_drew1) | exact HB.out)) hb); clear HB; have HB := n0_; clear n0_; (try clear hb); (try clear hb2); (try clear hk); (try clear hi)))
                      go_ret
                      exact ⟨by first | rfl | (simp [errW_none, errW_some] <;> rfl) | (simp [*, errW_none, errW_some] <;> rfl), by repeat (first | (with_reducible first | exact HB.out | apply below_alloc | apply pw_below_drewN | apply below_drew1) | exact HB.out)⟩
                  · replace c8 := Bool.eq_false_iff.mpr c8
                    subst c8
                    have H1 : (some false) = some r := by rw [if_neg (show ¬ (false = true) by decide)] at H; exact H
                    clear H
                    have H := H1
                    clear H1
                    obtain rfl := Option.some.inj H
                    have p134 : 0 ≤ (x4_2 : Int) := of_decide_eq_true (by first | (with_reducible assumption) | assumption)
                    have q134 : x4_2 < (l0.length : Int) := of_decide_eq_true (by first | (with_reducible assumption) | assumption)
                    obtain ⟨ad134, e134, hx134_0, hx134_1, hx134_2, hx134_3, hx134_4, hx134_5⟩ := at_T38 HR0.out x4_2 p134 q134
                    cases e134
                    replace hx134_0 := (HB.out.cell (World.block_lt_of_cell? w _ hx134_0)).trans hx134_0
                    replace hx134_1 := (HB.out.cell (World.block_lt_of_cell? w _ hx134_1)).trans hx134_1
                    replace hx134_2 := (HB.out.cell (World.block_lt_of_cell? w _ hx134_2)).trans hx134_2
                    replace hx134_3 := (HB.out.cell (World.block_lt_of_cell? w _ hx134_3)).trans hx134_3
                    replace hx134_4 := (HB.out.cell (World.block_lt_of_cell? w _ hx134_4)).trans hx134_4
                    replace hx134_5 := (HB.out.cell (World.block_lt_of_cell? w _ hx134_5)).trans hx134_5
                    replace p134 := eq_true p134
                    replace q134 := eq_true q134
                    go_wp2_with (first | ((with_reducible refine gate_callee (f := 9) rfl ?_); refine goesL_ (some 19) rfl rfl Try.func9 (by kernel_rfl) rfl #[.agg #[.int .i64 ((rd_T38 l0 x4_2).f0.f0), .int .i64 ((rd_T38 l0 x4_2).f0.f1), .int .i64 ((rd_T38 l0 x4_2).f1), .int .i64 ((rd_T38 l0 x4_2).f2), .int .i64 ((rd_T38 l0 x4_2).f3), .int .i64 ((rd_T38 l0 x4_2).f4)]] rfl (by (try simp only [List.map_toArray, List.map_cons, List.map_nil]); first | done | rfl | (simp only [List.length_drop, List.length_take]; rfl)) ?_; (with_reducible refine (hearthlaw11_HashOf.calls k2 ((rd_T38 l0 x4_2).f0.f0) ((rd_T38 l0 x4_2).f0.f1) ((rd_T38 l0 x4_2).f1) ((rd_T38 l0 x4_2).f2) ((rd_T38 l0 x4_2).f3) ((rd_T38 l0 x4_2).f4) true _ A5.out).mono ?_); rintro e w17 ⟨rfl, hb⟩; refine ⟨_, rfl, ?_⟩; have n0_ := Aside0.mk (below_step (by repeat (first | (with_reducible first | exact HB.out | apply below_alloc | apply pw_below_drewN | apply below_drew1) | exact HB.out)) hb); clear HB; have HB := n0_; clear n0_; (try clear hb); (try clear hb2); (try clear hk); (try clear hi); have p136 : 0 ≤ (x4_2 : Int) := of_decide_eq_true (by first | (with_reducible assumption) | assumption); have q136 : x4_2 < (l0.length : Int) := of_decide_eq_true (by first | (with_reducible assumption) | assumption); obtain ⟨ad136, e136, hx136_0, hx136_1, hx136_2, hx136_3, hx136_4, hx136_5⟩ := at_T38 HR0.out x4_2 p136 q136; obtain rfl : ad134 = ad136 := (by injection e136); replace hx136_0 := (HB.out.cell (World.block_lt_of_cell? w _ hx136_0)).trans hx136_0; replace hx136_1 := (HB.out.cell (World.block_lt_of_cell? w _ hx136_1)).trans hx136_1; replace hx136_2 := (HB.out.cell (World.block_lt_of_cell? w _ hx136_2)).trans hx136_2; replace hx136_3 := (HB.out.cell (World.block_lt_of_cell? w _ hx136_3)).trans hx136_3; replace hx136_4 := (HB.out.cell (World.block_lt_of_cell? w _ hx136_4)).trans hx136_4; replace hx136_5 := (HB.out.cell (World.block_lt_of_cell? w _ hx136_5)).trans hx136_5; replace p136 := eq_true p136; replace q136 := eq_true q136) | (go_at_call 10; (with_reducible refine (hearthlaw11_HashSlots.calls k2 ((rd_T38 l0 x4_2).f0.f0) ((rd_T38 l0 x4_2).f0.f1) ((rd_T38 l0 x4_2).f1) ((rd_T38 l0 x4_2).f2) ((rd_T38 l0 x4_2).f3) ((rd_T38 l0 x4_2).f4) false _ A7.out).mono ?_); rintro e w18 ⟨rfl, hb⟩; have n0_ := Aside0.mk (below_step (by repeat (first | (with_reducible first | exact HB.out | apply below_alloc | apply pw_below_drewN | apply below_drew1) | exact HB.out)) hb); clear HB; have HB := n0_; clear n0_; (try clear hb); (try clear hb2); (try clear hk); (try clear hi)))
                    go_ret
                    exact ⟨by first | rfl | (simp [errW_none, errW_some] <;> rfl) | (simp [*, errW_none, errW_some] <;> rfl), by repeat (first | (with_reducible first | exact HB.out | apply below_alloc | apply pw_below_drewN | apply below_drew1) | exact HB.out)⟩
                · replace c6 := Bool.eq_false_iff.mpr c6
                  subst c6
                  have H1 : (some false) = some r := by rw [if_neg (show ¬ (false = true) by decide)] at H; exact H
                  clear H
                  have H := H1
                  clear H1
                  obtain rfl := Option.some.inj H
                  have p134 : 0 ≤ (x4_2 : Int) := of_decide_eq_true (by first | (with_reducible assumption) | assumption)
                  have q134 : x4_2 < (l0.length : Int) := of_decide_eq_true (by first | (with_reducible assumption) | assumption)
                  obtain ⟨ad134, e134, hx134_0, hx134_1, hx134_2, hx134_3, hx134_4, hx134_5⟩ := at_T38 HR0.out x4_2 p134 q134
                  cases e134
                  replace hx134_0 := (HB.out.cell (World.block_lt_of_cell? w _ hx134_0)).trans hx134_0
                  replace hx134_1 := (HB.out.cell (World.block_lt_of_cell? w _ hx134_1)).trans hx134_1
                  replace hx134_2 := (HB.out.cell (World.block_lt_of_cell? w _ hx134_2)).trans hx134_2
                  replace hx134_3 := (HB.out.cell (World.block_lt_of_cell? w _ hx134_3)).trans hx134_3
                  replace hx134_4 := (HB.out.cell (World.block_lt_of_cell? w _ hx134_4)).trans hx134_4
                  replace hx134_5 := (HB.out.cell (World.block_lt_of_cell? w _ hx134_5)).trans hx134_5
                  replace p134 := eq_true p134
                  replace q134 := eq_true q134
                  go_wp2_with (first | ((with_reducible refine gate_callee (f := 9) rfl ?_); refine goesL_ (some 19) rfl rfl Try.func9 (by kernel_rfl) rfl #[.agg #[.int .i64 ((rd_T38 l0 x4_2).f0.f0), .int .i64 ((rd_T38 l0 x4_2).f0.f1), .int .i64 ((rd_T38 l0 x4_2).f1), .int .i64 ((rd_T38 l0 x4_2).f2), .int .i64 ((rd_T38 l0 x4_2).f3), .int .i64 ((rd_T38 l0 x4_2).f4)]] rfl (by (try simp only [List.map_toArray, List.map_cons, List.map_nil]); first | done | rfl | (simp only [List.length_drop, List.length_take]; rfl)) ?_; (with_reducible refine (hearthlaw11_HashOf.calls k2 ((rd_T38 l0 x4_2).f0.f0) ((rd_T38 l0 x4_2).f0.f1) ((rd_T38 l0 x4_2).f1) ((rd_T38 l0 x4_2).f2) ((rd_T38 l0 x4_2).f3) ((rd_T38 l0 x4_2).f4) false _ A5.out).mono ?_); rintro e w19 ⟨rfl, hb⟩; refine ⟨_, rfl, ?_⟩; have n0_ := Aside0.mk (below_step (by repeat (first | (with_reducible first | exact HB.out | apply below_alloc | apply pw_below_drewN | apply below_drew1) | exact HB.out)) hb); clear HB; have HB := n0_; clear n0_; (try clear hb); (try clear hb2); (try clear hk); (try clear hi)))
                  go_ret
                  exact ⟨by first | rfl | (simp [errW_none, errW_some] <;> rfl) | (simp [*, errW_none, errW_some] <;> rfl), by repeat (first | (with_reducible first | exact HB.out | apply below_alloc | apply pw_below_drewN | apply below_drew1) | exact HB.out)⟩
              · rw [if_neg c4] at H
                exact absurd H (by simp)
            · rw [if_neg c3] at H
              have c3b0 : decide (x4_2 < (l0.length : Int)) = false := decide_eq_false c3
              clear c3
              have H' := Aside0.mk H
              clear H
              go_wp2
              go_roundg k2
              case measure => have := HK1.out; have := HK2.out; omega
              case rel => exact ⟨(wrap64 (x3_1 + 1)), (by first | rfl | (simp; done) | (simp [*]; done)), H', ⟨by have := HK1.out; have := HK2.out; omega⟩, ⟨by repeat (first | (with_reducible first | exact HB.out | apply below_alloc | apply pw_below_drewN | apply below_drew1) | exact HB.out)⟩⟩
      · rw [if_neg c2] at H
        have c2b0 : decide (x3_1 < 2) = false := decide_eq_false c2
        clear c2
        replace H := Option.bind_eq_some_iff.mp H
        obtain ⟨t133, A200, H⟩ := H
        replace H : (some t133) = some r := H
        have A20 := Aside0.mk A200
        clear A200
        obtain rfl := Option.some.inj H
        go_wp2_with (first | ((with_reducible refine gate_callee (f := 31) rfl ?_); refine goesL_ (some 37) rfl rfl Try.func31 (by kernel_rfl) rfl #[] rfl (by (try simp only [List.map_toArray, List.map_cons, List.map_nil]); first | done | rfl | (simp only [List.length_drop, List.length_take]; rfl)) ?_; (with_reducible refine (hearthlaw11_alive.calls  t133 _ A20.out).mono ?_); rintro e w21 ⟨rfl, hb⟩; refine ⟨_, rfl, ?_⟩; have n0_ := Aside0.mk (below_step (by repeat (first | (with_reducible first | exact HB.out | apply below_alloc | apply pw_below_drewN | apply below_drew1) | exact HB.out)) hb); clear HB; have HB := n0_; clear n0_; (try clear hb); (try clear hb2); (try clear hk); (try clear hi)))
        go_ret
        exact ⟨by first | rfl | (simp [errW_none, errW_some] <;> rfl) | (simp [*, errW_none, errW_some] <;> rfl), by repeat (first | (with_reducible first | exact HB.out | apply below_alloc | apply pw_below_drewN | apply below_drew1) | exact HB.out)⟩

end Go.Proofs.Ytmnhhcjonephkaa.PHashAll
