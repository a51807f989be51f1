/- The walk of FixAll: calls in any order, each answered as the reference does. No conditions. -/
import Derived.Test.YtpjcheenihlagaaLwn
import Derived.Test.YtpjcheenihlagaaLwl
namespace Go.Proofs.Ytpjcheenihlagaa.Fl
open Go.RowKit Ieee
open Go.Proofs.Ytpjcheenihlagaa.PFixAll Go.Proofs.YtpjcheenihlagaaW.PrintWords Go.Proofs.YtpjcheenihlagaaW.PrintLast Go.Proofs.YtpjcheenihlagaaW.PrintMore

set_option maxHeartbeats 8000000 in
set_option maxRecDepth 100000 in
theorem asked_b {k a b : Int} (ha : Fits a) (hb : Fits b) (w : World) :
    Calls Try.prog 47 #[.agg #[.int .i64 k, .int .i64 a, .int .i64 b]] w fun e w' => e = .returned (.bool true) ∧ Below w.heap.size w w' := by
  have hu34 := Try.underlying34
  have k0 : ∀ w, Calls Try.prog 21 #[.int .i64 a] w fun e w' => e = .returned (.bool true) ∧ Below w.heap.size w w' := fun w =>
    (hearthlaw1_wrapped.calls a true w (wrapped_f ha)).mono fun _ _ ⟨he, hw⟩ => ⟨he, hw.below⟩
  have k1 : ∀ w, Calls Try.prog 46 #[.int .i64 a, .int .i64 b] w fun e w' => e = .returned (.bool true) ∧ Below w.heap.size w w' := fun w => whole_b ha hb w
  have k2 : ∀ w, Calls Try.prog 20 #[.int .i64 a] w fun e w' => e = .returned (.bool true) ∧ Below w.heap.size w w' := fun w => bits_b a ha w
  have k3 : ∀ w, Calls Try.prog 5 #[.int .i64 a, .int .i64 b] w fun e w' => e = .returned (.bool true) ∧ Below w.heap.size w w' := fun w => FixSums_b ha hb w
  have k4 : ∀ w, Calls Try.prog 9 #[.int .i64 a, .int .i64 b] w fun e w' => e = .returned (.bool true) ∧ Below w.heap.size w w' := fun w => FixProducts_b ha hb w
  have k5 : ∀ w, Calls Try.prog 6 #[.int .i64 a, .int .i64 b] w fun e w' => e = .returned (.bool true) ∧ Below w.heap.size w w' := fun w => FixLess_b ha hb w
  have k6 : ∀ w, Calls Try.prog 13 #[.int .i64 a, .int .i64 b] w fun e w' => e = .returned (.bool true) ∧ Below w.heap.size w w' := fun w => FixTurns_b ha hb w
  clear ha hb
  have HB0 := Aside0.mk (below_alloc (Below.refl w.heap.size w) (Obj.cells #[.int .i64 k, .int .i64 a, .int .i64 b] 34))
  by_cases h0 : k = 0
  · subst h0
    go_enter Try.func47, Try.ntmps47
    go_wp2_with fail
    refine (k0 _).mono ?_
    rintro e w1 ⟨rfl, hq⟩
    have HB1 := Aside0.mk (below_step HB0.out hq)
    clear hq HB0
    go_wp2_with fail
    go_ret
    exact ⟨rfl, HB1.out⟩
  · have e0 : (k == 0) = false := beq_eq_false_iff_ne.mpr h0
    clear h0
    by_cases h1 : k = 1
    · subst h1
      go_enter Try.func47, Try.ntmps47
      go_wp2_with fail
      refine (k1 _).mono ?_
      rintro e w1 ⟨rfl, hq⟩
      have HB1 := Aside0.mk (below_step HB0.out hq)
      clear hq HB0
      go_wp2_with fail
      go_ret
      exact ⟨rfl, HB1.out⟩
    · have e1 : (k == 1) = false := beq_eq_false_iff_ne.mpr h1
      clear h1
      by_cases h2 : k = 2
      · subst h2
        go_enter Try.func47, Try.ntmps47
        go_wp2_with fail
        refine (k2 _).mono ?_
        rintro e w1 ⟨rfl, hq⟩
        have HB1 := Aside0.mk (below_step HB0.out hq)
        clear hq HB0
        go_wp2_with fail
        go_ret
        exact ⟨rfl, HB1.out⟩
      · have e2 : (k == 2) = false := beq_eq_false_iff_ne.mpr h2
        clear h2
        by_cases h3 : k = 3
        · subst h3
          go_enter Try.func47, Try.ntmps47
          go_wp2_with fail
          refine (k3 _).mono ?_
          rintro e w1 ⟨rfl, hq⟩
          have HB1 := Aside0.mk (below_step HB0.out hq)
          have BL1 := Aside0.mk (blk_below (blk_new w _) hq)
          clear hq HB0
          have hc1 : w1.cell? ⟨w.heap.size, 1, none⟩ = some (.int .i64 a) := blk_cell BL1.out 1
          have hc2 : w1.cell? ⟨w.heap.size, 2, none⟩ = some (.int .i64 b) := blk_cell BL1.out 2
          go_wp2_with fail
          refine (k4 _).mono ?_
          rintro e w2 ⟨rfl, hq⟩
          have HB2 := Aside0.mk (below_step HB1.out hq)
          have BL2 := Aside0.mk (blk_below BL1.out hq)
          clear hq HB1 hc1 hc2
          have hc1 : w2.cell? ⟨w.heap.size, 1, none⟩ = some (.int .i64 a) := blk_cell BL2.out 1
          have hc2 : w2.cell? ⟨w.heap.size, 2, none⟩ = some (.int .i64 b) := blk_cell BL2.out 2
          go_wp2_with fail
          refine (k5 _).mono ?_
          rintro e w3 ⟨rfl, hq⟩
          have HB3 := Aside0.mk (below_step HB2.out hq)
          clear hq HB2 hc1 hc2
          go_wp2_with fail
          go_ret
          exact ⟨rfl, HB3.out⟩
        · have e3 : (k == 3) = false := beq_eq_false_iff_ne.mpr h3
          clear h3
          by_cases h4 : k = 4
          · subst h4
            go_enter Try.func47, Try.ntmps47
            go_wp2_with fail
            refine (k6 _).mono ?_
            rintro e w1 ⟨rfl, hq⟩
            have HB1 := Aside0.mk (below_step HB0.out hq)
            clear hq HB0
            go_wp2_with fail
            go_ret
            exact ⟨rfl, HB1.out⟩
          · have e4 : (k == 4) = false := beq_eq_false_iff_ne.mpr h4
            clear h4
            go_enter Try.func47, Try.ntmps47
            go_wp2_with fail
            go_ret
            exact ⟨rfl, HB0.out⟩

/-- One call that was asked for. -/
structure S34 where
  f0 : Int
  f1 : Int
  f2 : Int
def z34 : S34 := ⟨0, 0, 0⟩
def k34 : Kd S34 := Kd.iso (Kd.pair (Kd.int .i64) (Kd.pair (Kd.int .i64) (Kd.int .i64))) (fun x : S34 => (x.f0, x.f1, x.f2))
theorem k34_open {w : World} {x : S34} {cs : List Value} (h : k34.K w x cs) : cs = [.int .i64 x.f0, .int .i64 x.f1, .int .i64 x.f2] := by
  obtain ⟨_, _, rfl, rfl, ⟨_, _, rfl, rfl, rfl⟩⟩ := h
  exact rfl
theorem at_T34 {w : World} {A : Option Addr} {n : Nat} {xs : List S34} (h : Kd.C k34 w A n xs) (i : Nat) (h1 : i < n) : ∃ ad , A = some ad ∧ w.cell? (ad.add (i * 3)) = some (.int .i64 (xs.getD i z34).f0) ∧
    w.cell? ⟨(ad.add (i * 3)).block, (ad.add (i * 3)).off + 1, none⟩ = some (.int .i64 (xs.getD i z34).f1) ∧ w.cell? ⟨(ad.add (i * 3)).block, (ad.add (i * 3)).off + 2, none⟩ = some (.int .i64 (xs.getD i z34).f2) := by
  obtain ⟨ad, c, e, _, hK, hc0⟩ := Kd.C_get h z34 (i : Int) (by omega) (by omega)
  have hc : ∀ j u, c[j]? = some u → w.cell? (ad.add (i * 3 + j)) = some u := hc0
  obtain rfl := k34_open hK
  exact ⟨ad, e, hc 0 _ rfl, by rw [← add_field _ _ 1 (by omega)]; exact hc 1 _ rfl, by rw [← add_field _ _ 2 (by omega)]; exact hc 2 _ rfl⟩

set_option maxHeartbeats 8000000 in
set_option maxRecDepth 100000 in
theorem FixAll_walk (A0 : Option Addr) (c0 : Nat) (l0 : List S34) (w : World) (hr0 : Kd.C k34 w A0 l0.length l0) (hc0 : l0.length ≤ c0) (hw : ∀ x ∈ l0, Fits x.f1 ∧ Fits x.f2) :
    Calls Try.prog 18 #[.slice A0 l0.length c0] w fun e w' => e = .returned (.bool true) ∧ Below w.heap.size w w' := by
  have hu34 := Try.underlying34
  have HR0 := Aside0.mk hr0
  have HC0 := Aside0.mk hc0
  have HW := Aside0.mk hw
  clear hr0 hc0 hw
  have HB0 := Aside0.mk (Below.refl w.heap.size w)
  by_cases c2 : (l0.length : Int) > 2000
  · have c2b0 : decide (2000 < (l0.length : Int)) = true := decide_eq_true c2
    have c2b1 : decide (2000 < l0.length) = true := decide_eq_true (by omega)
    clear c2
    go_enter Try.func18, Try.ntmps18
    go_wp2
    go_ret
    exact ⟨rfl, HB0.out⟩
  · have c2b0 : decide (2000 < (l0.length : Int)) = false := decide_eq_false c2
    have c2b1 : decide (2000 < l0.length) = false := decide_eq_false (by omega)
    have hlen : l0.length ≤ 2000 := by omega
    clear c2
    go_enter Try.func18, Try.ntmps18
    go_wp2_with fail
    refine (alive_b _).mono ?_
    rintro e w1 ⟨rfl, hq⟩
    have HB1 := Aside0.mk (below_step HB0.out hq)
    clear hq HB0 c2b0 c2b1
    go_wp2_with fail
    go_loopg [3, 4] l0.length (fun kq v3 v4 wr => ∃ (i : Nat), v3 = .bool true ∧ v4 = .int .i64 (i : Int) ∧ i + kq = l0.length ∧ Aside0 (Below w.heap.size w wr))
    case atStart => exact ⟨0, rfl, rfl, by omega, HB1⟩
    case round =>
      clear HB1
      obtain ⟨i, rfl, rfl, hk, HB⟩ := hrel
      cases gk with
      | zero =>
        obtain rfl : i = l0.length := by omega
        go_wp2
        go_ret
        exact ⟨rfl, HB.out⟩
      | succ k1 =>
        have c5b0 : decide ((i : Int) < (l0.length : Int)) = true := decide_eq_true (by omega)
        have c5b1 : decide (i < l0.length) = true := decide_eq_true (by omega)
        have c6b0 : decide ((0 : Int) < (l0.length : Int)) = true := decide_eq_true (by omega)
        have c6b1 : decide (0 < l0.length) = true := decide_eq_true (by omega)
        have hi : i < l0.length := by omega
        have h0 : 0 < l0.length := by omega
        obtain ⟨ad, e1, x0, x1, x2⟩ := at_T34 HR0.out i hi
        cases e1
        obtain ⟨ad', e1, y0, y1, y2⟩ := at_T34 HR0.out 0 h0
        cases e1
        have wi := HW.out _ (show l0.getD i z34 ∈ l0 by rw [List.getD_eq_getElem?_getD, List.getElem?_eq_getElem hi]; exact List.getElem_mem hi)
        have w0 := HW.out _ (show l0.getD 0 z34 ∈ l0 by rw [List.getD_eq_getElem?_getD, List.getElem?_eq_getElem h0]; exact List.getElem_mem h0)
        rw [Nat.zero_mul, Addr.add_zero'] at y0 y1 y2
        have cb : ∀ {a : Addr} {v : Value}, w.cell? a = some v → wr.cell? a = some v := fun {a v} h => (HB.out.cell (World.block_lt_of_cell? w _ h)).trans h
        have x0' := cb x0
        have x1' := cb x1
        have x2' := cb x2
        obtain ⟨⟨f0, f1, f2⟩, hf⟩ : ∃ x, x = l0.getD i z34 := ⟨_, rfl⟩
        obtain ⟨⟨g0, g1, g2⟩, hg⟩ : ∃ x, x = l0.getD 0 z34 := ⟨_, rfl⟩
        rw [← hf] at x0' x1' x2' wi
        rw [← hg] at y0 y1 y2 w0
        clear x0 x1 x2 cb hf hg
        have WI := Aside0.mk wi
        have W0 := Aside0.mk w0
        have Y := Aside0.mk (And.intro y0 (And.intro y1 y2))
        clear wi w0 y0 y1 y2
        go_wp2_with fail
        refine (asked_b WI.out.1 WI.out.2 _).mono ?_
        rintro e w2 ⟨rfl, hq⟩
        have HB2 := Aside0.mk (below_step HB.out hq)
        clear hq HB x0' x1' x2'
        have cb : ∀ {a : Addr} {v : Value}, w.cell? a = some v → w2.cell? a = some v := fun {a v} h => (HB2.out.cell (World.block_lt_of_cell? w _ h)).trans h
        have y0 := cb Y.out.1
        have y1 := cb Y.out.2.1
        have y2 := cb Y.out.2.2
        clear cb
        go_wp2_with fail
        refine (asked_b W0.out.1 W0.out.2 _).mono ?_
        rintro e w3 ⟨rfl, hq⟩
        have HB3 := Aside0.mk (below_step HB2.out hq)
        clear hq HB2 y0 y1 y2
        go_wp2_with fail
        go_roundg k1
        case measure => omega
        case rel => exact ⟨i + 1, rfl, by go_num, by omega, HB3⟩

end Go.Proofs.Ytpjcheenihlagaa.Fl
