/- The walks of statements of chapter 1 (after the kit's print, over contracts of my own). No conditions beyond those in each lemma. -/
import Derived.Test.YtpjcheenihlagaaConA
import Derived.Test.YtpjcheenihlagaaQ7x0
namespace Go.Proofs.Ytpjcheenihlagaa.Q7
open Go.RowKit Go.Proofs.Ytpjcheenihlagaa.PFixAll Go.Proofs.YtpjcheenihlagaaW.PrintWords Go.Proofs.YtpjcheenihlagaaW.PrintLast Go.Proofs.YtpjcheenihlagaaW.PrintMore
attribute [local go_sem] max2_int min2_int max_two min_two max_three min_three max_four min_four   -- for this text's walks alone
set_option linter.unusedVariables false
set_option linter.unusedSimpArgs false

-- NOT PRINTED: function 67 (math_Float64frombits)

-- NOT PRINTED: function 48 (fix_Float)

-- NOT PRINTED: function 68 (math_Float64bits)

-- NOT PRINTED: function 49 (fix_Bits)

/-! ### hearthlaw1_FixWrapped: function 7 -/
def hearthlaw1_FixWrapped.j0 : Nat → Int → Int → Bool → Option (Bool)
  | 0, _, _, _ => none
  | k + 1, x0, x5, x29 => if x29 = true then (some false) else ((fix_Fits.f x0).bind fun t103 => (if x0 ≥ (-1152921504606846976) then (if (t103 == (decide (x0 ≤ 1152921504606846975))) = true then ((fix_Fits.f x0).bind fun t104 => (if (t104 == (x5 == x0)) = true then ((hearthlaw1_alive.f).bind fun t105 => (some t105)) else (some false))) else (some false)) else (if (t103 == false) = true then ((fix_Fits.f x0).bind fun t106 => (if (t106 == (x5 == x0)) = true then ((hearthlaw1_alive.f).bind fun t107 => (some t107)) else (some false))) else (some false))))
def hearthlaw1_FixWrapped.f (k : Nat) (a0 : Int) (a1 : Int) : Option (Bool) := (fix_Wrap.f a0).bind fun t101 => (if t101 < (-1152921504606846976) then (hearthlaw1_FixWrapped.j0 k a0 t101 true) else (if t101 > 1152921504606846975 then (hearthlaw1_FixWrapped.j0 k a0 t101 true) else (if (Int.tmod (wrap64 (a0 - t101)) 2305843009213693952) = 0 then ((fix_Wrap.f (wrap64 (a0 + (wrap64 (a1 * 2305843009213693952))))).bind fun t102 => (hearthlaw1_FixWrapped.j0 k a0 t101 (t102 != t101))) else (hearthlaw1_FixWrapped.j0 k a0 t101 true))))
theorem hearthlaw1_FixWrapped.mono_l : ∀ k, (∀ y0 y1 y2, LeO (hearthlaw1_FixWrapped.j0 k y0 y1 y2) (hearthlaw1_FixWrapped.j0 (k + 1) y0 y1 y2))
  | 0 => fun _ _ _ r h => by simp [hearthlaw1_FixWrapped.j0] at h
  | k + 1 => by
    have ih0 := hearthlaw1_FixWrapped.mono_l k
    · intro y0 y1 y2
      unfold hearthlaw1_FixWrapped.j0
      repeat' first
      | (with_reducible exact ih0 _ _ _)
      | (with_reducible exact LeO.refl _)
      | (with_reducible exact LeO.none _)
      | (with_reducible refine LeO.ite ?_ ?_)
      | (with_reducible refine LeO.bind ?_ (fun _ => ?_))
      | exact ih0 _ _ _
      | exact LeO.none _
      | refine LeO.ite ?_ ?_
      | refine LeO.bind ?_ (fun _ => ?_)
theorem hearthlaw1_FixWrapped.mono : ∀ a0 a1 k, LeO (hearthlaw1_FixWrapped.f k a0 a1) (hearthlaw1_FixWrapped.f (k + 1) a0 a1) := by
  intro a0 a1 k
  have ih0 := hearthlaw1_FixWrapped.mono_l k
  unfold hearthlaw1_FixWrapped.f
  repeat' first
      | (with_reducible exact ih0 _ _ _)
      | (with_reducible exact LeO.refl _)
      | (with_reducible exact LeO.none _)
      | (with_reducible refine LeO.ite ?_ ?_)
      | (with_reducible refine LeO.bind ?_ (fun _ => ?_))
      | exact ih0 _ _ _
      | exact LeO.none _
      | refine LeO.ite ?_ ?_
      | refine LeO.bind ?_ (fun _ => ?_)
set_option maxHeartbeats 8000000 in
set_option maxRecDepth 100000 in
theorem hearthlaw1_FixWrapped.calls (k : Nat) (a0 : Int) (a1 : Int) (r : Bool) (w : World) (h : hearthlaw1_FixWrapped.f k a0 a1 = some r) :
    Calls Try.prog 7 #[.int .i64 a0, .int .i64 a1] w fun e w' => e = .returned (.bool r) ∧ Drawn0 w w' := by
  have H : ((fix_Wrap.f a0).bind fun t101 => (if t101 < (-1152921504606846976) then (hearthlaw1_FixWrapped.j0 k a0 t101 true) else (if t101 > 1152921504606846975 then (hearthlaw1_FixWrapped.j0 k a0 t101 true) else (if (Int.tmod (wrap64 (a0 - t101)) 2305843009213693952) = 0 then ((fix_Wrap.f (wrap64 (a0 + (wrap64 (a1 * 2305843009213693952))))).bind fun t102 => (hearthlaw1_FixWrapped.j0 k a0 t101 (t102 != t101))) else (hearthlaw1_FixWrapped.j0 k a0 t101 true))))) = some r := h
  clear h
  replace H := Option.bind_eq_some_iff.mp H
  obtain ⟨t101, A30, H⟩ := H
  replace H : (if t101 < (-1152921504606846976) then (hearthlaw1_FixWrapped.j0 k a0 t101 true) else (if t101 > 1152921504606846975 then (hearthlaw1_FixWrapped.j0 k a0 t101 true) else (if (Int.tmod (wrap64 (a0 - t101)) 2305843009213693952) = 0 then ((fix_Wrap.f (wrap64 (a0 + (wrap64 (a1 * 2305843009213693952))))).bind fun t102 => (hearthlaw1_FixWrapped.j0 k a0 t101 (t102 != t101))) else (hearthlaw1_FixWrapped.j0 k a0 t101 true)))) = some r := H
  have A3 := Aside0.mk A30
  clear A30
  have HC4 := Aside0.mk H
  clear H
  go_enter Try.func7, Try.ntmps7
  go_upto_region 2 with (first | ((with_reducible refine gate_callee (f := 28) rfl ?_); refine goesL_ (some 7) rfl rfl Try.func28 (by kernel_rfl) rfl #[.int .i64 a0] rfl (by (try simp only [List.map_toArray, List.map_cons, List.map_nil]); first | done | rfl | (simp only [List.length_drop, List.length_take]; rfl)) ?_; (with_reducible refine (fix_Wrap.calls a0 t101 _ A3.out).mono ?_); rintro e w' ⟨rfl, ⟨nd, rfl⟩⟩; refine ⟨_, rfl, ?_⟩))
  (try simp only [Act.put, List.setIfInBounds_toArray, List.set_cons_zero, List.set_cons_succ])
  go_cut [29] (fun v29 wc => ∃ (kq : Nat) (x29_3 : Bool), v29 = .bool x29_3 ∧ Aside0 (hearthlaw1_FixWrapped.j0 kq a0 t101 x29_3 = some r) ∧ Aside0 (kq ≤ k) ∧ Drawn0 w wc)
  case first =>
    have H := HC4.out
    clear HC4
    by_cases c5 : t101 < (-1152921504606846976)
    · rw [if_pos c5] at H
      have c5b0 : decide (t101 < (-1152921504606846976)) = true := decide_eq_true c5
      clear c5
      (first | rw [c5b0] | (simp only [i64_w, i32_w]; rw [c5b0]) | skip)
      have H' := Aside0.mk H
      clear H
      go_wp2
      go_meet
      case rel => exact ⟨_, (true), (by first | rfl | (simp; done) | (simp [*]; done)), H', ⟨by first | omega | exact Nat.le_refl _⟩, by repeat (first | exact Drawn0.refl _ | apply Drawn0.step)⟩
    · rw [if_neg c5] at H
      have c5b0 : decide (t101 < (-1152921504606846976)) = false := decide_eq_false c5
      clear c5
      (first | rw [c5b0] | (simp only [i64_w, i32_w]; rw [c5b0]) | skip)
      by_cases c6 : t101 > 1152921504606846975
      · rw [if_pos c6] at H
        have c6b0 : decide (1152921504606846975 < t101) = true := decide_eq_true c6
        clear c6
        have H' := Aside0.mk H
        clear H
        go_wp2
        go_meet
        case rel => exact ⟨_, (true), (by first | rfl | (simp; done) | (simp [*]; done)), H', ⟨by first | omega | exact Nat.le_refl _⟩, by repeat (first | exact Drawn0.refl _ | apply Drawn0.step)⟩
      · rw [if_neg c6] at H
        have c6b0 : decide (1152921504606846975 < t101) = false := decide_eq_false c6
        clear c6
        by_cases c7 : (Int.tmod (wrap64 (a0 - t101)) 2305843009213693952) = 0
        · rw [if_pos c7] at H
          have c7b0 : ((Int.tmod (wrap64 (a0 - t101)) 2305843009213693952) == 0) = true := beq_iff_eq.mpr c7
          have c7b1 : ((Int.tmod (wrap64 (a0 - t101)) 2305843009213693952) != 0) = false := bne_eq_false_iff_eq.mpr c7
          clear c7
          replace H := Option.bind_eq_some_iff.mp H
          obtain ⟨t102, A80, H⟩ := H
          replace H : (hearthlaw1_FixWrapped.j0 k a0 t101 (t102 != t101)) = some r := H
          have A8 := Aside0.mk A80
          clear A80
          have H' := Aside0.mk H
          clear H
          go_wp2_with (first | (go_at_call 28; (with_reducible refine (fix_Wrap.calls (wrap64 (a0 + (wrap64 (a1 * 2305843009213693952)))) t102 _ A8.out).mono ?_); rintro e w' ⟨rfl, ⟨nd, rfl⟩⟩))
          go_meet
          case rel => exact ⟨_, ((t102 != t101)), (by first | rfl | (simp; done) | (simp [*]; done)), H', ⟨by first | omega | exact Nat.le_refl _⟩, by repeat (first | exact Drawn0.refl _ | apply Drawn0.step)⟩
        · rw [if_neg c7] at H
          have c7b0 : ((Int.tmod (wrap64 (a0 - t101)) 2305843009213693952) == 0) = false := beq_eq_false_iff_ne.mpr c7
          have c7b1 : ((Int.tmod (wrap64 (a0 - t101)) 2305843009213693952) != 0) = true := bne_iff_ne.mpr c7
          have H' := Aside0.mk H
          clear H
          go_wp2
          go_meet
          case rel => exact ⟨_, (true), (by first | rfl | (simp; done) | (simp [*]; done)), H', ⟨by first | omega | exact Nat.le_refl _⟩, by repeat (first | exact Drawn0.refl _ | apply Drawn0.step)⟩
  case rest =>
    clear HC4
    try clear c2
    try clear p2
    try clear c5
    try clear c5b0
    try clear c6
    try clear c6b0
    try clear p6
    try clear c7
    try clear c7b0
    try clear c7b1
    obtain ⟨kq, x29_3, rfl, HA, HJ3, ⟨mc3, rfl⟩⟩ := hcut
    cases kq with
    | zero => exact absurd HA.out (by simp [hearthlaw1_FixWrapped.j0])
    | succ kj3 =>
      have H := HA.out
      clear HA
      simp only [hearthlaw1_FixWrapped.j0] at H
      by_cases c9 : x29_3 = true
      · subst c9
        have H1 : (some false) = some r := by rw [if_pos rfl] at H; exact H
        clear H
        have H := H1
        clear H1
        obtain rfl := Option.some.inj H
        go_wp2
        go_ret
        exact ⟨by first | rfl | (simp; done) | (simp [*]; done), by repeat (first | exact Drawn0.refl _ | apply Drawn0.step)⟩
      · replace c9 := Bool.eq_false_iff.mpr c9
        subst c9
        have H1 : ((fix_Fits.f a0).bind fun t103 => (if a0 ≥ (-1152921504606846976) then (if (t103 == (decide (a0 ≤ 1152921504606846975))) = true then ((fix_Fits.f a0).bind fun t104 => (if (t104 == (t101 == a0)) = true then ((hearthlaw1_alive.f).bind fun t105 => (some t105)) else (some false))) else (some false)) else (if (t103 == false) = true then ((fix_Fits.f a0).bind fun t106 => (if (t106 == (t101 == a0)) = true then ((hearthlaw1_alive.f).bind fun t107 => (some t107)) else (some false))) else (some false)))) = some r := by rw [if_neg (show ¬ (false = true) by decide)] at H; exact H
        clear H
        have H := H1
        clear H1
        replace H := Option.bind_eq_some_iff.mp H
        obtain ⟨t103, A100, H⟩ := H
        replace H : (if a0 ≥ (-1152921504606846976) then (if (t103 == (decide (a0 ≤ 1152921504606846975))) = true then ((fix_Fits.f a0).bind fun t104 => (if (t104 == (t101 == a0)) = true then ((hearthlaw1_alive.f).bind fun t105 => (some t105)) else (some false))) else (some false)) else (if (t103 == false) = true then ((fix_Fits.f a0).bind fun t106 => (if (t106 == (t101 == a0)) = true then ((hearthlaw1_alive.f).bind fun t107 => (some t107)) else (some false))) else (some false))) = some r := H
        have A10 := Aside0.mk A100
        clear A100
        by_cases c11 : a0 ≥ (-1152921504606846976)
        · rw [if_pos c11] at H
          have c11b0 : decide ((-1152921504606846976) ≤ a0) = true := decide_eq_true c11
          clear c11
          by_cases c12 : (t103 == (decide (a0 ≤ 1152921504606846975))) = true
          · rw [if_pos c12] at H
            have c12b0 : (t103 == (decide (a0 ≤ 1152921504606846975))) = true := c12
            (try (have c12b1 : decide (t103 = (decide (a0 ≤ 1152921504606846975))) = true := by simpa using c12))
            (try (have c12b2 : (t103 == (decide (a0 ≤ 1152921504606846975))) = true := by simpa using c12))
            clear c12
            replace H := Option.bind_eq_some_iff.mp H
            obtain ⟨t104, A130, H⟩ := H
            replace H : (if (t104 == (t101 == a0)) = true then ((hearthlaw1_alive.f).bind fun t105 => (some t105)) else (some false)) = some r := H
            have A13 := Aside0.mk A130
            clear A130
            by_cases c14 : (t104 == (t101 == a0)) = true
            · rw [if_pos c14] at H
              have c14b0 : (t104 == (t101 == a0)) = true := c14
              (try (have c14b1 : decide (t104 = (t101 == a0)) = true := by simpa using c14))
              (try (have c14b2 : (t104 == (t101 == a0)) = true := by simpa using c14))
              clear c14
              replace H := Option.bind_eq_some_iff.mp H
              obtain ⟨t105, A150, H⟩ := H
              replace H : (some t105) = some r := H
              have A15 := Aside0.mk A150
              clear A150
              obtain rfl := Option.some.inj H
              go_wp2_with (first | ((with_reducible refine gate_callee (f := 29) rfl ?_); refine goesL_ (some 31) rfl rfl Try.func29 (by kernel_rfl) rfl #[.int .i64 a0] rfl (by (try simp only [List.map_toArray, List.map_cons, List.map_nil]); first | done | rfl | (simp only [List.length_drop, List.length_take]; rfl)) ?_; (with_reducible refine (fix_Fits.calls a0 t103 _ A10.out).mono ?_); rintro e w' ⟨rfl, ⟨nd, rfl⟩⟩; refine ⟨_, rfl, ?_⟩) | (go_at_call 29; (with_reducible refine (fix_Fits.calls a0 t104 _ A13.out).mono ?_); rintro e w' ⟨rfl, ⟨nd, rfl⟩⟩) | (go_at_call 19; (with_reducible refine (hearthlaw1_alive.calls  t105 _ A15.out).mono ?_); rintro e w' ⟨rfl, ⟨nd, rfl⟩⟩))
              go_ret
              exact ⟨by first | rfl | (simp; done) | (simp [*]; done), by repeat (first | exact Drawn0.refl _ | apply Drawn0.step)⟩
            · rw [if_neg c14] at H
              have c14b0 : (t104 == (t101 == a0)) = false := by simpa using c14
              (try (have c14b1 : decide (t104 = (t101 == a0)) = false := by simpa using c14))
              (try (have c14b2 : (t104 == (t101 == a0)) = false := by simpa using c14))
              (try (have c14b3 : ¬ (t104 = (t101 == a0)) := by simpa using c14))
              clear c14
              obtain rfl := Option.some.inj H
              go_wp2_with (first | ((with_reducible refine gate_callee (f := 29) rfl ?_); refine goesL_ (some 31) rfl rfl Try.func29 (by kernel_rfl) rfl #[.int .i64 a0] rfl (by (try simp only [List.map_toArray, List.map_cons, List.map_nil]); first | done | rfl | (simp only [List.length_drop, List.length_take]; rfl)) ?_; (with_reducible refine (fix_Fits.calls a0 t103 _ A10.out).mono ?_); rintro e w' ⟨rfl, ⟨nd, rfl⟩⟩; refine ⟨_, rfl, ?_⟩) | (go_at_call 29; (with_reducible refine (fix_Fits.calls a0 t104 _ A13.out).mono ?_); rintro e w' ⟨rfl, ⟨nd, rfl⟩⟩))
              go_ret
              exact ⟨by first | rfl | (simp; done) | (simp [*]; done), by repeat (first | exact Drawn0.refl _ | apply Drawn0.step)⟩
          · rw [if_neg c12] at H
            have c12b0 : (t103 == (decide (a0 ≤ 1152921504606846975))) = false := by simpa using c12
            (try (have c12b1 : decide (t103 = (decide (a0 ≤ 1152921504606846975))) = false := by simpa using c12))
            (try (have c12b2 : (t103 == (decide (a0 ≤ 1152921504606846975))) = false := by simpa using c12))
            (try (have c12b3 : ¬ (t103 = (decide (a0 ≤ 1152921504606846975))) := by simpa using c12))
            clear c12
            obtain rfl := Option.some.inj H
            go_wp2_with (first | ((with_reducible refine gate_callee (f := 29) rfl ?_); refine goesL_ (some 31) rfl rfl Try.func29 (by kernel_rfl) rfl #[.int .i64 a0] rfl (by (try simp only [List.map_toArray, List.map_cons, List.map_nil]); first | done | rfl | (simp only [List.length_drop, List.length_take]; rfl)) ?_; (with_reducible refine (fix_Fits.calls a0 t103 _ A10.out).mono ?_); rintro e w' ⟨rfl, ⟨nd, rfl⟩⟩; refine ⟨_, rfl, ?_⟩))
            go_ret
            exact ⟨by first | rfl | (simp; done) | (simp [*]; done), by repeat (first | exact Drawn0.refl _ | apply Drawn0.step)⟩
        · rw [if_neg c11] at H
          have c11b0 : decide ((-1152921504606846976) ≤ a0) = false := decide_eq_false c11
          clear c11
          by_cases c16 : (t103 == false) = true
          · rw [if_pos c16] at H
            have c16b0 : (t103 == false) = true := c16
            (try (have c16b1 : decide (t103 = false) = true := by simpa using c16))
            (try (have c16b2 : (t103 == false) = true := by simpa using c16))
            clear c16
            replace H := Option.bind_eq_some_iff.mp H
            obtain ⟨t106, A170, H⟩ := H
            replace H : (if (t106 == (t101 == a0)) = true then ((hearthlaw1_alive.f).bind fun t107 => (some t107)) else (some false)) = some r := H
            have A17 := Aside0.mk A170
            clear A170
            by_cases c18 : (t106 == (t101 == a0)) = true
            · rw [if_pos c18] at H
              have c18b0 : (t106 == (t101 == a0)) = true := c18
              (try (have c18b1 : decide (t106 = (t101 == a0)) = true := by simpa using c18))
              (try (have c18b2 : (t106 == (t101 == a0)) = true := by simpa using c18))
              clear c18
              replace H := Option.bind_eq_some_iff.mp H
              obtain ⟨t107, A190, H⟩ := H
              replace H : (some t107) = some r := H
              have A19 := Aside0.mk A190
              clear A190
              obtain rfl := Option.some.inj H
              go_wp2_with (first | ((with_reducible refine gate_callee (f := 29) rfl ?_); refine goesL_ (some 31) rfl rfl Try.func29 (by kernel_rfl) rfl #[.int .i64 a0] rfl (by (try simp only [List.map_toArray, List.map_cons, List.map_nil]); first | done | rfl | (simp only [List.length_drop, List.length_take]; rfl)) ?_; (with_reducible refine (fix_Fits.calls a0 t103 _ A10.out).mono ?_); rintro e w' ⟨rfl, ⟨nd, rfl⟩⟩; refine ⟨_, rfl, ?_⟩) | (go_at_call 29; (with_reducible refine (fix_Fits.calls a0 t106 _ A17.out).mono ?_); rintro e w' ⟨rfl, ⟨nd, rfl⟩⟩) | (go_at_call 19; (with_reducible refine (hearthlaw1_alive.calls  t107 _ A19.out).mono ?_); rintro e w' ⟨rfl, ⟨nd, rfl⟩⟩))
              go_ret
              exact ⟨by first | rfl | (simp; done) | (simp [*]; done), by repeat (first | exact Drawn0.refl _ | apply Drawn0.step)⟩
            · rw [if_neg c18] at H
              have c18b0 : (t106 == (t101 == a0)) = false := by simpa using c18
              (try (have c18b1 : decide (t106 = (t101 == a0)) = false := by simpa using c18))
              (try (have c18b2 : (t106 == (t101 == a0)) = false := by simpa using c18))
              (try (have c18b3 : ¬ (t106 = (t101 == a0)) := by simpa using c18))
              clear c18
              obtain rfl := Option.some.inj H
              go_wp2_with (first | ((with_reducible refine gate_callee (f := 29) rfl ?_); refine goesL_ (some 31) rfl rfl Try.func29 (by kernel_rfl) rfl #[.int .i64 a0] rfl (by (try simp only [List.map_toArray, List.map_cons, List.map_nil]); first | done | rfl | (simp only [List.length_drop, List.length_take]; rfl)) ?_; (with_reducible refine (fix_Fits.calls a0 t103 _ A10.out).mono ?_); rintro e w' ⟨rfl, ⟨nd, rfl⟩⟩; refine ⟨_, rfl, ?_⟩) | (go_at_call 29; (with_reducible refine (fix_Fits.calls a0 t106 _ A17.out).mono ?_); rintro e w' ⟨rfl, ⟨nd, rfl⟩⟩))
              go_ret
              exact ⟨by first | rfl | (simp; done) | (simp [*]; done), by repeat (first | exact Drawn0.refl _ | apply Drawn0.step)⟩
          · rw [if_neg c16] at H
            have c16b0 : (t103 == false) = false := by simpa using c16
            (try (have c16b1 : decide (t103 = false) = false := by simpa using c16))
            (try (have c16b2 : (t103 == false) = false := by simpa using c16))
            (try (have c16b3 : ¬ (t103 = false) := by simpa using c16))
            clear c16
            obtain rfl := Option.some.inj H
            go_wp2_with (first | ((with_reducible refine gate_callee (f := 29) rfl ?_); refine goesL_ (some 31) rfl rfl Try.func29 (by kernel_rfl) rfl #[.int .i64 a0] rfl (by (try simp only [List.map_toArray, List.map_cons, List.map_nil]); first | done | rfl | (simp only [List.length_drop, List.length_take]; rfl)) ?_; (with_reducible refine (fix_Fits.calls a0 t103 _ A10.out).mono ?_); rintro e w' ⟨rfl, ⟨nd, rfl⟩⟩; refine ⟨_, rfl, ?_⟩))
            go_ret
            exact ⟨by first | rfl | (simp; done) | (simp [*]; done), by repeat (first | exact Drawn0.refl _ | apply Drawn0.step)⟩

/-- THE ONE PURE STATEMENT of hearthlaw1_FixWrapped: yours. -/
def hearthlaw1_FixWrapped.Pure : Prop := ∀ (a0 : Int) (a1 : Int), (Lit.int .i64 a0).wf = true → (Lit.int .i64 a1).wf = true → ∃ k, hearthlaw1_FixWrapped.f k a0 a1 = some true
theorem hearthlaw1_FixWrapped.walk (P : hearthlaw1_FixWrapped.Pure) (a0 : Int) (a1 : Int) (w : World) (w0 : (Lit.int .i64 a0).wf = true) (w1 : (Lit.int .i64 a1).wf = true) :
    Calls Try.prog 7 #[.int .i64 a0, .int .i64 a1] w fun e w' => e = .returned (.bool true) ∧ Below w.heap.size w w' := by
  obtain ⟨k, h⟩ := P a0 a1 w0 w1
  refine (hearthlaw1_FixWrapped.calls k a0 a1 true w h).mono ?_
  rintro e w' ⟨rfl, hd⟩
  exact ⟨rfl, hd.below⟩

end Go.Proofs.Ytpjcheenihlagaa.Q7
