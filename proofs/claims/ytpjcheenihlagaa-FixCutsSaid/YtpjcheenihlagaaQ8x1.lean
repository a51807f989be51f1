/- The walks of statements of chapter 1 (after the kit's print, over contracts of my own). No conditions beyond those in each lemma. -/
import Derived.Test.YtpjcheenihlagaaConA
import Derived.Test.YtpjcheenihlagaaQ8x0
namespace Go.Proofs.Ytpjcheenihlagaa.Q8
open Go.RowKit Go.Proofs.Ytpjcheenihlagaa.PFixAll Go.Proofs.YtpjcheenihlagaaW.PrintWords Go.Proofs.YtpjcheenihlagaaW.PrintLast Go.Proofs.YtpjcheenihlagaaW.PrintMore
attribute [local go_sem] max2_int min2_int max_two min_two max_three min_three max_four min_four   -- for this text's walks alone
set_option linter.unusedVariables false
set_option linter.unusedSimpArgs false

-- NOT PRINTED: function 67 (math_Float64frombits)

-- NOT PRINTED: function 48 (fix_Float)

-- NOT PRINTED: function 68 (math_Float64bits)

-- NOT PRINTED: function 49 (fix_Bits)

/-! ### hearthlaw1_number: function 30 -/
def hearthlaw1_number.f (a0 : Int) : Option (Bool) := some (decide ((Go.bits .and .i64 a0 9223372036854775807) ≤ 9218868437227405312))
set_option maxHeartbeats 8000000 in
set_option maxRecDepth 100000 in
theorem hearthlaw1_number.calls (a0 : Int) (r : Bool) (w : World) (h : hearthlaw1_number.f a0 = some r) :
    Calls Try.prog 30 #[.int .i64 a0] w fun e w' => e = .returned (.bool r) ∧ Drawn0 w w' := by
  have H : (some (decide ((Go.bits .and .i64 a0 9223372036854775807) ≤ 9218868437227405312))) = some r := h
  clear h
  obtain rfl := Option.some.inj H
  go_enter Try.func30, Try.ntmps30
  go_wp2
  go_ret
  exact ⟨by first | rfl | (simp; done) | (simp [*]; done), by repeat (first | exact Drawn0.refl _ | apply Drawn0.step)⟩

/-! ### hearthlaw1_FixCuts: function 16 -/
mutual
def hearthlaw1_FixCuts.j0 : Nat → Int → Int → Bool → Option (Bool)
  | 0, _, _, _ => none
  | k + 1, x0, x3, x45 => if x45 = true then (some false) else ((fix_ToFlo.f x3).bind fun t110 => ((fix_ToFlo.f x3).bind fun t111 => (if t111 = x0 then (hearthlaw1_FixCuts.j1 k x0 x3 t110 false) else (if x3 > (-4503599627370496) then (hearthlaw1_FixCuts.j1 k x0 x3 t110 (decide (x3 < 4503599627370496))) else (hearthlaw1_FixCuts.j1 k x0 x3 t110 false)))))
def hearthlaw1_FixCuts.j1 : Nat → Int → Int → Int → Bool → Option (Bool)
  | 0, _, _, _, _ => none
  | k + 1, x0, x3, x5, x59 => if x59 = true then ((fix_FloSub.f x0 x5).bind fun t112 => ((fix_FloLess.f (Go.bits .and .i64 t112 9223372036854775807) 4607182418800017408).bind fun t113 => (if t113 = true then (if x3 = 0 then (some true) else ((fix_FloLess.f (Go.bits .and .i64 x0 9223372036854775807) (Go.bits .and .i64 x5 9223372036854775807)).bind fun t114 => (some (!t114)))) else (some false)))) else (if x5 = x0 then (some true) else (if x3 = 0 then (some (x0 == (-9223372036854775808))) else (some false)))
end
def hearthlaw1_FixCuts.f (k : Nat) (a0 : Int) : Option (Bool) := (fix_ToFix.f a0).bind fun bt101 => ((hearthlaw1_alive.f).bind fun t103 => (if t103 = true then (if bt101.2 = true then (if bt101.1 < (-1152921504606846976) then (hearthlaw1_FixCuts.j0 k a0 bt101.1 true) else (if bt101.1 > 1152921504606846975 then (hearthlaw1_FixCuts.j0 k a0 bt101.1 true) else ((hearthlaw1_number.f a0).bind fun t109 => (hearthlaw1_FixCuts.j0 k a0 bt101.1 (!t109))))) else (if bt101.1 = 0 then ((hearthlaw1_number.f a0).bind fun t104 => (if t104 = true then ((fix_ToFlo.f 1152921504606846975).bind fun t105 => ((fix_FloLess.f a0 t105).bind fun t106 => (if t106 = true then ((fix_ToFlo.f (-1152921504606846976)).bind fun t107 => ((fix_FloLess.f t107 a0).bind fun t108 => (some (!t108)))) else (some true)))) else (some true))) else (some false))) else (some false)))
theorem hearthlaw1_FixCuts.mono_l : ∀ k, (∀ y0 y1 y2, LeO (hearthlaw1_FixCuts.j0 k y0 y1 y2) (hearthlaw1_FixCuts.j0 (k + 1) y0 y1 y2)) ∧ (∀ y0 y1 y2 y3, LeO (hearthlaw1_FixCuts.j1 k y0 y1 y2 y3) (hearthlaw1_FixCuts.j1 (k + 1) y0 y1 y2 y3))
  | 0 => ⟨fun _ _ _ r h => by simp [hearthlaw1_FixCuts.j0] at h, fun _ _ _ _ r h => by simp [hearthlaw1_FixCuts.j1] at h⟩
  | k + 1 => by
    obtain ⟨ih0, ih1⟩ := hearthlaw1_FixCuts.mono_l k
    refine ⟨?_, ?_⟩
    · intro y0 y1 y2
      unfold hearthlaw1_FixCuts.j0
      repeat' first
      | (with_reducible exact ih0 _ _ _)
      | (with_reducible exact ih1 _ _ _ _)
      | (with_reducible exact LeO.refl _)
      | (with_reducible exact LeO.none _)
      | (with_reducible refine LeO.ite ?_ ?_)
      | (with_reducible refine LeO.bind ?_ (fun _ => ?_))
      | exact ih0 _ _ _
      | exact ih1 _ _ _ _
      | exact LeO.none _
      | refine LeO.ite ?_ ?_
      | refine LeO.bind ?_ (fun _ => ?_)
    · intro y0 y1 y2 y3
      unfold hearthlaw1_FixCuts.j1
      repeat' first
      | (with_reducible exact ih0 _ _ _)
      | (with_reducible exact ih1 _ _ _ _)
      | (with_reducible exact LeO.refl _)
      | (with_reducible exact LeO.none _)
      | (with_reducible refine LeO.ite ?_ ?_)
      | (with_reducible refine LeO.bind ?_ (fun _ => ?_))
      | exact ih0 _ _ _
      | exact ih1 _ _ _ _
      | exact LeO.none _
      | refine LeO.ite ?_ ?_
      | refine LeO.bind ?_ (fun _ => ?_)
theorem hearthlaw1_FixCuts.mono : ∀ a0 k, LeO (hearthlaw1_FixCuts.f k a0) (hearthlaw1_FixCuts.f (k + 1) a0) := by
  intro a0 k
  obtain ⟨ih0, ih1⟩ := hearthlaw1_FixCuts.mono_l k
  unfold hearthlaw1_FixCuts.f
  repeat' first
      | (with_reducible exact ih0 _ _ _)
      | (with_reducible exact ih1 _ _ _ _)
      | (with_reducible exact LeO.refl _)
      | (with_reducible exact LeO.none _)
      | (with_reducible refine LeO.ite ?_ ?_)
      | (with_reducible refine LeO.bind ?_ (fun _ => ?_))
      | exact ih0 _ _ _
      | exact ih1 _ _ _ _
      | exact LeO.none _
      | refine LeO.ite ?_ ?_
      | refine LeO.bind ?_ (fun _ => ?_)
set_option maxHeartbeats 8000000 in
set_option maxRecDepth 100000 in
theorem hearthlaw1_FixCuts.calls (k : Nat) (a0 : Int) (r : Bool) (w : World) (h : hearthlaw1_FixCuts.f k a0 = some r) :
    Calls Try.prog 16 #[.int .i64 a0] w fun e w' => e = .returned (.bool r) ∧ Drawn0 w w' := by
  have H : ((fix_ToFix.f a0).bind fun bt101 => ((hearthlaw1_alive.f).bind fun t103 => (if t103 = true then (if bt101.2 = true then (if bt101.1 < (-1152921504606846976) then (hearthlaw1_FixCuts.j0 k a0 bt101.1 true) else (if bt101.1 > 1152921504606846975 then (hearthlaw1_FixCuts.j0 k a0 bt101.1 true) else ((hearthlaw1_number.f a0).bind fun t109 => (hearthlaw1_FixCuts.j0 k a0 bt101.1 (!t109))))) else (if bt101.1 = 0 then ((hearthlaw1_number.f a0).bind fun t104 => (if t104 = true then ((fix_ToFlo.f 1152921504606846975).bind fun t105 => ((fix_FloLess.f a0 t105).bind fun t106 => (if t106 = true then ((fix_ToFlo.f (-1152921504606846976)).bind fun t107 => ((fix_FloLess.f t107 a0).bind fun t108 => (some (!t108)))) else (some true)))) else (some true))) else (some false))) else (some false)))) = some r := h
  clear h
  replace H := Option.bind_eq_some_iff.mp H
  obtain ⟨⟨t101, t102⟩, A20, H⟩ := H
  replace H : ((hearthlaw1_alive.f).bind fun t103 => (if t103 = true then (if t102 = true then (if t101 < (-1152921504606846976) then (hearthlaw1_FixCuts.j0 k a0 t101 true) else (if t101 > 1152921504606846975 then (hearthlaw1_FixCuts.j0 k a0 t101 true) else ((hearthlaw1_number.f a0).bind fun t109 => (hearthlaw1_FixCuts.j0 k a0 t101 (!t109))))) else (if t101 = 0 then ((hearthlaw1_number.f a0).bind fun t104 => (if t104 = true then ((fix_ToFlo.f 1152921504606846975).bind fun t105 => ((fix_FloLess.f a0 t105).bind fun t106 => (if t106 = true then ((fix_ToFlo.f (-1152921504606846976)).bind fun t107 => ((fix_FloLess.f t107 a0).bind fun t108 => (some (!t108)))) else (some true)))) else (some true))) else (some false))) else (some false))) = some r := H
  have A2 := Aside0.mk A20
  clear A20
  replace H := Option.bind_eq_some_iff.mp H
  obtain ⟨t103, A30, H⟩ := H
  replace H : (if t103 = true then (if t102 = true then (if t101 < (-1152921504606846976) then (hearthlaw1_FixCuts.j0 k a0 t101 true) else (if t101 > 1152921504606846975 then (hearthlaw1_FixCuts.j0 k a0 t101 true) else ((hearthlaw1_number.f a0).bind fun t109 => (hearthlaw1_FixCuts.j0 k a0 t101 (!t109))))) else (if t101 = 0 then ((hearthlaw1_number.f a0).bind fun t104 => (if t104 = true then ((fix_ToFlo.f 1152921504606846975).bind fun t105 => ((fix_FloLess.f a0 t105).bind fun t106 => (if t106 = true then ((fix_ToFlo.f (-1152921504606846976)).bind fun t107 => ((fix_FloLess.f t107 a0).bind fun t108 => (some (!t108)))) else (some true)))) else (some true))) else (some false))) else (some false)) = some r := H
  have A3 := Aside0.mk A30
  clear A30
  by_cases c4 : t103 = true
  · subst c4
    have H1 : (if t102 = true then (if t101 < (-1152921504606846976) then (hearthlaw1_FixCuts.j0 k a0 t101 true) else (if t101 > 1152921504606846975 then (hearthlaw1_FixCuts.j0 k a0 t101 true) else ((hearthlaw1_number.f a0).bind fun t109 => (hearthlaw1_FixCuts.j0 k a0 t101 (!t109))))) else (if t101 = 0 then ((hearthlaw1_number.f a0).bind fun t104 => (if t104 = true then ((fix_ToFlo.f 1152921504606846975).bind fun t105 => ((fix_FloLess.f a0 t105).bind fun t106 => (if t106 = true then ((fix_ToFlo.f (-1152921504606846976)).bind fun t107 => ((fix_FloLess.f t107 a0).bind fun t108 => (some (!t108)))) else (some true)))) else (some true))) else (some false))) = some r := by rw [if_pos rfl] at H; exact H
    clear H
    have H := H1
    clear H1
    by_cases c5 : t102 = true
    · subst c5
      have H1 : (if t101 < (-1152921504606846976) then (hearthlaw1_FixCuts.j0 k a0 t101 true) else (if t101 > 1152921504606846975 then (hearthlaw1_FixCuts.j0 k a0 t101 true) else ((hearthlaw1_number.f a0).bind fun t109 => (hearthlaw1_FixCuts.j0 k a0 t101 (!t109))))) = some r := by rw [if_pos rfl] at H; exact H
      clear H
      have H := H1
      clear H1
      have HC6 := Aside0.mk H
      clear H
      go_enter Try.func16, Try.ntmps16
      go_upto_region 6 with (first | ((with_reducible refine gate_callee (f := 43) rfl ?_); refine goesL_ (some 9) rfl rfl Try.func43 (by kernel_rfl) rfl #[.int .i64 a0] rfl (by (try simp only [List.map_toArray, List.map_cons, List.map_nil]); first | done | rfl | (simp only [List.length_drop, List.length_take]; rfl)) ?_; (with_reducible refine (fix_ToFix.calls a0 t101 true _ A2.out).mono ?_); rintro e w' ⟨rfl, ⟨nd, rfl⟩⟩; refine ⟨_, rfl, ?_⟩) | ((with_reducible refine gate_callee (f := 19) rfl ?_); refine goesL_ (some 12) rfl rfl Try.func19 (by kernel_rfl) rfl #[] rfl (by (try simp only [List.map_toArray, List.map_cons, List.map_nil]); first | done | rfl | (simp only [List.length_drop, List.length_take]; rfl)) ?_; (with_reducible refine (hearthlaw1_alive.calls  true _ A3.out).mono ?_); rintro e w' ⟨rfl, ⟨nd, rfl⟩⟩; refine ⟨_, rfl, ?_⟩))
      (try simp only [Act.put, List.setIfInBounds_toArray, List.set_cons_zero, List.set_cons_succ])
      go_cut [45] (fun v45 wc => ∃ (kq : Nat) (x45_5 : Bool), v45 = .bool x45_5 ∧ Aside0 (hearthlaw1_FixCuts.j0 kq a0 t101 x45_5 = some r) ∧ Aside0 (kq ≤ k) ∧ Drawn0 w wc)
      case first =>
        have H := HC6.out
        clear HC6
        by_cases c7 : t101 < (-1152921504606846976)
        · rw [if_pos c7] at H
          have c7b0 : decide (t101 < (-1152921504606846976)) = true := decide_eq_true c7
          clear c7
          (first | rw [c7b0] | (simp only [i64_w, i32_w]; rw [c7b0]) | skip)
          have H' := Aside0.mk H
          clear H
          go_wp2
          go_meet
          case rel => exact ⟨_, (true), (by first | rfl | (simp; done) | (simp [*]; done)), H', ⟨by first | omega | exact Nat.le_refl _⟩, by repeat (first | exact Drawn0.refl _ | apply Drawn0.step)⟩
        · rw [if_neg c7] at H
          have c7b0 : decide (t101 < (-1152921504606846976)) = false := decide_eq_false c7
          clear c7
          (first | rw [c7b0] | (simp only [i64_w, i32_w]; rw [c7b0]) | skip)
          by_cases c8 : t101 > 1152921504606846975
          · rw [if_pos c8] at H
            have c8b0 : decide (1152921504606846975 < t101) = true := decide_eq_true c8
            clear c8
            have H' := Aside0.mk H
            clear H
            go_wp2
            go_meet
            case rel => exact ⟨_, (true), (by first | rfl | (simp; done) | (simp [*]; done)), H', ⟨by first | omega | exact Nat.le_refl _⟩, by repeat (first | exact Drawn0.refl _ | apply Drawn0.step)⟩
          · rw [if_neg c8] at H
            have c8b0 : decide (1152921504606846975 < t101) = false := decide_eq_false c8
            clear c8
            replace H := Option.bind_eq_some_iff.mp H
            obtain ⟨t109, A90, H⟩ := H
            replace H : (hearthlaw1_FixCuts.j0 k a0 t101 (!t109)) = some r := H
            have A9 := Aside0.mk A90
            clear A90
            have H' := Aside0.mk H
            clear H
            go_wp2_with (first | (go_at_call 30; (with_reducible refine (hearthlaw1_number.calls a0 t109 _ A9.out).mono ?_); rintro e w' ⟨rfl, ⟨nd, rfl⟩⟩))
            go_meet
            case rel => exact ⟨_, (!t109), (by first | rfl | (simp; done) | (simp [*]; done)), H', ⟨by first | omega | exact Nat.le_refl _⟩, by repeat (first | exact Drawn0.refl _ | apply Drawn0.step)⟩
      case rest =>
        clear HC6
        try clear c1
        try clear p2
        try clear c4
        try clear c5
        try clear c7
        try clear c7b0
        try clear c8
        try clear c8b0
        obtain ⟨kq, x45_5, rfl, HA, HJ5, ⟨mc5, rfl⟩⟩ := hcut
        cases kq with
        | zero => exact absurd HA.out (by simp [hearthlaw1_FixCuts.j0])
        | succ kj5 =>
          have H := HA.out
          clear HA
          simp only [hearthlaw1_FixCuts.j0] at H
          by_cases c10 : x45_5 = true
          · subst c10
            have H1 : (some false) = some r := by rw [if_pos rfl] at H; exact H
            clear H
            have H := H1
            clear H1
            obtain rfl := Option.some.inj H
            go_wp2
            go_ret
            exact ⟨by first | rfl | (simp; done) | (simp [*]; done), by repeat (first | exact Drawn0.refl _ | apply Drawn0.step)⟩
          · replace c10 := Bool.eq_false_iff.mpr c10
            subst c10
            have H1 : ((fix_ToFlo.f t101).bind fun t110 => ((fix_ToFlo.f t101).bind fun t111 => (if t111 = a0 then (hearthlaw1_FixCuts.j1 kj5 a0 t101 t110 false) else (if t101 > (-4503599627370496) then (hearthlaw1_FixCuts.j1 kj5 a0 t101 t110 (decide (t101 < 4503599627370496))) else (hearthlaw1_FixCuts.j1 kj5 a0 t101 t110 false))))) = some r := by rw [if_neg (show ¬ (false = true) by decide)] at H; exact H
            clear H
            have H := H1
            clear H1
            replace H := Option.bind_eq_some_iff.mp H
            obtain ⟨t110, A110, H⟩ := H
            replace H : ((fix_ToFlo.f t101).bind fun t111 => (if t111 = a0 then (hearthlaw1_FixCuts.j1 kj5 a0 t101 t110 false) else (if t101 > (-4503599627370496) then (hearthlaw1_FixCuts.j1 kj5 a0 t101 t110 (decide (t101 < 4503599627370496))) else (hearthlaw1_FixCuts.j1 kj5 a0 t101 t110 false)))) = some r := H
            have A11 := Aside0.mk A110
            clear A110
            have HC12 := Aside0.mk H
            clear H
            go_upto_region 9 with (first | ((with_reducible refine gate_callee (f := 40) rfl ?_); refine goesL_ (some 47) rfl rfl Try.func40 (by kernel_rfl) rfl #[.int .i64 t101] rfl (by (try simp only [List.map_toArray, List.map_cons, List.map_nil]); first | done | rfl | (simp only [List.length_drop, List.length_take]; rfl)) ?_; (with_reducible refine (fix_ToFlo.calls t101 t110 _ A11.out).mono ?_); rintro e w' ⟨rfl, ⟨nd, rfl⟩⟩; refine ⟨_, rfl, ?_⟩))
            (try simp only [Act.put, List.setIfInBounds_toArray, List.set_cons_zero, List.set_cons_succ])
            go_cut [59] (fun v59 wc => ∃ (kq : Nat) (x59_11 : Bool), v59 = .bool x59_11 ∧ Aside0 (hearthlaw1_FixCuts.j1 kq a0 t101 t110 x59_11 = some r) ∧ Aside0 (kq ≤ kj5) ∧ Drawn0 w wc)
            case first =>
              have H := HC12.out
              clear HC12
              replace H := Option.bind_eq_some_iff.mp H
              obtain ⟨t111, A130, H⟩ := H
              replace H : (if t111 = a0 then (hearthlaw1_FixCuts.j1 kj5 a0 t101 t110 false) else (if t101 > (-4503599627370496) then (hearthlaw1_FixCuts.j1 kj5 a0 t101 t110 (decide (t101 < 4503599627370496))) else (hearthlaw1_FixCuts.j1 kj5 a0 t101 t110 false))) = some r := H
              have A13 := Aside0.mk A130
              clear A130
              by_cases c14 : t111 = a0
              · rw [if_pos c14] at H
                have c14b0 : (t111 == a0) = true := beq_iff_eq.mpr c14
                have c14b1 : (t111 != a0) = false := bne_eq_false_iff_eq.mpr c14
                clear c14
                (first | rw [c14b0] | (simp only [i64_w, i32_w]; rw [c14b0]) | skip)
                have H' := Aside0.mk H
                clear H
                go_wp2_with (first | ((with_reducible refine gate_callee (f := 40) rfl ?_); refine goesL_ (some 49) rfl rfl Try.func40 (by kernel_rfl) rfl #[.int .i64 t101] rfl (by (try simp only [List.map_toArray, List.map_cons, List.map_nil]); first | done | rfl | (simp only [List.length_drop, List.length_take]; rfl)) ?_; (with_reducible refine (fix_ToFlo.calls t101 t111 _ A13.out).mono ?_); rintro e w' ⟨rfl, ⟨nd, rfl⟩⟩; refine ⟨_, rfl, ?_⟩))
                go_meet
                case rel => exact ⟨_, (false), (by first | rfl | (simp; done) | (simp [*]; done)), H', ⟨by have := HJ5.out; first | omega | exact Nat.le_refl _⟩, by repeat (first | exact Drawn0.refl _ | apply Drawn0.step)⟩
              · rw [if_neg c14] at H
                have c14b0 : (t111 == a0) = false := beq_eq_false_iff_ne.mpr c14
                have c14b1 : (t111 != a0) = true := bne_iff_ne.mpr c14
                (first | rw [c14b0] | (simp only [i64_w, i32_w]; rw [c14b0]) | skip)
                by_cases c15 : t101 > (-4503599627370496)
                · rw [if_pos c15] at H
                  have c15b0 : decide ((-4503599627370496) < t101) = true := decide_eq_true c15
                  clear c15
                  have H' := Aside0.mk H
                  clear H
                  go_wp2_with (first | ((with_reducible refine gate_callee (f := 40) rfl ?_); refine goesL_ (some 49) rfl rfl Try.func40 (by kernel_rfl) rfl #[.int .i64 t101] rfl (by (try simp only [List.map_toArray, List.map_cons, List.map_nil]); first | done | rfl | (simp only [List.length_drop, List.length_take]; rfl)) ?_; (with_reducible refine (fix_ToFlo.calls t101 t111 _ A13.out).mono ?_); rintro e w' ⟨rfl, ⟨nd, rfl⟩⟩; refine ⟨_, rfl, ?_⟩))
                  go_meet
                  case rel => exact ⟨_, (decide (t101 < 4503599627370496)), (by first | rfl | (simp; done) | (simp [*]; done)), H', ⟨by have := HJ5.out; first | omega | exact Nat.le_refl _⟩, by repeat (first | exact Drawn0.refl _ | apply Drawn0.step)⟩
                · rw [if_neg c15] at H
                  have c15b0 : decide ((-4503599627370496) < t101) = false := decide_eq_false c15
                  clear c15
                  have H' := Aside0.mk H
                  clear H
                  go_wp2_with (first | ((with_reducible refine gate_callee (f := 40) rfl ?_); refine goesL_ (some 49) rfl rfl Try.func40 (by kernel_rfl) rfl #[.int .i64 t101] rfl (by (try simp only [List.map_toArray, List.map_cons, List.map_nil]); first | done | rfl | (simp only [List.length_drop, List.length_take]; rfl)) ?_; (with_reducible refine (fix_ToFlo.calls t101 t111 _ A13.out).mono ?_); rintro e w' ⟨rfl, ⟨nd, rfl⟩⟩; refine ⟨_, rfl, ?_⟩))
                  go_meet
                  case rel => exact ⟨_, (false), (by first | rfl | (simp; done) | (simp [*]; done)), H', ⟨by have := HJ5.out; first | omega | exact Nat.le_refl _⟩, by repeat (first | exact Drawn0.refl _ | apply Drawn0.step)⟩
            case rest =>
              clear HC12
              try clear c1
              try clear p2
              try clear c4
              try clear c5
              try clear c7
              try clear c7b0
              try clear c8
              try clear c8b0
              try clear c10
              try clear c14
              try clear c14b0
              try clear c14b1
              try clear c15
              try clear c15b0
              try clear p2
              obtain ⟨kq, x59_11, rfl, HA, HJ11, ⟨mc11, rfl⟩⟩ := hcut
              cases kq with
              | zero => exact absurd HA.out (by simp [hearthlaw1_FixCuts.j1])
              | succ kj11 =>
                have H := HA.out
                clear HA
                simp only [hearthlaw1_FixCuts.j1] at H
                by_cases c16 : x59_11 = true
                · subst c16
                  have H1 : ((fix_FloSub.f a0 t110).bind fun t112 => ((fix_FloLess.f (Go.bits .and .i64 t112 9223372036854775807) 4607182418800017408).bind fun t113 => (if t113 = true then (if t101 = 0 then (some true) else ((fix_FloLess.f (Go.bits .and .i64 a0 9223372036854775807) (Go.bits .and .i64 t110 9223372036854775807)).bind fun t114 => (some (!t114)))) else (some false)))) = some r := by rw [if_pos rfl] at H; exact H
                  clear H
                  have H := H1
                  clear H1
                  replace H := Option.bind_eq_some_iff.mp H
                  obtain ⟨t112, A170, H⟩ := H
                  replace H : ((fix_FloLess.f (Go.bits .and .i64 t112 9223372036854775807) 4607182418800017408).bind fun t113 => (if t113 = true then (if t101 = 0 then (some true) else ((fix_FloLess.f (Go.bits .and .i64 a0 9223372036854775807) (Go.bits .and .i64 t110 9223372036854775807)).bind fun t114 => (some (!t114)))) else (some false))) = some r := H
                  have A17 := Aside0.mk A170
                  clear A170
                  replace H := Option.bind_eq_some_iff.mp H
                  obtain ⟨t113, A180, H⟩ := H
                  replace H : (if t113 = true then (if t101 = 0 then (some true) else ((fix_FloLess.f (Go.bits .and .i64 a0 9223372036854775807) (Go.bits .and .i64 t110 9223372036854775807)).bind fun t114 => (some (!t114)))) else (some false)) = some r := H
                  have A18 := Aside0.mk A180
                  clear A180
                  by_cases c19 : t113 = true
                  · subst c19
                    have H1 : (if t101 = 0 then (some true) else ((fix_FloLess.f (Go.bits .and .i64 a0 9223372036854775807) (Go.bits .and .i64 t110 9223372036854775807)).bind fun t114 => (some (!t114)))) = some r := by rw [if_pos rfl] at H; exact H
                    clear H
                    have H := H1
                    clear H1
                    by_cases c20 : t101 = 0
                    · rw [if_pos c20] at H
                      have c20b0 : (t101 == 0) = true := beq_iff_eq.mpr c20
                      have c20b1 : (t101 != 0) = false := bne_eq_false_iff_eq.mpr c20
                      clear c20
                      obtain rfl := Option.some.inj H
                      go_wp2_with (first | ((with_reducible refine gate_callee (f := 24) rfl ?_); refine goesL_ (some 62) rfl rfl Try.func24 (by kernel_rfl) rfl #[.int .i64 a0, .int .i64 t110] rfl (by (try simp only [List.map_toArray, List.map_cons, List.map_nil]); first | done | rfl | (simp only [List.length_drop, List.length_take]; rfl)) ?_; (with_reducible refine (fix_FloSub.calls a0 t110 t112 _ A17.out).mono ?_); rintro e w' ⟨rfl, ⟨nd, rfl⟩⟩; refine ⟨_, rfl, ?_⟩) | ((with_reducible refine gate_callee (f := 26) rfl ?_); refine goesL_ (some 65) rfl rfl Try.func26 (by kernel_rfl) rfl #[.int .i64 (Go.bits .and .i64 t112 9223372036854775807), .int .i64 4607182418800017408] rfl (by (try simp only [List.map_toArray, List.map_cons, List.map_nil]); first | done | rfl | (simp only [List.length_drop, List.length_take]; rfl)) ?_; (with_reducible refine (fix_FloLess.calls (Go.bits .and .i64 t112 9223372036854775807) 4607182418800017408 true _ A18.out).mono ?_); rintro e w' ⟨rfl, ⟨nd, rfl⟩⟩; refine ⟨_, rfl, ?_⟩))
                      go_ret
                      exact ⟨by first | rfl | (simp; done) | (simp [*]; done), by repeat (first | exact Drawn0.refl _ | apply Drawn0.step)⟩
                    · rw [if_neg c20] at H
                      have c20b0 : (t101 == 0) = false := beq_eq_false_iff_ne.mpr c20
                      have c20b1 : (t101 != 0) = true := bne_iff_ne.mpr c20
                      replace H := Option.bind_eq_some_iff.mp H
                      obtain ⟨t114, A210, H⟩ := H
                      replace H : (some (!t114)) = some r := H
                      have A21 := Aside0.mk A210
                      clear A210
                      obtain rfl := Option.some.inj H
                      go_wp2_with (first | ((with_reducible refine gate_callee (f := 24) rfl ?_); refine goesL_ (some 62) rfl rfl Try.func24 (by kernel_rfl) rfl #[.int .i64 a0, .int .i64 t110] rfl (by (try simp only [List.map_toArray, List.map_cons, List.map_nil]); first | done | rfl | (simp only [List.length_drop, List.length_take]; rfl)) ?_; (with_reducible refine (fix_FloSub.calls a0 t110 t112 _ A17.out).mono ?_); rintro e w' ⟨rfl, ⟨nd, rfl⟩⟩; refine ⟨_, rfl, ?_⟩) | ((with_reducible refine gate_callee (f := 26) rfl ?_); refine goesL_ (some 65) rfl rfl Try.func26 (by kernel_rfl) rfl #[.int .i64 (Go.bits .and .i64 t112 9223372036854775807), .int .i64 4607182418800017408] rfl (by (try simp only [List.map_toArray, List.map_cons, List.map_nil]); first | done | rfl | (simp only [List.length_drop, List.length_take]; rfl)) ?_; (with_reducible refine (fix_FloLess.calls (Go.bits .and .i64 t112 9223372036854775807) 4607182418800017408 true _ A18.out).mono ?_); rintro e w' ⟨rfl, ⟨nd, rfl⟩⟩; refine ⟨_, rfl, ?_⟩) | (go_at_call 26; (with_reducible refine (fix_FloLess.calls (Go.bits .and .i64 a0 9223372036854775807) (Go.bits .and .i64 t110 9223372036854775807) t114 _ A21.out).mono ?_); rintro e w' ⟨rfl, ⟨nd, rfl⟩⟩))
                      go_ret
                      exact ⟨by first | rfl | (simp; done) | (simp [*]; done), by repeat (first | exact Drawn0.refl _ | apply Drawn0.step)⟩
                  · replace c19 := Bool.eq_false_iff.mpr c19
                    subst c19
                    have H1 : (some false) = some r := by rw [if_neg (show ¬ (false = true) by decide)] at H; exact H
                    clear H
                    have H := H1
                    clear H1
                    obtain rfl := Option.some.inj H
                    go_wp2_with (first | ((with_reducible refine gate_callee (f := 24) rfl ?_); refine goesL_ (some 62) rfl rfl Try.func24 (by kernel_rfl) rfl #[.int .i64 a0, .int .i64 t110] rfl (by (try simp only [List.map_toArray, List.map_cons, List.map_nil]); first | done | rfl | (simp only [List.length_drop, List.length_take]; rfl)) ?_; (with_reducible refine (fix_FloSub.calls a0 t110 t112 _ A17.out).mono ?_); rintro e w' ⟨rfl, ⟨nd, rfl⟩⟩; refine ⟨_, rfl, ?_⟩) | ((with_reducible refine gate_callee (f := 26) rfl ?_); refine goesL_ (some 65) rfl rfl Try.func26 (by kernel_rfl) rfl #[.int .i64 (Go.bits .and .i64 t112 9223372036854775807), .int .i64 4607182418800017408] rfl (by (try simp only [List.map_toArray, List.map_cons, List.map_nil]); first | done | rfl | (simp only [List.length_drop, List.length_take]; rfl)) ?_; (with_reducible refine (fix_FloLess.calls (Go.bits .and .i64 t112 9223372036854775807) 4607182418800017408 false _ A18.out).mono ?_); rintro e w' ⟨rfl, ⟨nd, rfl⟩⟩; refine ⟨_, rfl, ?_⟩))
                    go_ret
                    exact ⟨by first | rfl | (simp; done) | (simp [*]; done), by repeat (first | exact Drawn0.refl _ | apply Drawn0.step)⟩
                · replace c16 := Bool.eq_false_iff.mpr c16
                  subst c16
                  have H1 : (if t110 = a0 then (some true) else (if t101 = 0 then (some (a0 == (-9223372036854775808))) else (some false))) = some r := by rw [if_neg (show ¬ (false = true) by decide)] at H; exact H
                  clear H
                  have H := H1
                  clear H1
                  by_cases c22 : t110 = a0
                  · rw [if_pos c22] at H
                    have c22b0 : (t110 == a0) = true := beq_iff_eq.mpr c22
                    have c22b1 : (t110 != a0) = false := bne_eq_false_iff_eq.mpr c22
                    clear c22
                    obtain rfl := Option.some.inj H
                    go_wp2
                    go_ret
                    exact ⟨by first | rfl | (simp; done) | (simp [*]; done), by repeat (first | exact Drawn0.refl _ | apply Drawn0.step)⟩
                  · rw [if_neg c22] at H
                    have c22b0 : (t110 == a0) = false := beq_eq_false_iff_ne.mpr c22
                    have c22b1 : (t110 != a0) = true := bne_iff_ne.mpr c22
                    by_cases c23 : t101 = 0
                    · rw [if_pos c23] at H
                      have c23b0 : (t101 == 0) = true := beq_iff_eq.mpr c23
                      have c23b1 : (t101 != 0) = false := bne_eq_false_iff_eq.mpr c23
                      clear c23
                      obtain rfl := Option.some.inj H
                      go_wp2
                      go_ret
                      exact ⟨by first | rfl | (simp; done) | (simp [*]; done), by repeat (first | exact Drawn0.refl _ | apply Drawn0.step)⟩
                    · rw [if_neg c23] at H
                      have c23b0 : (t101 == 0) = false := beq_eq_false_iff_ne.mpr c23
                      have c23b1 : (t101 != 0) = true := bne_iff_ne.mpr c23
                      obtain rfl := Option.some.inj H
                      go_wp2
                      go_ret
                      exact ⟨by first | rfl | (simp; done) | (simp [*]; done), by repeat (first | exact Drawn0.refl _ | apply Drawn0.step)⟩
    · replace c5 := Bool.eq_false_iff.mpr c5
      subst c5
      have H1 : (if t101 = 0 then ((hearthlaw1_number.f a0).bind fun t104 => (if t104 = true then ((fix_ToFlo.f 1152921504606846975).bind fun t105 => ((fix_FloLess.f a0 t105).bind fun t106 => (if t106 = true then ((fix_ToFlo.f (-1152921504606846976)).bind fun t107 => ((fix_FloLess.f t107 a0).bind fun t108 => (some (!t108)))) else (some true)))) else (some true))) else (some false)) = some r := by rw [if_neg (show ¬ (false = true) by decide)] at H; exact H
      clear H
      have H := H1
      clear H1
      by_cases c24 : t101 = 0
      · rw [if_pos c24] at H
        have c24b0 : (t101 == 0) = true := beq_iff_eq.mpr c24
        have c24b1 : (t101 != 0) = false := bne_eq_false_iff_eq.mpr c24
        clear c24
        replace H := Option.bind_eq_some_iff.mp H
        obtain ⟨t104, A250, H⟩ := H
        replace H : (if t104 = true then ((fix_ToFlo.f 1152921504606846975).bind fun t105 => ((fix_FloLess.f a0 t105).bind fun t106 => (if t106 = true then ((fix_ToFlo.f (-1152921504606846976)).bind fun t107 => ((fix_FloLess.f t107 a0).bind fun t108 => (some (!t108)))) else (some true)))) else (some true)) = some r := H
        have A25 := Aside0.mk A250
        clear A250
        by_cases c26 : t104 = true
        · subst c26
          have H1 : ((fix_ToFlo.f 1152921504606846975).bind fun t105 => ((fix_FloLess.f a0 t105).bind fun t106 => (if t106 = true then ((fix_ToFlo.f (-1152921504606846976)).bind fun t107 => ((fix_FloLess.f t107 a0).bind fun t108 => (some (!t108)))) else (some true)))) = some r := by rw [if_pos rfl] at H; exact H
          clear H
          have H := H1
          clear H1
          replace H := Option.bind_eq_some_iff.mp H
          obtain ⟨t105, A270, H⟩ := H
          replace H : ((fix_FloLess.f a0 t105).bind fun t106 => (if t106 = true then ((fix_ToFlo.f (-1152921504606846976)).bind fun t107 => ((fix_FloLess.f t107 a0).bind fun t108 => (some (!t108)))) else (some true))) = some r := H
          have A27 := Aside0.mk A270
          clear A270
          replace H := Option.bind_eq_some_iff.mp H
          obtain ⟨t106, A280, H⟩ := H
          replace H : (if t106 = true then ((fix_ToFlo.f (-1152921504606846976)).bind fun t107 => ((fix_FloLess.f t107 a0).bind fun t108 => (some (!t108)))) else (some true)) = some r := H
          have A28 := Aside0.mk A280
          clear A280
          by_cases c29 : t106 = true
          · subst c29
            have H1 : ((fix_ToFlo.f (-1152921504606846976)).bind fun t107 => ((fix_FloLess.f t107 a0).bind fun t108 => (some (!t108)))) = some r := by rw [if_pos rfl] at H; exact H
            clear H
            have H := H1
            clear H1
            replace H := Option.bind_eq_some_iff.mp H
            obtain ⟨t107, A300, H⟩ := H
            replace H : ((fix_FloLess.f t107 a0).bind fun t108 => (some (!t108))) = some r := H
            have A30 := Aside0.mk A300
            clear A300
            replace H := Option.bind_eq_some_iff.mp H
            obtain ⟨t108, A310, H⟩ := H
            replace H : (some (!t108)) = some r := H
            have A31 := Aside0.mk A310
            clear A310
            obtain rfl := Option.some.inj H
            go_enter Try.func16, Try.ntmps16
            go_wp2_with (first | ((with_reducible refine gate_callee (f := 43) rfl ?_); refine goesL_ (some 9) rfl rfl Try.func43 (by kernel_rfl) rfl #[.int .i64 a0] rfl (by (try simp only [List.map_toArray, List.map_cons, List.map_nil]); first | done | rfl | (simp only [List.length_drop, List.length_take]; rfl)) ?_; (with_reducible refine (fix_ToFix.calls a0 t101 false _ A2.out).mono ?_); rintro e w' ⟨rfl, ⟨nd, rfl⟩⟩; refine ⟨_, rfl, ?_⟩) | ((with_reducible refine gate_callee (f := 19) rfl ?_); refine goesL_ (some 12) rfl rfl Try.func19 (by kernel_rfl) rfl #[] rfl (by (try simp only [List.map_toArray, List.map_cons, List.map_nil]); first | done | rfl | (simp only [List.length_drop, List.length_take]; rfl)) ?_; (with_reducible refine (hearthlaw1_alive.calls  true _ A3.out).mono ?_); rintro e w' ⟨rfl, ⟨nd, rfl⟩⟩; refine ⟨_, rfl, ?_⟩) | (go_at_call 30; (with_reducible refine (hearthlaw1_number.calls a0 true _ A25.out).mono ?_); rintro e w' ⟨rfl, ⟨nd, rfl⟩⟩) | (go_at_call 40; (with_reducible refine (fix_ToFlo.calls 1152921504606846975 t105 _ A27.out).mono ?_); rintro e w' ⟨rfl, ⟨nd, rfl⟩⟩) | (go_at_call 26; (with_reducible refine (fix_FloLess.calls a0 t105 true _ A28.out).mono ?_); rintro e w' ⟨rfl, ⟨nd, rfl⟩⟩) | (go_at_call 40; (with_reducible refine (fix_ToFlo.calls (-1152921504606846976) t107 _ A30.out).mono ?_); rintro e w' ⟨rfl, ⟨nd, rfl⟩⟩) | (go_at_call 26; (with_reducible refine (fix_FloLess.calls t107 a0 t108 _ A31.out).mono ?_); rintro e w' ⟨rfl, ⟨nd, rfl⟩⟩))
            go_ret
            exact ⟨by first | rfl | (simp; done) | (simp [*]; done), by repeat (first | exact Drawn0.refl _ | apply Drawn0.step)⟩
          · replace c29 := Bool.eq_false_iff.mpr c29
            subst c29
            have H1 : (some true) = some r := by rw [if_neg (show ¬ (false = true) by decide)] at H; exact H
            clear H
            have H := H1
            clear H1
            obtain rfl := Option.some.inj H
            go_enter Try.func16, Try.ntmps16
            go_wp2_with (first | ((with_reducible refine gate_callee (f := 43) rfl ?_); refine goesL_ (some 9) rfl rfl Try.func43 (by kernel_rfl) rfl #[.int .i64 a0] rfl (by (try simp only [List.map_toArray, List.map_cons, List.map_nil]); first | done | rfl | (simp only [List.length_drop, List.length_take]; rfl)) ?_; (with_reducible refine (fix_ToFix.calls a0 t101 false _ A2.out).mono ?_); rintro e w' ⟨rfl, ⟨nd, rfl⟩⟩; refine ⟨_, rfl, ?_⟩) | ((with_reducible refine gate_callee (f := 19) rfl ?_); refine goesL_ (some 12) rfl rfl Try.func19 (by kernel_rfl) rfl #[] rfl (by (try simp only [List.map_toArray, List.map_cons, List.map_nil]); first | done | rfl | (simp only [List.length_drop, List.length_take]; rfl)) ?_; (with_reducible refine (hearthlaw1_alive.calls  true _ A3.out).mono ?_); rintro e w' ⟨rfl, ⟨nd, rfl⟩⟩; refine ⟨_, rfl, ?_⟩) | (go_at_call 30; (with_reducible refine (hearthlaw1_number.calls a0 true _ A25.out).mono ?_); rintro e w' ⟨rfl, ⟨nd, rfl⟩⟩) | (go_at_call 40; (with_reducible refine (fix_ToFlo.calls 1152921504606846975 t105 _ A27.out).mono ?_); rintro e w' ⟨rfl, ⟨nd, rfl⟩⟩) | (go_at_call 26; (with_reducible refine (fix_FloLess.calls a0 t105 false _ A28.out).mono ?_); rintro e w' ⟨rfl, ⟨nd, rfl⟩⟩))
            go_ret
            exact ⟨by first | rfl | (simp; done) | (simp [*]; done), by repeat (first | exact Drawn0.refl _ | apply Drawn0.step)⟩
        · replace c26 := Bool.eq_false_iff.mpr c26
          subst c26
          have H1 : (some true) = some r := by rw [if_neg (show ¬ (false = true) by decide)] at H; exact H
          clear H
          have H := H1
          clear H1
          obtain rfl := Option.some.inj H
          go_enter Try.func16, Try.ntmps16
          go_wp2_with (first | ((with_reducible refine gate_callee (f := 43) rfl ?_); refine goesL_ (some 9) rfl rfl Try.func43 (by kernel_rfl) rfl #[.int .i64 a0] rfl (by (try simp only [List.map_toArray, List.map_cons, List.map_nil]); first | done | rfl | (simp only [List.length_drop, List.length_take]; rfl)) ?_; (with_reducible refine (fix_ToFix.calls a0 t101 false _ A2.out).mono ?_); rintro e w' ⟨rfl, ⟨nd, rfl⟩⟩; refine ⟨_, rfl, ?_⟩) | ((with_reducible refine gate_callee (f := 19) rfl ?_); refine goesL_ (some 12) rfl rfl Try.func19 (by kernel_rfl) rfl #[] rfl (by (try simp only [List.map_toArray, List.map_cons, List.map_nil]); first | done | rfl | (simp only [List.length_drop, List.length_take]; rfl)) ?_; (with_reducible refine (hearthlaw1_alive.calls  true _ A3.out).mono ?_); rintro e w' ⟨rfl, ⟨nd, rfl⟩⟩; refine ⟨_, rfl, ?_⟩) | (go_at_call 30; (with_reducible refine (hearthlaw1_number.calls a0 false _ A25.out).mono ?_); rintro e w' ⟨rfl, ⟨nd, rfl⟩⟩))
          go_ret
          exact ⟨by first | rfl | (simp; done) | (simp [*]; done), by repeat (first | exact Drawn0.refl _ | apply Drawn0.step)⟩
      · rw [if_neg c24] at H
        have c24b0 : (t101 == 0) = false := beq_eq_false_iff_ne.mpr c24
        have c24b1 : (t101 != 0) = true := bne_iff_ne.mpr c24
        obtain rfl := Option.some.inj H
        go_enter Try.func16, Try.ntmps16
        go_wp2_with (first | ((with_reducible refine gate_callee (f := 43) rfl ?_); refine goesL_ (some 9) rfl rfl Try.func43 (by kernel_rfl) rfl #[.int .i64 a0] rfl (by (try simp only [List.map_toArray, List.map_cons, List.map_nil]); first | done | rfl | (simp only [List.length_drop, List.length_take]; rfl)) ?_; (with_reducible refine (fix_ToFix.calls a0 t101 false _ A2.out).mono ?_); rintro e w' ⟨rfl, ⟨nd, rfl⟩⟩; refine ⟨_, rfl, ?_⟩) | ((with_reducible refine gate_callee (f := 19) rfl ?_); refine goesL_ (some 12) rfl rfl Try.func19 (by kernel_rfl) rfl #[] rfl (by (try simp only [List.map_toArray, List.map_cons, List.map_nil]); first | done | rfl | (simp only [List.length_drop, List.length_take]; rfl)) ?_; (with_reducible refine (hearthlaw1_alive.calls  true _ A3.out).mono ?_); rintro e w' ⟨rfl, ⟨nd, rfl⟩⟩; refine ⟨_, rfl, ?_⟩))
        go_ret
        exact ⟨by first | rfl | (simp; done) | (simp [*]; done), by repeat (first | exact Drawn0.refl _ | apply Drawn0.step)⟩
  · replace c4 := Bool.eq_false_iff.mpr c4
    subst c4
    have H1 : (some false) = some r := by rw [if_neg (show ¬ (false = true) by decide)] at H; exact H
    clear H
    have H := H1
    clear H1
    obtain rfl := Option.some.inj H
    go_enter Try.func16, Try.ntmps16
    go_wp2_with (first | ((with_reducible refine gate_callee (f := 43) rfl ?_); refine goesL_ (some 9) rfl rfl Try.func43 (by kernel_rfl) rfl #[.int .i64 a0] rfl (by (try simp only [List.map_toArray, List.map_cons, List.map_nil]); first | done | rfl | (simp only [List.length_drop, List.length_take]; rfl)) ?_; (with_reducible refine (fix_ToFix.calls a0 t101 t102 _ A2.out).mono ?_); rintro e w' ⟨rfl, ⟨nd, rfl⟩⟩; refine ⟨_, rfl, ?_⟩) | ((with_reducible refine gate_callee (f := 19) rfl ?_); refine goesL_ (some 12) rfl rfl Try.func19 (by kernel_rfl) rfl #[] rfl (by (try simp only [List.map_toArray, List.map_cons, List.map_nil]); first | done | rfl | (simp only [List.length_drop, List.length_take]; rfl)) ?_; (with_reducible refine (hearthlaw1_alive.calls  false _ A3.out).mono ?_); rintro e w' ⟨rfl, ⟨nd, rfl⟩⟩; refine ⟨_, rfl, ?_⟩))
    go_ret
    exact ⟨by first | rfl | (simp; done) | (simp [*]; done), by repeat (first | exact Drawn0.refl _ | apply Drawn0.step)⟩

/-- THE ONE PURE STATEMENT of hearthlaw1_FixCuts: yours. -/
def hearthlaw1_FixCuts.Pure : Prop := ∀ (a0 : Int), (Lit.int .i64 a0).wf = true → ∃ k, hearthlaw1_FixCuts.f k a0 = some true
theorem hearthlaw1_FixCuts.walk (P : hearthlaw1_FixCuts.Pure) (a0 : Int) (w : World) (w0 : (Lit.int .i64 a0).wf = true) :
    Calls Try.prog 16 #[.int .i64 a0] w fun e w' => e = .returned (.bool true) ∧ Below w.heap.size w w' := by
  obtain ⟨k, h⟩ := P a0 w0
  refine (hearthlaw1_FixCuts.calls k a0 true w h).mono ?_
  rintro e w' ⟨rfl, hd⟩
  exact ⟨rfl, hd.below⟩

end Go.Proofs.Ytpjcheenihlagaa.Q8
