/- The walks of statements of chapter 1 (after the kit's print, over contracts of my own). No conditions beyond those in each lemma. -/
import Derived.Test.YtpjcheenihlagaaConA
import Derived.Test.YtpjcheenihlagaaQ3x0
namespace Go.Proofs.Ytpjcheenihlagaa.Q3
open Go.RowKit Go.Proofs.Ytpjcheenihlagaa.PFixAll Go.Proofs.YtpjcheenihlagaaW.PrintWords Go.Proofs.YtpjcheenihlagaaW.PrintLast Go.Proofs.YtpjcheenihlagaaW.PrintMore
attribute [local go_sem] max2_int min2_int max_two min_two max_three min_three max_four min_four   -- for this text's walks alone
set_option linter.unusedVariables false
set_option linter.unusedSimpArgs false

-- NOT PRINTED: function 67 (math_Float64frombits)

-- NOT PRINTED: function 48 (fix_Float)

-- NOT PRINTED: function 68 (math_Float64bits)

-- NOT PRINTED: function 49 (fix_Bits)

/-! ### hearthlaw1_finite: function 39 -/
def hearthlaw1_finite.f (a0 : Int) : Option (Bool) := some (decide ((Go.bits .and .i64 a0 9223372036854775807) < 9218868437227405312))
set_option maxHeartbeats 8000000 in
set_option maxRecDepth 100000 in
theorem hearthlaw1_finite.calls (a0 : Int) (r : Bool) (w : World) (h : hearthlaw1_finite.f a0 = some r) :
    Calls Try.prog 39 #[.int .i64 a0] w fun e w' => e = .returned (.bool r) ∧ Drawn0 w w' := by
  have H : (some (decide ((Go.bits .and .i64 a0 9223372036854775807) < 9218868437227405312))) = some r := h
  clear h
  obtain rfl := Option.some.inj H
  go_enter Try.func39, Try.ntmps39
  go_wp2
  go_ret
  exact ⟨by first | rfl | (simp; done) | (simp [*]; done), by repeat (first | exact Drawn0.refl _ | apply Drawn0.step)⟩

/-! ### hearthlaw1_FixGrows: function 12 -/
mutual
def hearthlaw1_FixGrows.j0 : Nat → Int → Int → Int → Bool → Option (Bool)
  | 0, _, _, _, _ => none
  | k + 1, x0, x1, x2, x26 => if x26 = true then ((hearthlaw1_alive.f).bind fun t105 => (some t105)) else ((fix_FloLess.f x1 x0).bind fun t106 => (if t106 = true then (hearthlaw1_FixGrows.j1 k x2 x1 x0) else (hearthlaw1_FixGrows.j1 k x2 x0 x1)))
def hearthlaw1_FixGrows.j1 : Nat → Int → Int → Int → Option (Bool)
  | 0, _, _, _ => none
  | k + 1, x2, x7, x8 => (fix_FloAdd.f x8 x2).bind fun t107 => ((fix_FloAdd.f x7 x2).bind fun t108 => ((fix_FloLess.f t107 t108).bind fun t109 => (if t109 = true then (hearthlaw1_FixGrows.j2 k x2 x7 x8 true) else ((fix_FloSub.f x8 x2).bind fun t110 => ((fix_FloSub.f x7 x2).bind fun t111 => ((fix_FloLess.f t110 t111).bind fun t112 => (hearthlaw1_FixGrows.j2 k x2 x7 x8 t112)))))))
def hearthlaw1_FixGrows.j2 : Nat → Int → Int → Int → Bool → Option (Bool)
  | 0, _, _, _, _ => none
  | k + 1, x2, x7, x8, x50 => if x50 = true then (some false) else ((fix_FloMul.f x8 (Go.bits .and .i64 x2 9223372036854775807)).bind fun t113 => ((fix_FloMul.f x7 (Go.bits .and .i64 x2 9223372036854775807)).bind fun t114 => ((fix_FloLess.f t113 t114).bind fun t115 => (if t115 = true then (some false) else (if (Go.bits .and .i64 x2 9223372036854775807) = 0 then (some true) else ((fix_FloDiv.f x8 (Go.bits .and .i64 x2 9223372036854775807)).bind fun t116 => ((fix_FloDiv.f x7 (Go.bits .and .i64 x2 9223372036854775807)).bind fun t117 => ((fix_FloLess.f t116 t117).bind fun t118 => (some (!t118))))))))))
end
def hearthlaw1_FixGrows.f (k : Nat) (a0 : Int) (a1 : Int) (a2 : Int) : Option (Bool) := (hearthlaw1_alive.f).bind fun t101 => (if t101 = true then ((hearthlaw1_finite.f a0).bind fun t102 => (if t102 = true then ((hearthlaw1_finite.f a1).bind fun t103 => (if t103 = true then ((hearthlaw1_finite.f a2).bind fun t104 => (hearthlaw1_FixGrows.j0 k a0 a1 a2 (!t104))) else (hearthlaw1_FixGrows.j0 k a0 a1 a2 true))) else (hearthlaw1_FixGrows.j0 k a0 a1 a2 true))) else (hearthlaw1_FixGrows.j0 k a0 a1 a2 true))
theorem hearthlaw1_FixGrows.mono_l : ∀ k, (∀ y0 y1 y2 y3, LeO (hearthlaw1_FixGrows.j0 k y0 y1 y2 y3) (hearthlaw1_FixGrows.j0 (k + 1) y0 y1 y2 y3)) ∧ (∀ y0 y1 y2, LeO (hearthlaw1_FixGrows.j1 k y0 y1 y2) (hearthlaw1_FixGrows.j1 (k + 1) y0 y1 y2)) ∧ (∀ y0 y1 y2 y3, LeO (hearthlaw1_FixGrows.j2 k y0 y1 y2 y3) (hearthlaw1_FixGrows.j2 (k + 1) y0 y1 y2 y3))
  | 0 => ⟨fun _ _ _ _ r h => by simp [hearthlaw1_FixGrows.j0] at h, fun _ _ _ r h => by simp [hearthlaw1_FixGrows.j1] at h, fun _ _ _ _ r h => by simp [hearthlaw1_FixGrows.j2] at h⟩
  | k + 1 => by
    obtain ⟨ih0, ih1, ih2⟩ := hearthlaw1_FixGrows.mono_l k
    refine ⟨?_, ?_, ?_⟩
    · intro y0 y1 y2 y3
      unfold hearthlaw1_FixGrows.j0
      repeat' first
      | (with_reducible exact ih0 _ _ _ _)
      | (with_reducible exact ih1 _ _ _)
      | (with_reducible exact ih2 _ _ _ _)
      | (with_reducible exact LeO.refl _)
      | (with_reducible exact LeO.none _)
      | (with_reducible refine LeO.ite ?_ ?_)
      | (with_reducible refine LeO.bind ?_ (fun _ => ?_))
      | exact ih0 _ _ _ _
      | exact ih1 _ _ _
      | exact ih2 _ _ _ _
      | exact LeO.none _
      | refine LeO.ite ?_ ?_
      | refine LeO.bind ?_ (fun _ => ?_)
    · intro y0 y1 y2
      unfold hearthlaw1_FixGrows.j1
      repeat' first
      | (with_reducible exact ih0 _ _ _ _)
      | (with_reducible exact ih1 _ _ _)
      | (with_reducible exact ih2 _ _ _ _)
      | (with_reducible exact LeO.refl _)
      | (with_reducible exact LeO.none _)
      | (with_reducible refine LeO.ite ?_ ?_)
      | (with_reducible refine LeO.bind ?_ (fun _ => ?_))
      | exact ih0 _ _ _ _
      | exact ih1 _ _ _
      | exact ih2 _ _ _ _
      | exact LeO.none _
      | refine LeO.ite ?_ ?_
      | refine LeO.bind ?_ (fun _ => ?_)
    · intro y0 y1 y2 y3
      unfold hearthlaw1_FixGrows.j2
      repeat' first
      | (with_reducible exact ih0 _ _ _ _)
      | (with_reducible exact ih1 _ _ _)
      | (with_reducible exact ih2 _ _ _ _)
      | (with_reducible exact LeO.refl _)
      | (with_reducible exact LeO.none _)
      | (with_reducible refine LeO.ite ?_ ?_)
      | (with_reducible refine LeO.bind ?_ (fun _ => ?_))
      | exact ih0 _ _ _ _
      | exact ih1 _ _ _
      | exact ih2 _ _ _ _
      | exact LeO.none _
      | refine LeO.ite ?_ ?_
      | refine LeO.bind ?_ (fun _ => ?_)
theorem hearthlaw1_FixGrows.mono : ∀ a0 a1 a2 k, LeO (hearthlaw1_FixGrows.f k a0 a1 a2) (hearthlaw1_FixGrows.f (k + 1) a0 a1 a2) := by
  intro a0 a1 a2 k
  obtain ⟨ih0, ih1, ih2⟩ := hearthlaw1_FixGrows.mono_l k
  unfold hearthlaw1_FixGrows.f
  repeat' first
      | (with_reducible exact ih0 _ _ _ _)
      | (with_reducible exact ih1 _ _ _)
      | (with_reducible exact ih2 _ _ _ _)
      | (with_reducible exact LeO.refl _)
      | (with_reducible exact LeO.none _)
      | (with_reducible refine LeO.ite ?_ ?_)
      | (with_reducible refine LeO.bind ?_ (fun _ => ?_))
      | exact ih0 _ _ _ _
      | exact ih1 _ _ _
      | exact ih2 _ _ _ _
      | exact LeO.none _
      | refine LeO.ite ?_ ?_
      | refine LeO.bind ?_ (fun _ => ?_)
set_option maxHeartbeats 8000000 in
set_option maxRecDepth 100000 in
theorem hearthlaw1_FixGrows.calls (k : Nat) (a0 : Int) (a1 : Int) (a2 : Int) (r : Bool) (w : World) (h : hearthlaw1_FixGrows.f k a0 a1 a2 = some r) :
    Calls Try.prog 12 #[.int .i64 a0, .int .i64 a1, .int .i64 a2] w fun e w' => e = .returned (.bool r) ∧ Drawn0 w w' := by
  have H : ((hearthlaw1_alive.f).bind fun t101 => (if t101 = true then ((hearthlaw1_finite.f a0).bind fun t102 => (if t102 = true then ((hearthlaw1_finite.f a1).bind fun t103 => (if t103 = true then ((hearthlaw1_finite.f a2).bind fun t104 => (hearthlaw1_FixGrows.j0 k a0 a1 a2 (!t104))) else (hearthlaw1_FixGrows.j0 k a0 a1 a2 true))) else (hearthlaw1_FixGrows.j0 k a0 a1 a2 true))) else (hearthlaw1_FixGrows.j0 k a0 a1 a2 true))) = some r := h
  clear h
  have HC4 := Aside0.mk H
  clear H
  go_enter Try.func12, Try.ntmps12
  go_upto_region 1 with (fail)
  go_cut [26] (fun v26 wc => ∃ (kq : Nat) (x26_3 : Bool), v26 = .bool x26_3 ∧ Aside0 (hearthlaw1_FixGrows.j0 kq a0 a1 a2 x26_3 = some r) ∧ Aside0 (kq ≤ k) ∧ Drawn0 w wc)
  case first =>
    have H := HC4.out
    clear HC4
    replace H := Option.bind_eq_some_iff.mp H
    obtain ⟨t101, A50, H⟩ := H
    replace H : (if t101 = true then ((hearthlaw1_finite.f a0).bind fun t102 => (if t102 = true then ((hearthlaw1_finite.f a1).bind fun t103 => (if t103 = true then ((hearthlaw1_finite.f a2).bind fun t104 => (hearthlaw1_FixGrows.j0 k a0 a1 a2 (!t104))) else (hearthlaw1_FixGrows.j0 k a0 a1 a2 true))) else (hearthlaw1_FixGrows.j0 k a0 a1 a2 true))) else (hearthlaw1_FixGrows.j0 k a0 a1 a2 true)) = some r := H
    have A5 := Aside0.mk A50
    clear A50
    by_cases c6 : t101 = true
    · subst c6
      have H1 : ((hearthlaw1_finite.f a0).bind fun t102 => (if t102 = true then ((hearthlaw1_finite.f a1).bind fun t103 => (if t103 = true then ((hearthlaw1_finite.f a2).bind fun t104 => (hearthlaw1_FixGrows.j0 k a0 a1 a2 (!t104))) else (hearthlaw1_FixGrows.j0 k a0 a1 a2 true))) else (hearthlaw1_FixGrows.j0 k a0 a1 a2 true))) = some r := by rw [if_pos rfl] at H; exact H
      clear H
      have H := H1
      clear H1
      replace H := Option.bind_eq_some_iff.mp H
      obtain ⟨t102, A70, H⟩ := H
      replace H : (if t102 = true then ((hearthlaw1_finite.f a1).bind fun t103 => (if t103 = true then ((hearthlaw1_finite.f a2).bind fun t104 => (hearthlaw1_FixGrows.j0 k a0 a1 a2 (!t104))) else (hearthlaw1_FixGrows.j0 k a0 a1 a2 true))) else (hearthlaw1_FixGrows.j0 k a0 a1 a2 true)) = some r := H
      have A7 := Aside0.mk A70
      clear A70
      by_cases c8 : t102 = true
      · subst c8
        have H1 : ((hearthlaw1_finite.f a1).bind fun t103 => (if t103 = true then ((hearthlaw1_finite.f a2).bind fun t104 => (hearthlaw1_FixGrows.j0 k a0 a1 a2 (!t104))) else (hearthlaw1_FixGrows.j0 k a0 a1 a2 true))) = some r := by rw [if_pos rfl] at H; exact H
        clear H
        have H := H1
        clear H1
        replace H := Option.bind_eq_some_iff.mp H
        obtain ⟨t103, A90, H⟩ := H
        replace H : (if t103 = true then ((hearthlaw1_finite.f a2).bind fun t104 => (hearthlaw1_FixGrows.j0 k a0 a1 a2 (!t104))) else (hearthlaw1_FixGrows.j0 k a0 a1 a2 true)) = some r := H
        have A9 := Aside0.mk A90
        clear A90
        by_cases c10 : t103 = true
        · subst c10
          have H1 : ((hearthlaw1_finite.f a2).bind fun t104 => (hearthlaw1_FixGrows.j0 k a0 a1 a2 (!t104))) = some r := by rw [if_pos rfl] at H; exact H
          clear H
          have H := H1
          clear H1
          replace H := Option.bind_eq_some_iff.mp H
          obtain ⟨t104, A110, H⟩ := H
          replace H : (hearthlaw1_FixGrows.j0 k a0 a1 a2 (!t104)) = some r := H
          have A11 := Aside0.mk A110
          clear A110
          have H' := Aside0.mk H
          clear H
          go_wp2_with (first | ((with_reducible refine gate_callee (f := 19) rfl ?_); refine goesL_ (some 10) rfl rfl Try.func19 (by kernel_rfl) rfl #[] rfl (by (try simp only [List.map_toArray, List.map_cons, List.map_nil]); first | done | rfl | (simp only [List.length_drop, List.length_take]; rfl)) ?_; (with_reducible refine (hearthlaw1_alive.calls  true _ A5.out).mono ?_); rintro e w' ⟨rfl, ⟨nd, rfl⟩⟩; refine ⟨_, rfl, ?_⟩) | (go_at_call 39; (with_reducible refine (hearthlaw1_finite.calls a0 true _ A7.out).mono ?_); rintro e w' ⟨rfl, ⟨nd, rfl⟩⟩) | (go_at_call 39; (with_reducible refine (hearthlaw1_finite.calls a1 true _ A9.out).mono ?_); rintro e w' ⟨rfl, ⟨nd, rfl⟩⟩) | (go_at_call 39; (with_reducible refine (hearthlaw1_finite.calls a2 t104 _ A11.out).mono ?_); rintro e w' ⟨rfl, ⟨nd, rfl⟩⟩))
          go_meet
          case rel => exact ⟨_, (!t104), (by first | rfl | (simp; done) | (simp [*]; done)), H', ⟨by first | omega | exact Nat.le_refl _⟩, by repeat (first | exact Drawn0.refl _ | apply Drawn0.step)⟩
        · replace c10 := Bool.eq_false_iff.mpr c10
          subst c10
          have H1 : (hearthlaw1_FixGrows.j0 k a0 a1 a2 true) = some r := by rw [if_neg (show ¬ (false = true) by decide)] at H; exact H
          clear H
          have H := H1
          clear H1
          have H' := Aside0.mk H
          clear H
          go_wp2_with (first | ((with_reducible refine gate_callee (f := 19) rfl ?_); refine goesL_ (some 10) rfl rfl Try.func19 (by kernel_rfl) rfl #[] rfl (by (try simp only [List.map_toArray, List.map_cons, List.map_nil]); first | done | rfl | (simp only [List.length_drop, List.length_take]; rfl)) ?_; (with_reducible refine (hearthlaw1_alive.calls  true _ A5.out).mono ?_); rintro e w' ⟨rfl, ⟨nd, rfl⟩⟩; refine ⟨_, rfl, ?_⟩) | (go_at_call 39; (with_reducible refine (hearthlaw1_finite.calls a0 true _ A7.out).mono ?_); rintro e w' ⟨rfl, ⟨nd, rfl⟩⟩) | (go_at_call 39; (with_reducible refine (hearthlaw1_finite.calls a1 false _ A9.out).mono ?_); rintro e w' ⟨rfl, ⟨nd, rfl⟩⟩))
          go_meet
          case rel => exact ⟨_, (true), (by first | rfl | (simp; done) | (simp [*]; done)), H', ⟨by first | omega | exact Nat.le_refl _⟩, by repeat (first | exact Drawn0.refl _ | apply Drawn0.step)⟩
      · replace c8 := Bool.eq_false_iff.mpr c8
        subst c8
        have H1 : (hearthlaw1_FixGrows.j0 k a0 a1 a2 true) = some r := by rw [if_neg (show ¬ (false = true) by decide)] at H; exact H
        clear H
        have H := H1
        clear H1
        have H' := Aside0.mk H
        clear H
        go_wp2_with (first | ((with_reducible refine gate_callee (f := 19) rfl ?_); refine goesL_ (some 10) rfl rfl Try.func19 (by kernel_rfl) rfl #[] rfl (by (try simp only [List.map_toArray, List.map_cons, List.map_nil]); first | done | rfl | (simp only [List.length_drop, List.length_take]; rfl)) ?_; (with_reducible refine (hearthlaw1_alive.calls  true _ A5.out).mono ?_); rintro e w' ⟨rfl, ⟨nd, rfl⟩⟩; refine ⟨_, rfl, ?_⟩) | (go_at_call 39; (with_reducible refine (hearthlaw1_finite.calls a0 false _ A7.out).mono ?_); rintro e w' ⟨rfl, ⟨nd, rfl⟩⟩))
        go_meet
        case rel => exact ⟨_, (true), (by first | rfl | (simp; done) | (simp [*]; done)), H', ⟨by first | omega | exact Nat.le_refl _⟩, by repeat (first | exact Drawn0.refl _ | apply Drawn0.step)⟩
    · replace c6 := Bool.eq_false_iff.mpr c6
      subst c6
      have H1 : (hearthlaw1_FixGrows.j0 k a0 a1 a2 true) = some r := by rw [if_neg (show ¬ (false = true) by decide)] at H; exact H
      clear H
      have H := H1
      clear H1
      have H' := Aside0.mk H
      clear H
      go_wp2_with (first | ((with_reducible refine gate_callee (f := 19) rfl ?_); refine goesL_ (some 10) rfl rfl Try.func19 (by kernel_rfl) rfl #[] rfl (by (try simp only [List.map_toArray, List.map_cons, List.map_nil]); first | done | rfl | (simp only [List.length_drop, List.length_take]; rfl)) ?_; (with_reducible refine (hearthlaw1_alive.calls  false _ A5.out).mono ?_); rintro e w' ⟨rfl, ⟨nd, rfl⟩⟩; refine ⟨_, rfl, ?_⟩))
      go_meet
      case rel => exact ⟨_, (true), (by first | rfl | (simp; done) | (simp [*]; done)), H', ⟨by first | omega | exact Nat.le_refl _⟩, by repeat (first | exact Drawn0.refl _ | apply Drawn0.step)⟩
  case rest =>
    clear HC4
    try clear c1
    try clear p2
    try clear c6
    try clear c8
    try clear c10
    obtain ⟨kq, x26_3, rfl, HA, HJ3, ⟨mc3, rfl⟩⟩ := hcut
    cases kq with
    | zero => exact absurd HA.out (by simp [hearthlaw1_FixGrows.j0])
    | succ kj3 =>
      have H := HA.out
      clear HA
      simp only [hearthlaw1_FixGrows.j0] at H
      by_cases c12 : x26_3 = true
      · subst c12
        have H1 : ((hearthlaw1_alive.f).bind fun t105 => (some t105)) = some r := by rw [if_pos rfl] at H; exact H
        clear H
        have H := H1
        clear H1
        replace H := Option.bind_eq_some_iff.mp H
        obtain ⟨t105, A130, H⟩ := H
        replace H : (some t105) = some r := H
        have A13 := Aside0.mk A130
        clear A130
        obtain rfl := Option.some.inj H
        go_wp2_with (first | ((with_reducible refine gate_callee (f := 19) rfl ?_); refine goesL_ (some 27) rfl rfl Try.func19 (by kernel_rfl) rfl #[] rfl (by (try simp only [List.map_toArray, List.map_cons, List.map_nil]); first | done | rfl | (simp only [List.length_drop, List.length_take]; rfl)) ?_; (with_reducible refine (hearthlaw1_alive.calls  t105 _ A13.out).mono ?_); rintro e w' ⟨rfl, ⟨nd, rfl⟩⟩; refine ⟨_, rfl, ?_⟩))
        go_ret
        exact ⟨by first | rfl | (simp; done) | (simp [*]; done), by repeat (first | exact Drawn0.refl _ | apply Drawn0.step)⟩
      · replace c12 := Bool.eq_false_iff.mpr c12
        subst c12
        have H1 : ((fix_FloLess.f a1 a0).bind fun t106 => (if t106 = true then (hearthlaw1_FixGrows.j1 kj3 a2 a1 a0) else (hearthlaw1_FixGrows.j1 kj3 a2 a0 a1))) = some r := by rw [if_neg (show ¬ (false = true) by decide)] at H; exact H
        clear H
        have H := H1
        clear H1
        replace H := Option.bind_eq_some_iff.mp H
        obtain ⟨t106, A140, H⟩ := H
        replace H : (if t106 = true then (hearthlaw1_FixGrows.j1 kj3 a2 a1 a0) else (hearthlaw1_FixGrows.j1 kj3 a2 a0 a1)) = some r := H
        have A14 := Aside0.mk A140
        clear A140
        have HC15 := Aside0.mk H
        clear H
        go_upto_if 32 with (first | ((with_reducible refine gate_callee (f := 26) rfl ?_); refine goesL_ (some 32) rfl rfl Try.func26 (by kernel_rfl) rfl #[.int .i64 a1, .int .i64 a0] rfl (by (try simp only [List.map_toArray, List.map_cons, List.map_nil]); first | done | rfl | (simp only [List.length_drop, List.length_take]; rfl)) ?_; (with_reducible refine (fix_FloLess.calls a1 a0 t106 _ A14.out).mono ?_); rintro e w' ⟨rfl, ⟨nd, rfl⟩⟩; refine ⟨_, rfl, ?_⟩))
        (try simp only [Act.put, List.setIfInBounds_toArray, List.set_cons_zero, List.set_cons_succ])
        go_cut [7, 8] (fun v7 v8 wc => ∃ (kq : Nat) (x7_14 : Int) (x8_14 : Int), v7 = .int .i64 x7_14 ∧ v8 = .int .i64 x8_14 ∧ Aside0 (hearthlaw1_FixGrows.j1 kq a2 x7_14 x8_14 = some r) ∧ Aside0 (kq ≤ kj3) ∧ Drawn0 w wc)
        case first =>
          have H := HC15.out
          clear HC15
          by_cases c16 : t106 = true
          · subst c16
            have H1 : (hearthlaw1_FixGrows.j1 kj3 a2 a1 a0) = some r := by rw [if_pos rfl] at H; exact H
            clear H
            have H := H1
            clear H1
            have H' := Aside0.mk H
            clear H
            go_wp2
            go_meet
            case rel => exact ⟨_, (a1), (a0), (by first | rfl | (simp; done) | (simp [*]; done)), (by first | rfl | (simp; done) | (simp [*]; done)), H', ⟨by have := HJ3.out; first | omega | exact Nat.le_refl _⟩, by repeat (first | exact Drawn0.refl _ | apply Drawn0.step)⟩
          · replace c16 := Bool.eq_false_iff.mpr c16
            subst c16
            have H1 : (hearthlaw1_FixGrows.j1 kj3 a2 a0 a1) = some r := by rw [if_neg (show ¬ (false = true) by decide)] at H; exact H
            clear H
            have H := H1
            clear H1
            have H' := Aside0.mk H
            clear H
            go_wp2
            go_meet
            case rel => exact ⟨_, (a0), (a1), (by first | rfl | (simp; done) | (simp [*]; done)), (by first | rfl | (simp; done) | (simp [*]; done)), H', ⟨by have := HJ3.out; first | omega | exact Nat.le_refl _⟩, by repeat (first | exact Drawn0.refl _ | apply Drawn0.step)⟩
        case rest =>
          clear HC15
          try clear c1
          try clear c2
          try clear p2
          try clear c3
          try clear c6
          try clear c8
          try clear c10
          try clear c12
          try clear c16
          try clear p2
          obtain ⟨kq, x7_14, x8_14, rfl, rfl, HA, HJ14, ⟨mc14, rfl⟩⟩ := hcut
          cases kq with
          | zero => exact absurd HA.out (by simp [hearthlaw1_FixGrows.j1])
          | succ kj14 =>
            have H := HA.out
            clear HA
            simp only [hearthlaw1_FixGrows.j1] at H
            have HC17 := Aside0.mk H
            clear H
            go_upto_region 8 with (fail)
            go_cut [50] (fun v50 wc => ∃ (kq : Nat) (x50_16 : Bool), v50 = .bool x50_16 ∧ Aside0 (hearthlaw1_FixGrows.j2 kq a2 x7_14 x8_14 x50_16 = some r) ∧ Aside0 (kq ≤ kj14) ∧ Drawn0 w wc)
            case first =>
              have H := HC17.out
              clear HC17
              replace H := Option.bind_eq_some_iff.mp H
              obtain ⟨t107, A180, H⟩ := H
              replace H : ((fix_FloAdd.f x7_14 a2).bind fun t108 => ((fix_FloLess.f t107 t108).bind fun t109 => (if t109 = true then (hearthlaw1_FixGrows.j2 kj14 a2 x7_14 x8_14 true) else ((fix_FloSub.f x8_14 a2).bind fun t110 => ((fix_FloSub.f x7_14 a2).bind fun t111 => ((fix_FloLess.f t110 t111).bind fun t112 => (hearthlaw1_FixGrows.j2 kj14 a2 x7_14 x8_14 t112))))))) = some r := H
              have A18 := Aside0.mk A180
              clear A180
              replace H := Option.bind_eq_some_iff.mp H
              obtain ⟨t108, A190, H⟩ := H
              replace H : ((fix_FloLess.f t107 t108).bind fun t109 => (if t109 = true then (hearthlaw1_FixGrows.j2 kj14 a2 x7_14 x8_14 true) else ((fix_FloSub.f x8_14 a2).bind fun t110 => ((fix_FloSub.f x7_14 a2).bind fun t111 => ((fix_FloLess.f t110 t111).bind fun t112 => (hearthlaw1_FixGrows.j2 kj14 a2 x7_14 x8_14 t112)))))) = some r := H
              have A19 := Aside0.mk A190
              clear A190
              replace H := Option.bind_eq_some_iff.mp H
              obtain ⟨t109, A200, H⟩ := H
              replace H : (if t109 = true then (hearthlaw1_FixGrows.j2 kj14 a2 x7_14 x8_14 true) else ((fix_FloSub.f x8_14 a2).bind fun t110 => ((fix_FloSub.f x7_14 a2).bind fun t111 => ((fix_FloLess.f t110 t111).bind fun t112 => (hearthlaw1_FixGrows.j2 kj14 a2 x7_14 x8_14 t112))))) = some r := H
              have A20 := Aside0.mk A200
              clear A200
              by_cases c21 : t109 = true
              · subst c21
                have H1 : (hearthlaw1_FixGrows.j2 kj14 a2 x7_14 x8_14 true) = some r := by rw [if_pos rfl] at H; exact H
                clear H
                have H := H1
                clear H1
                have H' := Aside0.mk H
                clear H
                go_wp2_with (first | ((with_reducible refine gate_callee (f := 22) rfl ?_); refine goesL_ (some 37) rfl rfl Try.func22 (by kernel_rfl) rfl #[.int .i64 x8_14, .int .i64 a2] rfl (by (try simp only [List.map_toArray, List.map_cons, List.map_nil]); first | done | rfl | (simp only [List.length_drop, List.length_take]; rfl)) ?_; (with_reducible refine (fix_FloAdd.calls x8_14 a2 t107 _ A18.out).mono ?_); rintro e w' ⟨rfl, ⟨nd, rfl⟩⟩; refine ⟨_, rfl, ?_⟩) | ((with_reducible refine gate_callee (f := 22) rfl ?_); refine goesL_ (some 40) rfl rfl Try.func22 (by kernel_rfl) rfl #[.int .i64 x7_14, .int .i64 a2] rfl (by (try simp only [List.map_toArray, List.map_cons, List.map_nil]); first | done | rfl | (simp only [List.length_drop, List.length_take]; rfl)) ?_; (with_reducible refine (fix_FloAdd.calls x7_14 a2 t108 _ A19.out).mono ?_); rintro e w' ⟨rfl, ⟨nd, rfl⟩⟩; refine ⟨_, rfl, ?_⟩) | ((with_reducible refine gate_callee (f := 26) rfl ?_); refine goesL_ (some 41) rfl rfl Try.func26 (by kernel_rfl) rfl #[.int .i64 t107, .int .i64 t108] rfl (by (try simp only [List.map_toArray, List.map_cons, List.map_nil]); first | done | rfl | (simp only [List.length_drop, List.length_take]; rfl)) ?_; (with_reducible refine (fix_FloLess.calls t107 t108 true _ A20.out).mono ?_); rintro e w' ⟨rfl, ⟨nd, rfl⟩⟩; refine ⟨_, rfl, ?_⟩))
                go_meet
                case rel => exact ⟨_, (true), (by first | rfl | (simp; done) | (simp [*]; done)), H', ⟨by have := HJ3.out; have := HJ14.out; first | omega | exact Nat.le_refl _⟩, by repeat (first | exact Drawn0.refl _ | apply Drawn0.step)⟩
              · replace c21 := Bool.eq_false_iff.mpr c21
                subst c21
                have H1 : ((fix_FloSub.f x8_14 a2).bind fun t110 => ((fix_FloSub.f x7_14 a2).bind fun t111 => ((fix_FloLess.f t110 t111).bind fun t112 => (hearthlaw1_FixGrows.j2 kj14 a2 x7_14 x8_14 t112)))) = some r := by rw [if_neg (show ¬ (false = true) by decide)] at H; exact H
                clear H
                have H := H1
                clear H1
                replace H := Option.bind_eq_some_iff.mp H
                obtain ⟨t110, A220, H⟩ := H
                replace H : ((fix_FloSub.f x7_14 a2).bind fun t111 => ((fix_FloLess.f t110 t111).bind fun t112 => (hearthlaw1_FixGrows.j2 kj14 a2 x7_14 x8_14 t112))) = some r := H
                have A22 := Aside0.mk A220
                clear A220
                replace H := Option.bind_eq_some_iff.mp H
                obtain ⟨t111, A230, H⟩ := H
                replace H : ((fix_FloLess.f t110 t111).bind fun t112 => (hearthlaw1_FixGrows.j2 kj14 a2 x7_14 x8_14 t112)) = some r := H
                have A23 := Aside0.mk A230
                clear A230
                replace H := Option.bind_eq_some_iff.mp H
                obtain ⟨t112, A240, H⟩ := H
                replace H : (hearthlaw1_FixGrows.j2 kj14 a2 x7_14 x8_14 t112) = some r := H
                have A24 := Aside0.mk A240
                clear A240
                have H' := Aside0.mk H
                clear H
                go_wp2_with (first | ((with_reducible refine gate_callee (f := 22) rfl ?_); refine goesL_ (some 37) rfl rfl Try.func22 (by kernel_rfl) rfl #[.int .i64 x8_14, .int .i64 a2] rfl (by (try simp only [List.map_toArray, List.map_cons, List.map_nil]); first | done | rfl | (simp only [List.length_drop, List.length_take]; rfl)) ?_; (with_reducible refine (fix_FloAdd.calls x8_14 a2 t107 _ A18.out).mono ?_); rintro e w' ⟨rfl, ⟨nd, rfl⟩⟩; refine ⟨_, rfl, ?_⟩) | ((with_reducible refine gate_callee (f := 22) rfl ?_); refine goesL_ (some 40) rfl rfl Try.func22 (by kernel_rfl) rfl #[.int .i64 x7_14, .int .i64 a2] rfl (by (try simp only [List.map_toArray, List.map_cons, List.map_nil]); first | done | rfl | (simp only [List.length_drop, List.length_take]; rfl)) ?_; (with_reducible refine (fix_FloAdd.calls x7_14 a2 t108 _ A19.out).mono ?_); rintro e w' ⟨rfl, ⟨nd, rfl⟩⟩; refine ⟨_, rfl, ?_⟩) | ((with_reducible refine gate_callee (f := 26) rfl ?_); refine goesL_ (some 41) rfl rfl Try.func26 (by kernel_rfl) rfl #[.int .i64 t107, .int .i64 t108] rfl (by (try simp only [List.map_toArray, List.map_cons, List.map_nil]); first | done | rfl | (simp only [List.length_drop, List.length_take]; rfl)) ?_; (with_reducible refine (fix_FloLess.calls t107 t108 false _ A20.out).mono ?_); rintro e w' ⟨rfl, ⟨nd, rfl⟩⟩; refine ⟨_, rfl, ?_⟩) | (go_at_call 24; (with_reducible refine (fix_FloSub.calls x8_14 a2 t110 _ A22.out).mono ?_); rintro e w' ⟨rfl, ⟨nd, rfl⟩⟩) | (go_at_call 24; (with_reducible refine (fix_FloSub.calls x7_14 a2 t111 _ A23.out).mono ?_); rintro e w' ⟨rfl, ⟨nd, rfl⟩⟩) | (go_at_call 26; (with_reducible refine (fix_FloLess.calls t110 t111 t112 _ A24.out).mono ?_); rintro e w' ⟨rfl, ⟨nd, rfl⟩⟩))
                go_meet
                case rel => exact ⟨_, (t112), (by first | rfl | (simp; done) | (simp [*]; done)), H', ⟨by have := HJ3.out; have := HJ14.out; first | omega | exact Nat.le_refl _⟩, by repeat (first | exact Drawn0.refl _ | apply Drawn0.step)⟩
            case rest =>
              clear HC17
              try clear c1
              try clear c2
              try clear p2
              try clear c3
              try clear c6
              try clear c8
              try clear c10
              try clear c12
              try clear c14
              try clear c16
              try clear c19
              try clear c21
              try clear c22
              try clear p2
              obtain ⟨kq, x50_16, rfl, HA, HJ16, ⟨mc16, rfl⟩⟩ := hcut
              cases kq with
              | zero => exact absurd HA.out (by simp [hearthlaw1_FixGrows.j2])
              | succ kj16 =>
                have H := HA.out
                clear HA
                simp only [hearthlaw1_FixGrows.j2] at H
                by_cases c25 : x50_16 = true
                · subst c25
                  have H1 : (some false) = some r := by rw [if_pos rfl] at H; exact H
                  clear H
                  have H := H1
                  clear H1
                  obtain rfl := Option.some.inj H
                  go_wp2
                  go_ret
                  exact ⟨by first | rfl | (simp; done) | (simp [*]; done), by repeat (first | exact Drawn0.refl _ | apply Drawn0.step)⟩
                · replace c25 := Bool.eq_false_iff.mpr c25
                  subst c25
                  have H1 : ((fix_FloMul.f x8_14 (Go.bits .and .i64 a2 9223372036854775807)).bind fun t113 => ((fix_FloMul.f x7_14 (Go.bits .and .i64 a2 9223372036854775807)).bind fun t114 => ((fix_FloLess.f t113 t114).bind fun t115 => (if t115 = true then (some false) else (if (Go.bits .and .i64 a2 9223372036854775807) = 0 then (some true) else ((fix_FloDiv.f x8_14 (Go.bits .and .i64 a2 9223372036854775807)).bind fun t116 => ((fix_FloDiv.f x7_14 (Go.bits .and .i64 a2 9223372036854775807)).bind fun t117 => ((fix_FloLess.f t116 t117).bind fun t118 => (some (!t118)))))))))) = some r := by rw [if_neg (show ¬ (false = true) by decide)] at H; exact H
                  clear H
                  have H := H1
                  clear H1
                  replace H := Option.bind_eq_some_iff.mp H
                  obtain ⟨t113, A260, H⟩ := H
                  replace H : ((fix_FloMul.f x7_14 (Go.bits .and .i64 a2 9223372036854775807)).bind fun t114 => ((fix_FloLess.f t113 t114).bind fun t115 => (if t115 = true then (some false) else (if (Go.bits .and .i64 a2 9223372036854775807) = 0 then (some true) else ((fix_FloDiv.f x8_14 (Go.bits .and .i64 a2 9223372036854775807)).bind fun t116 => ((fix_FloDiv.f x7_14 (Go.bits .and .i64 a2 9223372036854775807)).bind fun t117 => ((fix_FloLess.f t116 t117).bind fun t118 => (some (!t118))))))))) = some r := H
                  have A26 := Aside0.mk A260
                  clear A260
                  replace H := Option.bind_eq_some_iff.mp H
                  obtain ⟨t114, A270, H⟩ := H
                  replace H : ((fix_FloLess.f t113 t114).bind fun t115 => (if t115 = true then (some false) else (if (Go.bits .and .i64 a2 9223372036854775807) = 0 then (some true) else ((fix_FloDiv.f x8_14 (Go.bits .and .i64 a2 9223372036854775807)).bind fun t116 => ((fix_FloDiv.f x7_14 (Go.bits .and .i64 a2 9223372036854775807)).bind fun t117 => ((fix_FloLess.f t116 t117).bind fun t118 => (some (!t118)))))))) = some r := H
                  have A27 := Aside0.mk A270
                  clear A270
                  replace H := Option.bind_eq_some_iff.mp H
                  obtain ⟨t115, A280, H⟩ := H
                  replace H : (if t115 = true then (some false) else (if (Go.bits .and .i64 a2 9223372036854775807) = 0 then (some true) else ((fix_FloDiv.f x8_14 (Go.bits .and .i64 a2 9223372036854775807)).bind fun t116 => ((fix_FloDiv.f x7_14 (Go.bits .and .i64 a2 9223372036854775807)).bind fun t117 => ((fix_FloLess.f t116 t117).bind fun t118 => (some (!t118))))))) = some r := H
                  have A28 := Aside0.mk A280
                  clear A280
                  by_cases c29 : t115 = true
                  · subst c29
                    have H1 : (some false) = some r := by rw [if_pos rfl] at H; exact H
                    clear H
                    have H := H1
                    clear H1
                    obtain rfl := Option.some.inj H
                    go_wp2_with (first | ((with_reducible refine gate_callee (f := 31) rfl ?_); refine goesL_ (some 55) rfl rfl Try.func31 (by kernel_rfl) rfl #[.int .i64 x8_14, .int .i64 (Go.bits .and .i64 a2 9223372036854775807)] rfl (by (try simp only [List.map_toArray, List.map_cons, List.map_nil]); first | done | rfl | (simp only [List.length_drop, List.length_take]; rfl)) ?_; (with_reducible refine (fix_FloMul.calls x8_14 (Go.bits .and .i64 a2 9223372036854775807) t113 _ A26.out).mono ?_); rintro e w' ⟨rfl, ⟨nd, rfl⟩⟩; refine ⟨_, rfl, ?_⟩) | ((with_reducible refine gate_callee (f := 31) rfl ?_); refine goesL_ (some 58) rfl rfl Try.func31 (by kernel_rfl) rfl #[.int .i64 x7_14, .int .i64 (Go.bits .and .i64 a2 9223372036854775807)] rfl (by (try simp only [List.map_toArray, List.map_cons, List.map_nil]); first | done | rfl | (simp only [List.length_drop, List.length_take]; rfl)) ?_; (with_reducible refine (fix_FloMul.calls x7_14 (Go.bits .and .i64 a2 9223372036854775807) t114 _ A27.out).mono ?_); rintro e w' ⟨rfl, ⟨nd, rfl⟩⟩; refine ⟨_, rfl, ?_⟩) | ((with_reducible refine gate_callee (f := 26) rfl ?_); refine goesL_ (some 59) rfl rfl Try.func26 (by kernel_rfl) rfl #[.int .i64 t113, .int .i64 t114] rfl (by (try simp only [List.map_toArray, List.map_cons, List.map_nil]); first | done | rfl | (simp only [List.length_drop, List.length_take]; rfl)) ?_; (with_reducible refine (fix_FloLess.calls t113 t114 true _ A28.out).mono ?_); rintro e w' ⟨rfl, ⟨nd, rfl⟩⟩; refine ⟨_, rfl, ?_⟩))
                    go_ret
                    exact ⟨by first | rfl | (simp; done) | (simp [*]; done), by repeat (first | exact Drawn0.refl _ | apply Drawn0.step)⟩
                  · replace c29 := Bool.eq_false_iff.mpr c29
                    subst c29
                    have H1 : (if (Go.bits .and .i64 a2 9223372036854775807) = 0 then (some true) else ((fix_FloDiv.f x8_14 (Go.bits .and .i64 a2 9223372036854775807)).bind fun t116 => ((fix_FloDiv.f x7_14 (Go.bits .and .i64 a2 9223372036854775807)).bind fun t117 => ((fix_FloLess.f t116 t117).bind fun t118 => (some (!t118)))))) = some r := by rw [if_neg (show ¬ (false = true) by decide)] at H; exact H
                    clear H
                    have H := H1
                    clear H1
                    by_cases c30 : (Go.bits .and .i64 a2 9223372036854775807) = 0
                    · rw [if_pos c30] at H
                      have c30b0 : ((Go.bits .and .i64 a2 9223372036854775807) == 0) = true := beq_iff_eq.mpr c30
                      have c30b1 : ((Go.bits .and .i64 a2 9223372036854775807) != 0) = false := bne_eq_false_iff_eq.mpr c30
                      clear c30
                      obtain rfl := Option.some.inj H
                      go_wp2_with (first | ((with_reducible refine gate_callee (f := 31) rfl ?_); refine goesL_ (some 55) rfl rfl Try.func31 (by kernel_rfl) rfl #[.int .i64 x8_14, .int .i64 (Go.bits .and .i64 a2 9223372036854775807)] rfl (by (try simp only [List.map_toArray, List.map_cons, List.map_nil]); first | done | rfl | (simp only [List.length_drop, List.length_take]; rfl)) ?_; (with_reducible refine (fix_FloMul.calls x8_14 (Go.bits .and .i64 a2 9223372036854775807) t113 _ A26.out).mono ?_); rintro e w' ⟨rfl, ⟨nd, rfl⟩⟩; refine ⟨_, rfl, ?_⟩) | ((with_reducible refine gate_callee (f := 31) rfl ?_); refine goesL_ (some 58) rfl rfl Try.func31 (by kernel_rfl) rfl #[.int .i64 x7_14, .int .i64 (Go.bits .and .i64 a2 9223372036854775807)] rfl (by (try simp only [List.map_toArray, List.map_cons, List.map_nil]); first | done | rfl | (simp only [List.length_drop, List.length_take]; rfl)) ?_; (with_reducible refine (fix_FloMul.calls x7_14 (Go.bits .and .i64 a2 9223372036854775807) t114 _ A27.out).mono ?_); rintro e w' ⟨rfl, ⟨nd, rfl⟩⟩; refine ⟨_, rfl, ?_⟩) | ((with_reducible refine gate_callee (f := 26) rfl ?_); refine goesL_ (some 59) rfl rfl Try.func26 (by kernel_rfl) rfl #[.int .i64 t113, .int .i64 t114] rfl (by (try simp only [List.map_toArray, List.map_cons, List.map_nil]); first | done | rfl | (simp only [List.length_drop, List.length_take]; rfl)) ?_; (with_reducible refine (fix_FloLess.calls t113 t114 false _ A28.out).mono ?_); rintro e w' ⟨rfl, ⟨nd, rfl⟩⟩; refine ⟨_, rfl, ?_⟩))
                      go_ret
                      exact ⟨by first | rfl | (simp; done) | (simp [*]; done), by repeat (first | exact Drawn0.refl _ | apply Drawn0.step)⟩
                    · rw [if_neg c30] at H
                      have c30b0 : ((Go.bits .and .i64 a2 9223372036854775807) == 0) = false := beq_eq_false_iff_ne.mpr c30
                      have c30b1 : ((Go.bits .and .i64 a2 9223372036854775807) != 0) = true := bne_iff_ne.mpr c30
                      replace H := Option.bind_eq_some_iff.mp H
                      obtain ⟨t116, A310, H⟩ := H
                      replace H : ((fix_FloDiv.f x7_14 (Go.bits .and .i64 a2 9223372036854775807)).bind fun t117 => ((fix_FloLess.f t116 t117).bind fun t118 => (some (!t118)))) = some r := H
                      have A31 := Aside0.mk A310
                      clear A310
                      replace H := Option.bind_eq_some_iff.mp H
                      obtain ⟨t117, A320, H⟩ := H
                      replace H : ((fix_FloLess.f t116 t117).bind fun t118 => (some (!t118))) = some r := H
                      have A32 := Aside0.mk A320
                      clear A320
                      replace H := Option.bind_eq_some_iff.mp H
                      obtain ⟨t118, A330, H⟩ := H
                      replace H : (some (!t118)) = some r := H
                      have A33 := Aside0.mk A330
                      clear A330
                      obtain rfl := Option.some.inj H
                      go_wp2_with (first | ((with_reducible refine gate_callee (f := 31) rfl ?_); refine goesL_ (some 55) rfl rfl Try.func31 (by kernel_rfl) rfl #[.int .i64 x8_14, .int .i64 (Go.bits .and .i64 a2 9223372036854775807)] rfl (by (try simp only [List.map_toArray, List.map_cons, List.map_nil]); first | done | rfl | (simp only [List.length_drop, List.length_take]; rfl)) ?_; (with_reducible refine (fix_FloMul.calls x8_14 (Go.bits .and .i64 a2 9223372036854775807) t113 _ A26.out).mono ?_); rintro e w' ⟨rfl, ⟨nd, rfl⟩⟩; refine ⟨_, rfl, ?_⟩) | ((with_reducible refine gate_callee (f := 31) rfl ?_); refine goesL_ (some 58) rfl rfl Try.func31 (by kernel_rfl) rfl #[.int .i64 x7_14, .int .i64 (Go.bits .and .i64 a2 9223372036854775807)] rfl (by (try simp only [List.map_toArray, List.map_cons, List.map_nil]); first | done | rfl | (simp only [List.length_drop, List.length_take]; rfl)) ?_; (with_reducible refine (fix_FloMul.calls x7_14 (Go.bits .and .i64 a2 9223372036854775807) t114 _ A27.out).mono ?_); rintro e w' ⟨rfl, ⟨nd, rfl⟩⟩; refine ⟨_, rfl, ?_⟩) | ((with_reducible refine gate_callee (f := 26) rfl ?_); refine goesL_ (some 59) rfl rfl Try.func26 (by kernel_rfl) rfl #[.int .i64 t113, .int .i64 t114] rfl (by (try simp only [List.map_toArray, List.map_cons, List.map_nil]); first | done | rfl | (simp only [List.length_drop, List.length_take]; rfl)) ?_; (with_reducible refine (fix_FloLess.calls t113 t114 false _ A28.out).mono ?_); rintro e w' ⟨rfl, ⟨nd, rfl⟩⟩; refine ⟨_, rfl, ?_⟩) | (go_at_call 33; (with_reducible refine (fix_FloDiv.calls x8_14 (Go.bits .and .i64 a2 9223372036854775807) t116 _ A31.out).mono ?_); rintro e w' ⟨rfl, ⟨nd, rfl⟩⟩) | (go_at_call 33; (with_reducible refine (fix_FloDiv.calls x7_14 (Go.bits .and .i64 a2 9223372036854775807) t117 _ A32.out).mono ?_); rintro e w' ⟨rfl, ⟨nd, rfl⟩⟩) | (go_at_call 26; (with_reducible refine (fix_FloLess.calls t116 t117 t118 _ A33.out).mono ?_); rintro e w' ⟨rfl, ⟨nd, rfl⟩⟩))
                      go_ret
                      exact ⟨by first | rfl | (simp; done) | (simp [*]; done), by repeat (first | exact Drawn0.refl _ | apply Drawn0.step)⟩

/-- THE ONE PURE STATEMENT of hearthlaw1_FixGrows: yours. -/
def hearthlaw1_FixGrows.Pure : Prop := ∀ (a0 : Int) (a1 : Int) (a2 : Int), (Lit.int .i64 a0).wf = true → (Lit.int .i64 a1).wf = true → (Lit.int .i64 a2).wf = true → ∃ k, hearthlaw1_FixGrows.f k a0 a1 a2 = some true
theorem hearthlaw1_FixGrows.walk (P : hearthlaw1_FixGrows.Pure) (a0 : Int) (a1 : Int) (a2 : Int) (w : World) (w0 : (Lit.int .i64 a0).wf = true) (w1 : (Lit.int .i64 a1).wf = true) (w2 : (Lit.int .i64 a2).wf = true) :
    Calls Try.prog 12 #[.int .i64 a0, .int .i64 a1, .int .i64 a2] w fun e w' => e = .returned (.bool true) ∧ Below w.heap.size w w' := by
  obtain ⟨k, h⟩ := P a0 a1 a2 w0 w1 w2
  refine (hearthlaw1_FixGrows.calls k a0 a1 a2 true w h).mono ?_
  rintro e w' ⟨rfl, hd⟩
  exact ⟨rfl, hd.below⟩

/-! ### hearthlaw1_FixNear: function 14 -/
mutual
def hearthlaw1_FixNear.j0 : Nat → Int → Int → Bool → Option (Bool)
  | 0, _, _, _ => none
  | k + 1, x0, x5, x32 => if x32 = true then (some false) else ((fix_ToFix.f x5).bind fun bt125 => (if x0 ≥ (-9007199254740992) then (hearthlaw1_FixNear.j1 k x0 x5 bt125.1 bt125.2 (decide (x0 ≤ 9007199254740992))) else (hearthlaw1_FixNear.j1 k x0 x5 bt125.1 bt125.2 false)))
def hearthlaw1_FixNear.j1 : Nat → Int → Int → Int → Bool → Bool → Option (Bool)
  | 0, _, _, _, _, _ => none
  | k + 1, x0, x5, x6, x7, x43 => if x43 = true then (if x7 = true then (some (x6 == x0)) else (some false)) else (if x7 = true then (if (wrap64 (x6 - x0)) ≥ (-64) then (if (wrap64 (x6 - x0)) ≤ 64 then ((fix_ToFlo.f x6).bind fun t127 => (some (t127 == x5))) else (some false)) else (some false)) else (some (decide (x0 > 1152921504606846911))))
end
def hearthlaw1_FixNear.f (k : Nat) (a0 : Int) (a1 : Int) : Option (Bool) := (fix_Wrap.f a0).bind fun t119 => ((fix_Wrap.f a1).bind fun t120 => ((fix_ToFlo.f t119).bind fun t121 => ((hearthlaw1_alive.f).bind fun t122 => (if t122 = true then (if t119 < t120 then ((fix_ToFlo.f t120).bind fun t123 => ((fix_FloLess.f t121 t123).bind fun t124 => (hearthlaw1_FixNear.j0 k t119 t121 (t124 == (t121 == t123))))) else (hearthlaw1_FixNear.j0 k t119 t121 false)) else (hearthlaw1_FixNear.j0 k t119 t121 true)))))
theorem hearthlaw1_FixNear.mono_l : ∀ k, (∀ y0 y1 y2, LeO (hearthlaw1_FixNear.j0 k y0 y1 y2) (hearthlaw1_FixNear.j0 (k + 1) y0 y1 y2)) ∧ (∀ y0 y1 y2 y3 y4, LeO (hearthlaw1_FixNear.j1 k y0 y1 y2 y3 y4) (hearthlaw1_FixNear.j1 (k + 1) y0 y1 y2 y3 y4))
  | 0 => ⟨fun _ _ _ r h => by simp [hearthlaw1_FixNear.j0] at h, fun _ _ _ _ _ r h => by simp [hearthlaw1_FixNear.j1] at h⟩
  | k + 1 => by
    obtain ⟨ih0, ih1⟩ := hearthlaw1_FixNear.mono_l k
    refine ⟨?_, ?_⟩
    · intro y0 y1 y2
      unfold hearthlaw1_FixNear.j0
      repeat' first
      | (with_reducible exact ih0 _ _ _)
      | (with_reducible exact ih1 _ _ _ _ _)
      | (with_reducible exact LeO.refl _)
      | (with_reducible exact LeO.none _)
      | (with_reducible refine LeO.ite ?_ ?_)
      | (with_reducible refine LeO.bind ?_ (fun _ => ?_))
      | exact ih0 _ _ _
      | exact ih1 _ _ _ _ _
      | exact LeO.none _
      | refine LeO.ite ?_ ?_
      | refine LeO.bind ?_ (fun _ => ?_)
    · intro y0 y1 y2 y3 y4
      unfold hearthlaw1_FixNear.j1
      repeat' first
      | (with_reducible exact ih0 _ _ _)
      | (with_reducible exact ih1 _ _ _ _ _)
      | (with_reducible exact LeO.refl _)
      | (with_reducible exact LeO.none _)
      | (with_reducible refine LeO.ite ?_ ?_)
      | (with_reducible refine LeO.bind ?_ (fun _ => ?_))
      | exact ih0 _ _ _
      | exact ih1 _ _ _ _ _
      | exact LeO.none _
      | refine LeO.ite ?_ ?_
      | refine LeO.bind ?_ (fun _ => ?_)
theorem hearthlaw1_FixNear.mono : ∀ a0 a1 k, LeO (hearthlaw1_FixNear.f k a0 a1) (hearthlaw1_FixNear.f (k + 1) a0 a1) := by
  intro a0 a1 k
  obtain ⟨ih0, ih1⟩ := hearthlaw1_FixNear.mono_l k
  unfold hearthlaw1_FixNear.f
  repeat' first
      | (with_reducible exact ih0 _ _ _)
      | (with_reducible exact ih1 _ _ _ _ _)
      | (with_reducible exact LeO.refl _)
      | (with_reducible exact LeO.none _)
      | (with_reducible refine LeO.ite ?_ ?_)
      | (with_reducible refine LeO.bind ?_ (fun _ => ?_))
      | exact ih0 _ _ _
      | exact ih1 _ _ _ _ _
      | exact LeO.none _
      | refine LeO.ite ?_ ?_
      | refine LeO.bind ?_ (fun _ => ?_)
set_option maxHeartbeats 8000000 in
set_option maxRecDepth 100000 in
theorem hearthlaw1_FixNear.calls (k : Nat) (a0 : Int) (a1 : Int) (r : Bool) (w : World) (h : hearthlaw1_FixNear.f k a0 a1 = some r) :
    Calls Try.prog 14 #[.int .i64 a0, .int .i64 a1] w fun e w' => e = .returned (.bool r) ∧ Drawn0 w w' := by
  have H : ((fix_Wrap.f a0).bind fun t119 => ((fix_Wrap.f a1).bind fun t120 => ((fix_ToFlo.f t119).bind fun t121 => ((hearthlaw1_alive.f).bind fun t122 => (if t122 = true then (if t119 < t120 then ((fix_ToFlo.f t120).bind fun t123 => ((fix_FloLess.f t121 t123).bind fun t124 => (hearthlaw1_FixNear.j0 k t119 t121 (t124 == (t121 == t123))))) else (hearthlaw1_FixNear.j0 k t119 t121 false)) else (hearthlaw1_FixNear.j0 k t119 t121 true)))))) = some r := h
  clear h
  replace H := Option.bind_eq_some_iff.mp H
  obtain ⟨t119, A30, H⟩ := H
  replace H : ((fix_Wrap.f a1).bind fun t120 => ((fix_ToFlo.f t119).bind fun t121 => ((hearthlaw1_alive.f).bind fun t122 => (if t122 = true then (if t119 < t120 then ((fix_ToFlo.f t120).bind fun t123 => ((fix_FloLess.f t121 t123).bind fun t124 => (hearthlaw1_FixNear.j0 k t119 t121 (t124 == (t121 == t123))))) else (hearthlaw1_FixNear.j0 k t119 t121 false)) else (hearthlaw1_FixNear.j0 k t119 t121 true))))) = some r := H
  have A3 := Aside0.mk A30
  clear A30
  replace H := Option.bind_eq_some_iff.mp H
  obtain ⟨t120, A40, H⟩ := H
  replace H : ((fix_ToFlo.f t119).bind fun t121 => ((hearthlaw1_alive.f).bind fun t122 => (if t122 = true then (if t119 < t120 then ((fix_ToFlo.f t120).bind fun t123 => ((fix_FloLess.f t121 t123).bind fun t124 => (hearthlaw1_FixNear.j0 k t119 t121 (t124 == (t121 == t123))))) else (hearthlaw1_FixNear.j0 k t119 t121 false)) else (hearthlaw1_FixNear.j0 k t119 t121 true)))) = some r := H
  have A4 := Aside0.mk A40
  clear A40
  replace H := Option.bind_eq_some_iff.mp H
  obtain ⟨t121, A50, H⟩ := H
  replace H : ((hearthlaw1_alive.f).bind fun t122 => (if t122 = true then (if t119 < t120 then ((fix_ToFlo.f t120).bind fun t123 => ((fix_FloLess.f t121 t123).bind fun t124 => (hearthlaw1_FixNear.j0 k t119 t121 (t124 == (t121 == t123))))) else (hearthlaw1_FixNear.j0 k t119 t121 false)) else (hearthlaw1_FixNear.j0 k t119 t121 true))) = some r := H
  have A5 := Aside0.mk A50
  clear A50
  have HC6 := Aside0.mk H
  clear H
  go_enter Try.func14, Try.ntmps14
  go_upto_region 4 with (first | ((with_reducible refine gate_callee (f := 28) rfl ?_); refine goesL_ (some 10) rfl rfl Try.func28 (by kernel_rfl) rfl #[.int .i64 a0] rfl (by (try simp only [List.map_toArray, List.map_cons, List.map_nil]); first | done | rfl | (simp only [List.length_drop, List.length_take]; rfl)) ?_; (with_reducible refine (fix_Wrap.calls a0 t119 _ A3.out).mono ?_); rintro e w' ⟨rfl, ⟨nd, rfl⟩⟩; refine ⟨_, rfl, ?_⟩) | ((with_reducible refine gate_callee (f := 28) rfl ?_); refine goesL_ (some 12) rfl rfl Try.func28 (by kernel_rfl) rfl #[.int .i64 a1] rfl (by (try simp only [List.map_toArray, List.map_cons, List.map_nil]); first | done | rfl | (simp only [List.length_drop, List.length_take]; rfl)) ?_; (with_reducible refine (fix_Wrap.calls a1 t120 _ A4.out).mono ?_); rintro e w' ⟨rfl, ⟨nd, rfl⟩⟩; refine ⟨_, rfl, ?_⟩) | ((with_reducible refine gate_callee (f := 40) rfl ?_); refine goesL_ (some 14) rfl rfl Try.func40 (by kernel_rfl) rfl #[.int .i64 t119] rfl (by (try simp only [List.map_toArray, List.map_cons, List.map_nil]); first | done | rfl | (simp only [List.length_drop, List.length_take]; rfl)) ?_; (with_reducible refine (fix_ToFlo.calls t119 t121 _ A5.out).mono ?_); rintro e w' ⟨rfl, ⟨nd, rfl⟩⟩; refine ⟨_, rfl, ?_⟩))
  (try simp only [Act.put, List.setIfInBounds_toArray, List.set_cons_zero, List.set_cons_succ])
  go_cut [32] (fun v32 wc => ∃ (kq : Nat) (x32_5 : Bool), v32 = .bool x32_5 ∧ Aside0 (hearthlaw1_FixNear.j0 kq t119 t121 x32_5 = some r) ∧ Aside0 (kq ≤ k) ∧ Drawn0 w wc)
  case first =>
    have H := HC6.out
    clear HC6
    replace H := Option.bind_eq_some_iff.mp H
    obtain ⟨t122, A70, H⟩ := H
    replace H : (if t122 = true then (if t119 < t120 then ((fix_ToFlo.f t120).bind fun t123 => ((fix_FloLess.f t121 t123).bind fun t124 => (hearthlaw1_FixNear.j0 k t119 t121 (t124 == (t121 == t123))))) else (hearthlaw1_FixNear.j0 k t119 t121 false)) else (hearthlaw1_FixNear.j0 k t119 t121 true)) = some r := H
    have A7 := Aside0.mk A70
    clear A70
    by_cases c8 : t122 = true
    · subst c8
      have H1 : (if t119 < t120 then ((fix_ToFlo.f t120).bind fun t123 => ((fix_FloLess.f t121 t123).bind fun t124 => (hearthlaw1_FixNear.j0 k t119 t121 (t124 == (t121 == t123))))) else (hearthlaw1_FixNear.j0 k t119 t121 false)) = some r := by rw [if_pos rfl] at H; exact H
      clear H
      have H := H1
      clear H1
      by_cases c9 : t119 < t120
      · rw [if_pos c9] at H
        have c9b0 : decide (t119 < t120) = true := decide_eq_true c9
        clear c9
        (first | rw [c9b0] | (simp only [i64_w, i32_w]; rw [c9b0]) | skip)
        replace H := Option.bind_eq_some_iff.mp H
        obtain ⟨t123, A100, H⟩ := H
        replace H : ((fix_FloLess.f t121 t123).bind fun t124 => (hearthlaw1_FixNear.j0 k t119 t121 (t124 == (t121 == t123)))) = some r := H
        have A10 := Aside0.mk A100
        clear A100
        replace H := Option.bind_eq_some_iff.mp H
        obtain ⟨t124, A110, H⟩ := H
        replace H : (hearthlaw1_FixNear.j0 k t119 t121 (t124 == (t121 == t123))) = some r := H
        have A11 := Aside0.mk A110
        clear A110
        have H' := Aside0.mk H
        clear H
        go_wp2_with (first | ((with_reducible refine gate_callee (f := 19) rfl ?_); refine goesL_ (some 15) rfl rfl Try.func19 (by kernel_rfl) rfl #[] rfl (by (try simp only [List.map_toArray, List.map_cons, List.map_nil]); first | done | rfl | (simp only [List.length_drop, List.length_take]; rfl)) ?_; (with_reducible refine (hearthlaw1_alive.calls  true _ A7.out).mono ?_); rintro e w' ⟨rfl, ⟨nd, rfl⟩⟩; refine ⟨_, rfl, ?_⟩) | (go_at_call 40; (with_reducible refine (fix_ToFlo.calls t120 t123 _ A10.out).mono ?_); rintro e w' ⟨rfl, ⟨nd, rfl⟩⟩) | (go_at_call 26; (with_reducible refine (fix_FloLess.calls t121 t123 t124 _ A11.out).mono ?_); rintro e w' ⟨rfl, ⟨nd, rfl⟩⟩))
        go_meet
        case rel => exact ⟨_, ((t124 == (t121 == t123))), (by first | rfl | (simp; done) | (simp [*]; done)), H', ⟨by first | omega | exact Nat.le_refl _⟩, by repeat (first | exact Drawn0.refl _ | apply Drawn0.step)⟩
      · rw [if_neg c9] at H
        have c9b0 : decide (t119 < t120) = false := decide_eq_false c9
        clear c9
        (first | rw [c9b0] | (simp only [i64_w, i32_w]; rw [c9b0]) | skip)
        have H' := Aside0.mk H
        clear H
        go_wp2_with (first | ((with_reducible refine gate_callee (f := 19) rfl ?_); refine goesL_ (some 15) rfl rfl Try.func19 (by kernel_rfl) rfl #[] rfl (by (try simp only [List.map_toArray, List.map_cons, List.map_nil]); first | done | rfl | (simp only [List.length_drop, List.length_take]; rfl)) ?_; (with_reducible refine (hearthlaw1_alive.calls  true _ A7.out).mono ?_); rintro e w' ⟨rfl, ⟨nd, rfl⟩⟩; refine ⟨_, rfl, ?_⟩))
        go_meet
        case rel => exact ⟨_, (false), (by first | rfl | (simp; done) | (simp [*]; done)), H', ⟨by first | omega | exact Nat.le_refl _⟩, by repeat (first | exact Drawn0.refl _ | apply Drawn0.step)⟩
    · replace c8 := Bool.eq_false_iff.mpr c8
      subst c8
      have H1 : (hearthlaw1_FixNear.j0 k t119 t121 true) = some r := by rw [if_neg (show ¬ (false = true) by decide)] at H; exact H
      clear H
      have H := H1
      clear H1
      have H' := Aside0.mk H
      clear H
      go_wp2_with (first | ((with_reducible refine gate_callee (f := 19) rfl ?_); refine goesL_ (some 15) rfl rfl Try.func19 (by kernel_rfl) rfl #[] rfl (by (try simp only [List.map_toArray, List.map_cons, List.map_nil]); first | done | rfl | (simp only [List.length_drop, List.length_take]; rfl)) ?_; (with_reducible refine (hearthlaw1_alive.calls  false _ A7.out).mono ?_); rintro e w' ⟨rfl, ⟨nd, rfl⟩⟩; refine ⟨_, rfl, ?_⟩))
      go_meet
      case rel => exact ⟨_, (true), (by first | rfl | (simp; done) | (simp [*]; done)), H', ⟨by first | omega | exact Nat.le_refl _⟩, by repeat (first | exact Drawn0.refl _ | apply Drawn0.step)⟩
  case rest =>
    clear HC6
    try clear c1
    try clear c2
    try clear p2
    try clear c4
    try clear c8
    try clear c9
    try clear c9b0
    obtain ⟨kq, x32_5, rfl, HA, HJ5, ⟨mc5, rfl⟩⟩ := hcut
    cases kq with
    | zero => exact absurd HA.out (by simp [hearthlaw1_FixNear.j0])
    | succ kj5 =>
      have H := HA.out
      clear HA
      simp only [hearthlaw1_FixNear.j0] at H
      by_cases c12 : x32_5 = true
      · subst c12
        have H1 : (some false) = some r := by rw [if_pos rfl] at H; exact H
        clear H
        have H := H1
        clear H1
        obtain rfl := Option.some.inj H
        go_wp2
        go_ret
        exact ⟨by first | rfl | (simp; done) | (simp [*]; done), by repeat (first | exact Drawn0.refl _ | apply Drawn0.step)⟩
      · replace c12 := Bool.eq_false_iff.mpr c12
        subst c12
        have H1 : ((fix_ToFix.f t121).bind fun bt125 => (if t119 ≥ (-9007199254740992) then (hearthlaw1_FixNear.j1 kj5 t119 t121 bt125.1 bt125.2 (decide (t119 ≤ 9007199254740992))) else (hearthlaw1_FixNear.j1 kj5 t119 t121 bt125.1 bt125.2 false))) = some r := by rw [if_neg (show ¬ (false = true) by decide)] at H; exact H
        clear H
        have H := H1
        clear H1
        replace H := Option.bind_eq_some_iff.mp H
        obtain ⟨⟨t125, t126⟩, A130, H⟩ := H
        replace H : (if t119 ≥ (-9007199254740992) then (hearthlaw1_FixNear.j1 kj5 t119 t121 t125 t126 (decide (t119 ≤ 9007199254740992))) else (hearthlaw1_FixNear.j1 kj5 t119 t121 t125 t126 false)) = some r := H
        have A13 := Aside0.mk A130
        clear A130
        have HC14 := Aside0.mk H
        clear H
        go_upto_region 7 with (first | ((with_reducible refine gate_callee (f := 43) rfl ?_); refine goesL_ (some 35) rfl rfl Try.func43 (by kernel_rfl) rfl #[.int .i64 t121] rfl (by (try simp only [List.map_toArray, List.map_cons, List.map_nil]); first | done | rfl | (simp only [List.length_drop, List.length_take]; rfl)) ?_; (with_reducible refine (fix_ToFix.calls t121 t125 t126 _ A13.out).mono ?_); rintro e w' ⟨rfl, ⟨nd, rfl⟩⟩; refine ⟨_, rfl, ?_⟩))
        (try simp only [Act.put, List.setIfInBounds_toArray, List.set_cons_zero, List.set_cons_succ])
        go_cut [43] (fun v43 wc => ∃ (kq : Nat) (x43_13 : Bool), v43 = .bool x43_13 ∧ Aside0 (hearthlaw1_FixNear.j1 kq t119 t121 t125 t126 x43_13 = some r) ∧ Aside0 (kq ≤ kj5) ∧ Drawn0 w wc)
        case first =>
          have H := HC14.out
          clear HC14
          by_cases c15 : t119 ≥ (-9007199254740992)
          · rw [if_pos c15] at H
            have c15b0 : decide ((-9007199254740992) ≤ t119) = true := decide_eq_true c15
            clear c15
            (first | rw [c15b0] | (simp only [i64_w, i32_w]; rw [c15b0]) | skip)
            have H' := Aside0.mk H
            clear H
            go_wp2
            go_meet
            case rel => exact ⟨_, (decide (t119 ≤ 9007199254740992)), (by first | rfl | (simp; done) | (simp [*]; done)), H', ⟨by have := HJ5.out; first | omega | exact Nat.le_refl _⟩, by repeat (first | exact Drawn0.refl _ | apply Drawn0.step)⟩
          · rw [if_neg c15] at H
            have c15b0 : decide ((-9007199254740992) ≤ t119) = false := decide_eq_false c15
            clear c15
            (first | rw [c15b0] | (simp only [i64_w, i32_w]; rw [c15b0]) | skip)
            have H' := Aside0.mk H
            clear H
            go_wp2
            go_meet
            case rel => exact ⟨_, (false), (by first | rfl | (simp; done) | (simp [*]; done)), H', ⟨by have := HJ5.out; first | omega | exact Nat.le_refl _⟩, by repeat (first | exact Drawn0.refl _ | apply Drawn0.step)⟩
        case rest =>
          clear HC14
          try clear c1
          try clear c2
          try clear p2
          try clear c4
          try clear c5
          try clear c8
          try clear c9
          try clear c9b0
          try clear c12
          try clear c14
          try clear c15
          try clear c15b0
          try clear p2
          obtain ⟨kq, x43_13, rfl, HA, HJ13, ⟨mc13, rfl⟩⟩ := hcut
          cases kq with
          | zero => exact absurd HA.out (by simp [hearthlaw1_FixNear.j1])
          | succ kj13 =>
            have H := HA.out
            clear HA
            simp only [hearthlaw1_FixNear.j1] at H
            by_cases c16 : x43_13 = true
            · subst c16
              have H1 : (if t126 = true then (some (t125 == t119)) else (some false)) = some r := by rw [if_pos rfl] at H; exact H
              clear H
              have H := H1
              clear H1
              by_cases c17 : t126 = true
              · subst c17
                have H1 : (some (t125 == t119)) = some r := by rw [if_pos rfl] at H; exact H
                clear H
                have H := H1
                clear H1
                obtain rfl := Option.some.inj H
                go_wp2
                go_ret
                exact ⟨by first | rfl | (simp; done) | (simp [*]; done), by repeat (first | exact Drawn0.refl _ | apply Drawn0.step)⟩
              · replace c17 := Bool.eq_false_iff.mpr c17
                subst c17
                have H1 : (some false) = some r := by rw [if_neg (show ¬ (false = true) by decide)] at H; exact H
                clear H
                have H := H1
                clear H1
                obtain rfl := Option.some.inj H
                go_wp2
                go_ret
                exact ⟨by first | rfl | (simp; done) | (simp [*]; done), by repeat (first | exact Drawn0.refl _ | apply Drawn0.step)⟩
            · replace c16 := Bool.eq_false_iff.mpr c16
              subst c16
              have H1 : (if t126 = true then (if (wrap64 (t125 - t119)) ≥ (-64) then (if (wrap64 (t125 - t119)) ≤ 64 then ((fix_ToFlo.f t125).bind fun t127 => (some (t127 == t121))) else (some false)) else (some false)) else (some (decide (t119 > 1152921504606846911)))) = some r := by rw [if_neg (show ¬ (false = true) by decide)] at H; exact H
              clear H
              have H := H1
              clear H1
              by_cases c18 : t126 = true
              · subst c18
                have H1 : (if (wrap64 (t125 - t119)) ≥ (-64) then (if (wrap64 (t125 - t119)) ≤ 64 then ((fix_ToFlo.f t125).bind fun t127 => (some (t127 == t121))) else (some false)) else (some false)) = some r := by rw [if_pos rfl] at H; exact H
                clear H
                have H := H1
                clear H1
                by_cases c19 : (wrap64 (t125 - t119)) ≥ (-64)
                · rw [if_pos c19] at H
                  have c19b0 : decide ((-64) ≤ (wrap64 (t125 - t119))) = true := decide_eq_true c19
                  clear c19
                  by_cases c20 : (wrap64 (t125 - t119)) ≤ 64
                  · rw [if_pos c20] at H
                    have c20b0 : decide ((wrap64 (t125 - t119)) ≤ 64) = true := decide_eq_true c20
                    clear c20
                    replace H := Option.bind_eq_some_iff.mp H
                    obtain ⟨t127, A210, H⟩ := H
                    replace H : (some (t127 == t121)) = some r := H
                    have A21 := Aside0.mk A210
                    clear A210
                    obtain rfl := Option.some.inj H
                    go_wp2_with (first | (go_at_call 40; (with_reducible refine (fix_ToFlo.calls t125 t127 _ A21.out).mono ?_); rintro e w' ⟨rfl, ⟨nd, rfl⟩⟩))
                    go_ret
                    exact ⟨by first | rfl | (simp; done) | (simp [*]; done), by repeat (first | exact Drawn0.refl _ | apply Drawn0.step)⟩
                  · rw [if_neg c20] at H
                    have c20b0 : decide ((wrap64 (t125 - t119)) ≤ 64) = false := decide_eq_false c20
                    clear c20
                    obtain rfl := Option.some.inj H
                    go_wp2
                    go_ret
                    exact ⟨by first | rfl | (simp; done) | (simp [*]; done), by repeat (first | exact Drawn0.refl _ | apply Drawn0.step)⟩
                · rw [if_neg c19] at H
                  have c19b0 : decide ((-64) ≤ (wrap64 (t125 - t119))) = false := decide_eq_false c19
                  clear c19
                  obtain rfl := Option.some.inj H
                  go_wp2
                  go_ret
                  exact ⟨by first | rfl | (simp; done) | (simp [*]; done), by repeat (first | exact Drawn0.refl _ | apply Drawn0.step)⟩
              · replace c18 := Bool.eq_false_iff.mpr c18
                subst c18
                have H1 : (some (decide (t119 > 1152921504606846911))) = some r := by rw [if_neg (show ¬ (false = true) by decide)] at H; exact H
                clear H
                have H := H1
                clear H1
                obtain rfl := Option.some.inj H
                go_wp2
                go_ret
                exact ⟨by first | rfl | (simp; done) | (simp [*]; done), by repeat (first | exact Drawn0.refl _ | apply Drawn0.step)⟩

/-- THE ONE PURE STATEMENT of hearthlaw1_FixNear: yours. -/
def hearthlaw1_FixNear.Pure : Prop := ∀ (a0 : Int) (a1 : Int), (Lit.int .i64 a0).wf = true → (Lit.int .i64 a1).wf = true → ∃ k, hearthlaw1_FixNear.f k a0 a1 = some true
theorem hearthlaw1_FixNear.walk (P : hearthlaw1_FixNear.Pure) (a0 : Int) (a1 : Int) (w : World) (w0 : (Lit.int .i64 a0).wf = true) (w1 : (Lit.int .i64 a1).wf = true) :
    Calls Try.prog 14 #[.int .i64 a0, .int .i64 a1] w fun e w' => e = .returned (.bool true) ∧ Below w.heap.size w w' := by
  obtain ⟨k, h⟩ := P a0 a1 w0 w1
  refine (hearthlaw1_FixNear.calls k a0 a1 true w h).mono ?_
  rintro e w' ⟨rfl, hd⟩
  exact ⟨rfl, hd.below⟩

end Go.Proofs.Ytpjcheenihlagaa.Q3
