/- The walks of statements of chapter 1 (after the kit's print, over contracts of my own). No conditions beyond those in each lemma. -/
import Derived.Test.YtpjcheenihlagaaConA
import Derived.Test.YtpjcheenihlagaaQ2x0
import Derived.Test.YtpjcheenihlagaaQ2x1
namespace Go.Proofs.Ytpjcheenihlagaa.Q2
open Go.RowKit Go.Proofs.Ytpjcheenihlagaa.PFixAll Go.Proofs.YtpjcheenihlagaaW.PrintWords Go.Proofs.YtpjcheenihlagaaW.PrintLast Go.Proofs.YtpjcheenihlagaaW.PrintMore
attribute [local go_sem] max2_int min2_int max_two min_two max_three min_three max_four min_four   -- for this text's walks alone
set_option linter.unusedVariables false
set_option linter.unusedSimpArgs false

/-! ### hearthlaw1_FixSigns: function 11 -/
mutual
def hearthlaw1_FixSigns.j0 : Nat → Int → Int → Bool → Option (Bool)
  | 0, _, _, _ => none
  | k + 1, x0, x1, x5 => if x5 = true then ((fix_FloSub.f x0 x1).bind fun t115 => ((fix_FloAdd.f x0 (Go.bits .xor .i64 x1 (-9223372036854775808))).bind fun t116 => (if t115 = t116 then ((fix_FloMul.f x0 4607182418800017408).bind fun t117 => ((hearthlaw1_told.f x0).bind fun t118 => (if t117 = t118 then ((fix_FloDiv.f x0 4607182418800017408).bind fun t119 => (if t119 = t118 then ((fix_FloMul.f x0 4611686018427387904).bind fun t120 => ((fix_FloAdd.f x0 x0).bind fun t121 => (hearthlaw1_FixSigns.j1 k x0 x1 (t120 == t121)))) else (hearthlaw1_FixSigns.j1 k x0 x1 false))) else (hearthlaw1_FixSigns.j1 k x0 x1 false)))) else (hearthlaw1_FixSigns.j1 k x0 x1 false)))) else (hearthlaw1_FixSigns.j1 k x0 x1 false)
def hearthlaw1_FixSigns.j1 : Nat → Int → Int → Bool → Option (Bool)
  | 0, _, _, _ => none
  | k + 1, x0, x1, x5 => if x5 = true then ((fix_FloAdd.f x0 (-9223372036854775808)).bind fun t122 => ((hearthlaw1_told.f x0).bind fun t123 => (if t122 = t123 then ((fix_FloSub.f x0 0).bind fun t124 => (hearthlaw1_FixSigns.j2 k x0 x1 (t124 == t123))) else (hearthlaw1_FixSigns.j2 k x0 x1 false)))) else (hearthlaw1_FixSigns.j2 k x0 x1 false)
def hearthlaw1_FixSigns.j2 : Nat → Int → Int → Bool → Option (Bool)
  | 0, _, _, _ => none
  | k + 1, x0, x1, x5 => (hearthlaw1_finite.f x0).bind fun t125 => (if t125 = true then (if x5 = true then ((fix_FloSub.f x0 x0).bind fun t126 => (if t126 = 0 then (if (Go.bits .and .i64 x0 9223372036854775807) = 0 then (hearthlaw1_FixSigns.j3 k x0 x1 true) else ((fix_FloDiv.f x0 x0).bind fun t127 => (hearthlaw1_FixSigns.j3 k x0 x1 (t127 == 4607182418800017408)))) else (hearthlaw1_FixSigns.j3 k x0 x1 false))) else (hearthlaw1_FixSigns.j3 k x0 x1 false)) else (hearthlaw1_FixSigns.j3 k x0 x1 x5))
def hearthlaw1_FixSigns.j3 : Nat → Int → Int → Bool → Option (Bool)
  | 0, _, _, _ => none
  | k + 1, x0, x1, x5 => (hearthlaw1_number.f x0).bind fun t128 => (if t128 = true then ((hearthlaw1_number.f x1).bind fun t129 => (hearthlaw1_FixSigns.j4 k x0 x1 x5 t129)) else (hearthlaw1_FixSigns.j4 k x0 x1 x5 false))
def hearthlaw1_FixSigns.j4 : Nat → Int → Int → Bool → Bool → Option (Bool)
  | 0, _, _, _, _ => none
  | k + 1, x0, x1, x5, x95 => if x95 = true then (if x5 = true then ((fix_FloMul.f (Go.bits .xor .i64 x0 (-9223372036854775808)) x1).bind fun t130 => ((fix_FloMul.f x0 x1).bind fun t131 => ((hearthlaw1_told.f (Go.bits .xor .i64 t131 (-9223372036854775808))).bind fun t132 => (if t130 = t132 then ((fix_FloDiv.f x0 (Go.bits .xor .i64 x1 (-9223372036854775808))).bind fun t133 => ((fix_FloDiv.f x0 x1).bind fun t134 => ((hearthlaw1_told.f (Go.bits .xor .i64 t134 (-9223372036854775808))).bind fun t135 => (if t133 = t135 then ((hearthlaw1_alive.f).bind fun t136 => (some t136)) else (some false))))) else (some false))))) else (some false)) else (if x5 = true then ((hearthlaw1_alive.f).bind fun t137 => (some t137)) else (some false))
end
def hearthlaw1_FixSigns.f (k : Nat) (a0 : Int) (a1 : Int) : Option (Bool) := (fix_FloAdd.f a0 a1).bind fun t111 => ((fix_FloAdd.f a1 a0).bind fun t112 => (if t111 = t112 then ((fix_FloMul.f a0 a1).bind fun t113 => ((fix_FloMul.f a1 a0).bind fun t114 => (hearthlaw1_FixSigns.j0 k a0 a1 (t113 == t114)))) else (hearthlaw1_FixSigns.j0 k a0 a1 false)))
theorem hearthlaw1_FixSigns.mono_l : ∀ k, (∀ y0 y1 y2, LeO (hearthlaw1_FixSigns.j0 k y0 y1 y2) (hearthlaw1_FixSigns.j0 (k + 1) y0 y1 y2)) ∧ (∀ y0 y1 y2, LeO (hearthlaw1_FixSigns.j1 k y0 y1 y2) (hearthlaw1_FixSigns.j1 (k + 1) y0 y1 y2)) ∧ (∀ y0 y1 y2, LeO (hearthlaw1_FixSigns.j2 k y0 y1 y2) (hearthlaw1_FixSigns.j2 (k + 1) y0 y1 y2)) ∧ (∀ y0 y1 y2, LeO (hearthlaw1_FixSigns.j3 k y0 y1 y2) (hearthlaw1_FixSigns.j3 (k + 1) y0 y1 y2)) ∧ (∀ y0 y1 y2 y3, LeO (hearthlaw1_FixSigns.j4 k y0 y1 y2 y3) (hearthlaw1_FixSigns.j4 (k + 1) y0 y1 y2 y3))
  | 0 => ⟨fun _ _ _ r h => by simp [hearthlaw1_FixSigns.j0] at h, fun _ _ _ r h => by simp [hearthlaw1_FixSigns.j1] at h, fun _ _ _ r h => by simp [hearthlaw1_FixSigns.j2] at h, fun _ _ _ r h => by simp [hearthlaw1_FixSigns.j3] at h, fun _ _ _ _ r h => by simp [hearthlaw1_FixSigns.j4] at h⟩
  | k + 1 => by
    obtain ⟨ih0, ih1, ih2, ih3, ih4⟩ := hearthlaw1_FixSigns.mono_l k
    refine ⟨?_, ?_, ?_, ?_, ?_⟩
    · intro y0 y1 y2
      unfold hearthlaw1_FixSigns.j0
      repeat' first
      | (with_reducible exact ih0 _ _ _)
      | (with_reducible exact ih1 _ _ _)
      | (with_reducible exact ih2 _ _ _)
      | (with_reducible exact ih3 _ _ _)
      | (with_reducible exact ih4 _ _ _ _)
      | (with_reducible exact LeO.refl _)
      | (with_reducible exact LeO.none _)
      | (with_reducible refine LeO.ite ?_ ?_)
      | (with_reducible refine LeO.bind ?_ (fun _ => ?_))
      | exact ih0 _ _ _
      | exact ih1 _ _ _
      | exact ih2 _ _ _
      | exact ih3 _ _ _
      | exact ih4 _ _ _ _
      | exact LeO.none _
      | refine LeO.ite ?_ ?_
      | refine LeO.bind ?_ (fun _ => ?_)
    · intro y0 y1 y2
      unfold hearthlaw1_FixSigns.j1
      repeat' first
      | (with_reducible exact ih0 _ _ _)
      | (with_reducible exact ih1 _ _ _)
      | (with_reducible exact ih2 _ _ _)
      | (with_reducible exact ih3 _ _ _)
      | (with_reducible exact ih4 _ _ _ _)
      | (with_reducible exact LeO.refl _)
      | (with_reducible exact LeO.none _)
      | (with_reducible refine LeO.ite ?_ ?_)
      | (with_reducible refine LeO.bind ?_ (fun _ => ?_))
      | exact ih0 _ _ _
      | exact ih1 _ _ _
      | exact ih2 _ _ _
      | exact ih3 _ _ _
      | exact ih4 _ _ _ _
      | exact LeO.none _
      | refine LeO.ite ?_ ?_
      | refine LeO.bind ?_ (fun _ => ?_)
    · intro y0 y1 y2
      unfold hearthlaw1_FixSigns.j2
      repeat' first
      | (with_reducible exact ih0 _ _ _)
      | (with_reducible exact ih1 _ _ _)
      | (with_reducible exact ih2 _ _ _)
      | (with_reducible exact ih3 _ _ _)
      | (with_reducible exact ih4 _ _ _ _)
      | (with_reducible exact LeO.refl _)
      | (with_reducible exact LeO.none _)
      | (with_reducible refine LeO.ite ?_ ?_)
      | (with_reducible refine LeO.bind ?_ (fun _ => ?_))
      | exact ih0 _ _ _
      | exact ih1 _ _ _
      | exact ih2 _ _ _
      | exact ih3 _ _ _
      | exact ih4 _ _ _ _
      | exact LeO.none _
      | refine LeO.ite ?_ ?_
      | refine LeO.bind ?_ (fun _ => ?_)
    · intro y0 y1 y2
      unfold hearthlaw1_FixSigns.j3
      repeat' first
      | (with_reducible exact ih0 _ _ _)
      | (with_reducible exact ih1 _ _ _)
      | (with_reducible exact ih2 _ _ _)
      | (with_reducible exact ih3 _ _ _)
      | (with_reducible exact ih4 _ _ _ _)
      | (with_reducible exact LeO.refl _)
      | (with_reducible exact LeO.none _)
      | (with_reducible refine LeO.ite ?_ ?_)
      | (with_reducible refine LeO.bind ?_ (fun _ => ?_))
      | exact ih0 _ _ _
      | exact ih1 _ _ _
      | exact ih2 _ _ _
      | exact ih3 _ _ _
      | exact ih4 _ _ _ _
      | exact LeO.none _
      | refine LeO.ite ?_ ?_
      | refine LeO.bind ?_ (fun _ => ?_)
    · intro y0 y1 y2 y3
      unfold hearthlaw1_FixSigns.j4
      repeat' first
      | (with_reducible exact ih0 _ _ _)
      | (with_reducible exact ih1 _ _ _)
      | (with_reducible exact ih2 _ _ _)
      | (with_reducible exact ih3 _ _ _)
      | (with_reducible exact ih4 _ _ _ _)
      | (with_reducible exact LeO.refl _)
      | (with_reducible exact LeO.none _)
      | (with_reducible refine LeO.ite ?_ ?_)
      | (with_reducible refine LeO.bind ?_ (fun _ => ?_))
      | exact ih0 _ _ _
      | exact ih1 _ _ _
      | exact ih2 _ _ _
      | exact ih3 _ _ _
      | exact ih4 _ _ _ _
      | exact LeO.none _
      | refine LeO.ite ?_ ?_
      | refine LeO.bind ?_ (fun _ => ?_)
theorem hearthlaw1_FixSigns.mono : ∀ a0 a1 k, LeO (hearthlaw1_FixSigns.f k a0 a1) (hearthlaw1_FixSigns.f (k + 1) a0 a1) := by
  intro a0 a1 k
  obtain ⟨ih0, ih1, ih2, ih3, ih4⟩ := hearthlaw1_FixSigns.mono_l k
  unfold hearthlaw1_FixSigns.f
  repeat' first
      | (with_reducible exact ih0 _ _ _)
      | (with_reducible exact ih1 _ _ _)
      | (with_reducible exact ih2 _ _ _)
      | (with_reducible exact ih3 _ _ _)
      | (with_reducible exact ih4 _ _ _ _)
      | (with_reducible exact LeO.refl _)
      | (with_reducible exact LeO.none _)
      | (with_reducible refine LeO.ite ?_ ?_)
      | (with_reducible refine LeO.bind ?_ (fun _ => ?_))
      | exact ih0 _ _ _
      | exact ih1 _ _ _
      | exact ih2 _ _ _
      | exact ih3 _ _ _
      | exact ih4 _ _ _ _
      | exact LeO.none _
      | refine LeO.ite ?_ ?_
      | refine LeO.bind ?_ (fun _ => ?_)
set_option maxHeartbeats 8000000 in
set_option maxRecDepth 100000 in
theorem hearthlaw1_FixSigns.calls (k : Nat) (a0 : Int) (a1 : Int) (r : Bool) (w : World) (h : hearthlaw1_FixSigns.f k a0 a1 = some r) :
    Calls Try.prog 11 #[.int .i64 a0, .int .i64 a1] w fun e w' => e = .returned (.bool r) ∧ Drawn0 w w' := by
  have H : ((fix_FloAdd.f a0 a1).bind fun t111 => ((fix_FloAdd.f a1 a0).bind fun t112 => (if t111 = t112 then ((fix_FloMul.f a0 a1).bind fun t113 => ((fix_FloMul.f a1 a0).bind fun t114 => (hearthlaw1_FixSigns.j0 k a0 a1 (t113 == t114)))) else (hearthlaw1_FixSigns.j0 k a0 a1 false)))) = some r := h
  clear h
  have HC3 := Aside0.mk H
  clear H
  go_enter Try.func11, Try.ntmps11
  go_upto_region 1 with (fail)
  go_cut [5] (fun v5 wc => ∃ (kq : Nat) (x5_2 : Bool), v5 = .bool x5_2 ∧ Aside0 (hearthlaw1_FixSigns.j0 kq a0 a1 x5_2 = some r) ∧ Aside0 (kq ≤ k) ∧ Drawn0 w wc)
  case first =>
    have H := HC3.out
    clear HC3
    replace H := Option.bind_eq_some_iff.mp H
    obtain ⟨t111, A40, H⟩ := H
    replace H : ((fix_FloAdd.f a1 a0).bind fun t112 => (if t111 = t112 then ((fix_FloMul.f a0 a1).bind fun t113 => ((fix_FloMul.f a1 a0).bind fun t114 => (hearthlaw1_FixSigns.j0 k a0 a1 (t113 == t114)))) else (hearthlaw1_FixSigns.j0 k a0 a1 false))) = some r := H
    have A4 := Aside0.mk A40
    clear A40
    replace H := Option.bind_eq_some_iff.mp H
    obtain ⟨t112, A50, H⟩ := H
    replace H : (if t111 = t112 then ((fix_FloMul.f a0 a1).bind fun t113 => ((fix_FloMul.f a1 a0).bind fun t114 => (hearthlaw1_FixSigns.j0 k a0 a1 (t113 == t114)))) else (hearthlaw1_FixSigns.j0 k a0 a1 false)) = some r := H
    have A5 := Aside0.mk A50
    clear A50
    by_cases c6 : t111 = t112
    · rw [if_pos c6] at H
      have c6b0 : (t111 == t112) = true := beq_iff_eq.mpr c6
      have c6b1 : (t111 != t112) = false := bne_eq_false_iff_eq.mpr c6
      clear c6
      (first | rw [c6b0] | (simp only [i64_w, i32_w]; rw [c6b0]) | skip)
      replace H := Option.bind_eq_some_iff.mp H
      obtain ⟨t113, A70, H⟩ := H
      replace H : ((fix_FloMul.f a1 a0).bind fun t114 => (hearthlaw1_FixSigns.j0 k a0 a1 (t113 == t114))) = some r := H
      have A7 := Aside0.mk A70
      clear A70
      replace H := Option.bind_eq_some_iff.mp H
      obtain ⟨t114, A80, H⟩ := H
      replace H : (hearthlaw1_FixSigns.j0 k a0 a1 (t113 == t114)) = some r := H
      have A8 := Aside0.mk A80
      clear A80
      have H' := Aside0.mk H
      clear H
      go_wp2_with (first | ((with_reducible refine gate_callee (f := 22) rfl ?_); refine goesL_ (some 8) rfl rfl Try.func22 (by kernel_rfl) rfl #[.int .i64 a0, .int .i64 a1] rfl (by (try simp only [List.map_toArray, List.map_cons, List.map_nil]); first | done | rfl | (simp only [List.length_drop, List.length_take]; rfl)) ?_; (with_reducible refine (fix_FloAdd.calls a0 a1 t111 _ A4.out).mono ?_); rintro e w' ⟨rfl, ⟨nd, rfl⟩⟩; refine ⟨_, rfl, ?_⟩) | ((with_reducible refine gate_callee (f := 22) rfl ?_); refine goesL_ (some 11) rfl rfl Try.func22 (by kernel_rfl) rfl #[.int .i64 a1, .int .i64 a0] rfl (by (try simp only [List.map_toArray, List.map_cons, List.map_nil]); first | done | rfl | (simp only [List.length_drop, List.length_take]; rfl)) ?_; (with_reducible refine (fix_FloAdd.calls a1 a0 t112 _ A5.out).mono ?_); rintro e w' ⟨rfl, ⟨nd, rfl⟩⟩; refine ⟨_, rfl, ?_⟩) | (go_at_call 31; (with_reducible refine (fix_FloMul.calls a0 a1 t113 _ A7.out).mono ?_); rintro e w' ⟨rfl, ⟨nd, rfl⟩⟩) | (go_at_call 31; (with_reducible refine (fix_FloMul.calls a1 a0 t114 _ A8.out).mono ?_); rintro e w' ⟨rfl, ⟨nd, rfl⟩⟩))
      go_meet
      case rel => exact ⟨_, ((t113 == t114)), (by first | rfl | (simp; done) | (simp [*]; done)), H', ⟨by first | omega | exact Nat.le_refl _⟩, by repeat (first | exact Drawn0.refl _ | apply Drawn0.step)⟩
    · rw [if_neg c6] at H
      have c6b0 : (t111 == t112) = false := beq_eq_false_iff_ne.mpr c6
      have c6b1 : (t111 != t112) = true := bne_iff_ne.mpr c6
      (first | rw [c6b0] | (simp only [i64_w, i32_w]; rw [c6b0]) | skip)
      have H' := Aside0.mk H
      clear H
      go_wp2_with (first | ((with_reducible refine gate_callee (f := 22) rfl ?_); refine goesL_ (some 8) rfl rfl Try.func22 (by kernel_rfl) rfl #[.int .i64 a0, .int .i64 a1] rfl (by (try simp only [List.map_toArray, List.map_cons, List.map_nil]); first | done | rfl | (simp only [List.length_drop, List.length_take]; rfl)) ?_; (with_reducible refine (fix_FloAdd.calls a0 a1 t111 _ A4.out).mono ?_); rintro e w' ⟨rfl, ⟨nd, rfl⟩⟩; refine ⟨_, rfl, ?_⟩) | ((with_reducible refine gate_callee (f := 22) rfl ?_); refine goesL_ (some 11) rfl rfl Try.func22 (by kernel_rfl) rfl #[.int .i64 a1, .int .i64 a0] rfl (by (try simp only [List.map_toArray, List.map_cons, List.map_nil]); first | done | rfl | (simp only [List.length_drop, List.length_take]; rfl)) ?_; (with_reducible refine (fix_FloAdd.calls a1 a0 t112 _ A5.out).mono ?_); rintro e w' ⟨rfl, ⟨nd, rfl⟩⟩; refine ⟨_, rfl, ?_⟩))
      go_meet
      case rel => exact ⟨_, (false), (by first | rfl | (simp; done) | (simp [*]; done)), H', ⟨by first | omega | exact Nat.le_refl _⟩, by repeat (first | exact Drawn0.refl _ | apply Drawn0.step)⟩
  case rest =>
    clear HC3
    try clear c1
    try clear c2
    try clear p2
    try clear c6
    try clear c6b0
    try clear c6b1
    obtain ⟨kq, x5_2, rfl, HA, HJ2, ⟨mc2, rfl⟩⟩ := hcut
    cases kq with
    | zero => exact absurd HA.out (by simp [hearthlaw1_FixSigns.j0])
    | succ kj2 =>
      have H := HA.out
      clear HA
      simp only [hearthlaw1_FixSigns.j0] at H
      have HC9 := Aside0.mk H
      clear H
      go_upto_region 2 with (fail)
      go_cut [5] (fun v5 wc => ∃ (kq : Nat) (x5_8 : Bool), v5 = .bool x5_8 ∧ Aside0 (hearthlaw1_FixSigns.j1 kq a0 a1 x5_8 = some r) ∧ Aside0 (kq ≤ kj2) ∧ Drawn0 w wc)
      case first =>
        have H := HC9.out
        clear HC9
        by_cases c10 : x5_2 = true
        · subst c10
          have H1 : ((fix_FloSub.f a0 a1).bind fun t115 => ((fix_FloAdd.f a0 (Go.bits .xor .i64 a1 (-9223372036854775808))).bind fun t116 => (if t115 = t116 then ((fix_FloMul.f a0 4607182418800017408).bind fun t117 => ((hearthlaw1_told.f a0).bind fun t118 => (if t117 = t118 then ((fix_FloDiv.f a0 4607182418800017408).bind fun t119 => (if t119 = t118 then ((fix_FloMul.f a0 4611686018427387904).bind fun t120 => ((fix_FloAdd.f a0 a0).bind fun t121 => (hearthlaw1_FixSigns.j1 kj2 a0 a1 (t120 == t121)))) else (hearthlaw1_FixSigns.j1 kj2 a0 a1 false))) else (hearthlaw1_FixSigns.j1 kj2 a0 a1 false)))) else (hearthlaw1_FixSigns.j1 kj2 a0 a1 false)))) = some r := by rw [if_pos rfl] at H; exact H
          clear H
          have H := H1
          clear H1
          replace H := Option.bind_eq_some_iff.mp H
          obtain ⟨t115, A110, H⟩ := H
          replace H : ((fix_FloAdd.f a0 (Go.bits .xor .i64 a1 (-9223372036854775808))).bind fun t116 => (if t115 = t116 then ((fix_FloMul.f a0 4607182418800017408).bind fun t117 => ((hearthlaw1_told.f a0).bind fun t118 => (if t117 = t118 then ((fix_FloDiv.f a0 4607182418800017408).bind fun t119 => (if t119 = t118 then ((fix_FloMul.f a0 4611686018427387904).bind fun t120 => ((fix_FloAdd.f a0 a0).bind fun t121 => (hearthlaw1_FixSigns.j1 kj2 a0 a1 (t120 == t121)))) else (hearthlaw1_FixSigns.j1 kj2 a0 a1 false))) else (hearthlaw1_FixSigns.j1 kj2 a0 a1 false)))) else (hearthlaw1_FixSigns.j1 kj2 a0 a1 false))) = some r := H
          have A11 := Aside0.mk A110
          clear A110
          replace H := Option.bind_eq_some_iff.mp H
          obtain ⟨t116, A120, H⟩ := H
          replace H : (if t115 = t116 then ((fix_FloMul.f a0 4607182418800017408).bind fun t117 => ((hearthlaw1_told.f a0).bind fun t118 => (if t117 = t118 then ((fix_FloDiv.f a0 4607182418800017408).bind fun t119 => (if t119 = t118 then ((fix_FloMul.f a0 4611686018427387904).bind fun t120 => ((fix_FloAdd.f a0 a0).bind fun t121 => (hearthlaw1_FixSigns.j1 kj2 a0 a1 (t120 == t121)))) else (hearthlaw1_FixSigns.j1 kj2 a0 a1 false))) else (hearthlaw1_FixSigns.j1 kj2 a0 a1 false)))) else (hearthlaw1_FixSigns.j1 kj2 a0 a1 false)) = some r := H
          have A12 := Aside0.mk A120
          clear A120
          by_cases c13 : t115 = t116
          · rw [if_pos c13] at H
            have c13b0 : (t115 == t116) = true := beq_iff_eq.mpr c13
            have c13b1 : (t115 != t116) = false := bne_eq_false_iff_eq.mpr c13
            clear c13
            (first | rw [c13b0] | (simp only [i64_w, i32_w]; rw [c13b0]) | skip)
            replace H := Option.bind_eq_some_iff.mp H
            obtain ⟨t117, A140, H⟩ := H
            replace H : ((hearthlaw1_told.f a0).bind fun t118 => (if t117 = t118 then ((fix_FloDiv.f a0 4607182418800017408).bind fun t119 => (if t119 = t118 then ((fix_FloMul.f a0 4611686018427387904).bind fun t120 => ((fix_FloAdd.f a0 a0).bind fun t121 => (hearthlaw1_FixSigns.j1 kj2 a0 a1 (t120 == t121)))) else (hearthlaw1_FixSigns.j1 kj2 a0 a1 false))) else (hearthlaw1_FixSigns.j1 kj2 a0 a1 false))) = some r := H
            have A14 := Aside0.mk A140
            clear A140
            replace H := Option.bind_eq_some_iff.mp H
            obtain ⟨t118, A150, H⟩ := H
            replace H : (if t117 = t118 then ((fix_FloDiv.f a0 4607182418800017408).bind fun t119 => (if t119 = t118 then ((fix_FloMul.f a0 4611686018427387904).bind fun t120 => ((fix_FloAdd.f a0 a0).bind fun t121 => (hearthlaw1_FixSigns.j1 kj2 a0 a1 (t120 == t121)))) else (hearthlaw1_FixSigns.j1 kj2 a0 a1 false))) else (hearthlaw1_FixSigns.j1 kj2 a0 a1 false)) = some r := H
            have A15 := Aside0.mk A150
            clear A150
            by_cases c16 : t117 = t118
            · rw [if_pos c16] at H
              have c16b0 : (t117 == t118) = true := beq_iff_eq.mpr c16
              have c16b1 : (t117 != t118) = false := bne_eq_false_iff_eq.mpr c16
              clear c16
              replace H := Option.bind_eq_some_iff.mp H
              obtain ⟨t119, A170, H⟩ := H
              replace H : (if t119 = t118 then ((fix_FloMul.f a0 4611686018427387904).bind fun t120 => ((fix_FloAdd.f a0 a0).bind fun t121 => (hearthlaw1_FixSigns.j1 kj2 a0 a1 (t120 == t121)))) else (hearthlaw1_FixSigns.j1 kj2 a0 a1 false)) = some r := H
              have A17 := Aside0.mk A170
              clear A170
              by_cases c18 : t119 = t118
              · rw [if_pos c18] at H
                have c18b0 : (t119 == t118) = true := beq_iff_eq.mpr c18
                have c18b1 : (t119 != t118) = false := bne_eq_false_iff_eq.mpr c18
                clear c18
                replace H := Option.bind_eq_some_iff.mp H
                obtain ⟨t120, A190, H⟩ := H
                replace H : ((fix_FloAdd.f a0 a0).bind fun t121 => (hearthlaw1_FixSigns.j1 kj2 a0 a1 (t120 == t121))) = some r := H
                have A19 := Aside0.mk A190
                clear A190
                replace H := Option.bind_eq_some_iff.mp H
                obtain ⟨t121, A200, H⟩ := H
                replace H : (hearthlaw1_FixSigns.j1 kj2 a0 a1 (t120 == t121)) = some r := H
                have A20 := Aside0.mk A200
                clear A200
                have H' := Aside0.mk H
                clear H
                go_wp2_with (first | (go_at_call 24; (with_reducible refine (fix_FloSub.calls a0 a1 t115 _ A11.out).mono ?_); rintro e w' ⟨rfl, ⟨nd, rfl⟩⟩) | (go_at_call 22; (with_reducible refine (fix_FloAdd.calls a0 (Go.bits .xor .i64 a1 (-9223372036854775808)) t116 _ A12.out).mono ?_); rintro e w' ⟨rfl, ⟨nd, rfl⟩⟩) | (go_at_call 31; (with_reducible refine (fix_FloMul.calls a0 4607182418800017408 t117 _ A14.out).mono ?_); rintro e w' ⟨rfl, ⟨nd, rfl⟩⟩) | (go_at_call 38; (with_reducible refine (hearthlaw1_told.calls a0 t118 _ A15.out).mono ?_); rintro e w' ⟨rfl, ⟨nd, rfl⟩⟩) | (go_at_call 33; (with_reducible refine (fix_FloDiv.calls a0 4607182418800017408 t119 _ A17.out).mono ?_); rintro e w' ⟨rfl, ⟨nd, rfl⟩⟩) | (go_at_call 31; (with_reducible refine (fix_FloMul.calls a0 4611686018427387904 t120 _ A19.out).mono ?_); rintro e w' ⟨rfl, ⟨nd, rfl⟩⟩) | (go_at_call 22; (with_reducible refine (fix_FloAdd.calls a0 a0 t121 _ A20.out).mono ?_); rintro e w' ⟨rfl, ⟨nd, rfl⟩⟩))
                go_meet
                case rel => exact ⟨_, ((t120 == t121)), (by first | rfl | (simp; done) | (simp [*]; done)), H', ⟨by have := HJ2.out; first | omega | exact Nat.le_refl _⟩, by repeat (first | exact Drawn0.refl _ | apply Drawn0.step)⟩
              · rw [if_neg c18] at H
                have c18b0 : (t119 == t118) = false := beq_eq_false_iff_ne.mpr c18
                have c18b1 : (t119 != t118) = true := bne_iff_ne.mpr c18
                have H' := Aside0.mk H
                clear H
                go_wp2_with (first | (go_at_call 24; (with_reducible refine (fix_FloSub.calls a0 a1 t115 _ A11.out).mono ?_); rintro e w' ⟨rfl, ⟨nd, rfl⟩⟩) | (go_at_call 22; (with_reducible refine (fix_FloAdd.calls a0 (Go.bits .xor .i64 a1 (-9223372036854775808)) t116 _ A12.out).mono ?_); rintro e w' ⟨rfl, ⟨nd, rfl⟩⟩) | (go_at_call 31; (with_reducible refine (fix_FloMul.calls a0 4607182418800017408 t117 _ A14.out).mono ?_); rintro e w' ⟨rfl, ⟨nd, rfl⟩⟩) | (go_at_call 38; (with_reducible refine (hearthlaw1_told.calls a0 t118 _ A15.out).mono ?_); rintro e w' ⟨rfl, ⟨nd, rfl⟩⟩) | (go_at_call 33; (with_reducible refine (fix_FloDiv.calls a0 4607182418800017408 t119 _ A17.out).mono ?_); rintro e w' ⟨rfl, ⟨nd, rfl⟩⟩))
                go_meet
                case rel => exact ⟨_, (false), (by first | rfl | (simp; done) | (simp [*]; done)), H', ⟨by have := HJ2.out; first | omega | exact Nat.le_refl _⟩, by repeat (first | exact Drawn0.refl _ | apply Drawn0.step)⟩
            · rw [if_neg c16] at H
              have c16b0 : (t117 == t118) = false := beq_eq_false_iff_ne.mpr c16
              have c16b1 : (t117 != t118) = true := bne_iff_ne.mpr c16
              have H' := Aside0.mk H
              clear H
              go_wp2_with (first | (go_at_call 24; (with_reducible refine (fix_FloSub.calls a0 a1 t115 _ A11.out).mono ?_); rintro e w' ⟨rfl, ⟨nd, rfl⟩⟩) | (go_at_call 22; (with_reducible refine (fix_FloAdd.calls a0 (Go.bits .xor .i64 a1 (-9223372036854775808)) t116 _ A12.out).mono ?_); rintro e w' ⟨rfl, ⟨nd, rfl⟩⟩) | (go_at_call 31; (with_reducible refine (fix_FloMul.calls a0 4607182418800017408 t117 _ A14.out).mono ?_); rintro e w' ⟨rfl, ⟨nd, rfl⟩⟩) | (go_at_call 38; (with_reducible refine (hearthlaw1_told.calls a0 t118 _ A15.out).mono ?_); rintro e w' ⟨rfl, ⟨nd, rfl⟩⟩))
              go_meet
              case rel => exact ⟨_, (false), (by first | rfl | (simp; done) | (simp [*]; done)), H', ⟨by have := HJ2.out; first | omega | exact Nat.le_refl _⟩, by repeat (first | exact Drawn0.refl _ | apply Drawn0.step)⟩
          · rw [if_neg c13] at H
            have c13b0 : (t115 == t116) = false := beq_eq_false_iff_ne.mpr c13
            have c13b1 : (t115 != t116) = true := bne_iff_ne.mpr c13
            (first | rw [c13b0] | (simp only [i64_w, i32_w]; rw [c13b0]) | skip)
            have H' := Aside0.mk H
            clear H
            go_wp2_with (first | (go_at_call 24; (with_reducible refine (fix_FloSub.calls a0 a1 t115 _ A11.out).mono ?_); rintro e w' ⟨rfl, ⟨nd, rfl⟩⟩) | (go_at_call 22; (with_reducible refine (fix_FloAdd.calls a0 (Go.bits .xor .i64 a1 (-9223372036854775808)) t116 _ A12.out).mono ?_); rintro e w' ⟨rfl, ⟨nd, rfl⟩⟩))
            go_meet
            case rel => exact ⟨_, (false), (by first | rfl | (simp; done) | (simp [*]; done)), H', ⟨by have := HJ2.out; first | omega | exact Nat.le_refl _⟩, by repeat (first | exact Drawn0.refl _ | apply Drawn0.step)⟩
        · replace c10 := Bool.eq_false_iff.mpr c10
          subst c10
          have H1 : (hearthlaw1_FixSigns.j1 kj2 a0 a1 false) = some r := by rw [if_neg (show ¬ (false = true) by decide)] at H; exact H
          clear H
          have H := H1
          clear H1
          have H' := Aside0.mk H
          clear H
          go_wp2
          go_meet
          case rel => exact ⟨_, (false), (by first | rfl | (simp; done) | (simp [*]; done)), H', ⟨by have := HJ2.out; first | omega | exact Nat.le_refl _⟩, by repeat (first | exact Drawn0.refl _ | apply Drawn0.step)⟩
      case rest =>
        clear HC9
        try clear c1
        try clear c2
        try clear p2
        try clear c6
        try clear c6b0
        try clear c6b1
        try clear c10
        try clear c11
        try clear c13
        try clear c13b0
        try clear c13b1
        try clear c16
        try clear c16b0
        try clear c16b1
        try clear c18
        try clear c18b0
        try clear c18b1
        try clear p2
        obtain ⟨kq, x5_8, rfl, HA, HJ8, ⟨mc8, rfl⟩⟩ := hcut
        cases kq with
        | zero => exact absurd HA.out (by simp [hearthlaw1_FixSigns.j1])
        | succ kj8 =>
          have H := HA.out
          clear HA
          simp only [hearthlaw1_FixSigns.j1] at H
          have HC21 := Aside0.mk H
          clear H
          go_upto_region 3 with (fail)
          go_cut [5] (fun v5 wc => ∃ (kq : Nat) (x5_20 : Bool), v5 = .bool x5_20 ∧ Aside0 (hearthlaw1_FixSigns.j2 kq a0 a1 x5_20 = some r) ∧ Aside0 (kq ≤ kj8) ∧ Drawn0 w wc)
          case first =>
            have H := HC21.out
            clear HC21
            by_cases c22 : x5_8 = true
            · subst c22
              have H1 : ((fix_FloAdd.f a0 (-9223372036854775808)).bind fun t122 => ((hearthlaw1_told.f a0).bind fun t123 => (if t122 = t123 then ((fix_FloSub.f a0 0).bind fun t124 => (hearthlaw1_FixSigns.j2 kj8 a0 a1 (t124 == t123))) else (hearthlaw1_FixSigns.j2 kj8 a0 a1 false)))) = some r := by rw [if_pos rfl] at H; exact H
              clear H
              have H := H1
              clear H1
              replace H := Option.bind_eq_some_iff.mp H
              obtain ⟨t122, A230, H⟩ := H
              replace H : ((hearthlaw1_told.f a0).bind fun t123 => (if t122 = t123 then ((fix_FloSub.f a0 0).bind fun t124 => (hearthlaw1_FixSigns.j2 kj8 a0 a1 (t124 == t123))) else (hearthlaw1_FixSigns.j2 kj8 a0 a1 false))) = some r := H
              have A23 := Aside0.mk A230
              clear A230
              replace H := Option.bind_eq_some_iff.mp H
              obtain ⟨t123, A240, H⟩ := H
              replace H : (if t122 = t123 then ((fix_FloSub.f a0 0).bind fun t124 => (hearthlaw1_FixSigns.j2 kj8 a0 a1 (t124 == t123))) else (hearthlaw1_FixSigns.j2 kj8 a0 a1 false)) = some r := H
              have A24 := Aside0.mk A240
              clear A240
              by_cases c25 : t122 = t123
              · rw [if_pos c25] at H
                have c25b0 : (t122 == t123) = true := beq_iff_eq.mpr c25
                have c25b1 : (t122 != t123) = false := bne_eq_false_iff_eq.mpr c25
                clear c25
                (first | rw [c25b0] | (simp only [i64_w, i32_w]; rw [c25b0]) | skip)
                replace H := Option.bind_eq_some_iff.mp H
                obtain ⟨t124, A260, H⟩ := H
                replace H : (hearthlaw1_FixSigns.j2 kj8 a0 a1 (t124 == t123)) = some r := H
                have A26 := Aside0.mk A260
                clear A260
                have H' := Aside0.mk H
                clear H
                go_wp2_with (first | (go_at_call 22; (with_reducible refine (fix_FloAdd.calls a0 (-9223372036854775808) t122 _ A23.out).mono ?_); rintro e w' ⟨rfl, ⟨nd, rfl⟩⟩) | (go_at_call 38; (with_reducible refine (hearthlaw1_told.calls a0 t123 _ A24.out).mono ?_); rintro e w' ⟨rfl, ⟨nd, rfl⟩⟩) | (go_at_call 24; (with_reducible refine (fix_FloSub.calls a0 0 t124 _ A26.out).mono ?_); rintro e w' ⟨rfl, ⟨nd, rfl⟩⟩))
                go_meet
                case rel => exact ⟨_, ((t124 == t123)), (by first | rfl | (simp; done) | (simp [*]; done)), H', ⟨by have := HJ2.out; have := HJ8.out; first | omega | exact Nat.le_refl _⟩, by repeat (first | exact Drawn0.refl _ | apply Drawn0.step)⟩
              · rw [if_neg c25] at H
                have c25b0 : (t122 == t123) = false := beq_eq_false_iff_ne.mpr c25
                have c25b1 : (t122 != t123) = true := bne_iff_ne.mpr c25
                (first | rw [c25b0] | (simp only [i64_w, i32_w]; rw [c25b0]) | skip)
                have H' := Aside0.mk H
                clear H
                go_wp2_with (first | (go_at_call 22; (with_reducible refine (fix_FloAdd.calls a0 (-9223372036854775808) t122 _ A23.out).mono ?_); rintro e w' ⟨rfl, ⟨nd, rfl⟩⟩) | (go_at_call 38; (with_reducible refine (hearthlaw1_told.calls a0 t123 _ A24.out).mono ?_); rintro e w' ⟨rfl, ⟨nd, rfl⟩⟩))
                go_meet
                case rel => exact ⟨_, (false), (by first | rfl | (simp; done) | (simp [*]; done)), H', ⟨by have := HJ2.out; have := HJ8.out; first | omega | exact Nat.le_refl _⟩, by repeat (first | exact Drawn0.refl _ | apply Drawn0.step)⟩
            · replace c22 := Bool.eq_false_iff.mpr c22
              subst c22
              have H1 : (hearthlaw1_FixSigns.j2 kj8 a0 a1 false) = some r := by rw [if_neg (show ¬ (false = true) by decide)] at H; exact H
              clear H
              have H := H1
              clear H1
              have H' := Aside0.mk H
              clear H
              go_wp2
              go_meet
              case rel => exact ⟨_, (false), (by first | rfl | (simp; done) | (simp [*]; done)), H', ⟨by have := HJ2.out; have := HJ8.out; first | omega | exact Nat.le_refl _⟩, by repeat (first | exact Drawn0.refl _ | apply Drawn0.step)⟩
          case rest =>
            clear HC21
            try clear c1
            try clear c2
            try clear p2
            try clear c6
            try clear c6b0
            try clear c6b1
            try clear c8
            try clear c10
            try clear c11
            try clear c13
            try clear c13b0
            try clear c13b1
            try clear c16
            try clear c16b0
            try clear c16b1
            try clear c18
            try clear c18b0
            try clear c18b1
            try clear c22
            try clear c25
            try clear c25b0
            try clear c25b1
            try clear p2
            obtain ⟨kq, x5_20, rfl, HA, HJ20, ⟨mc20, rfl⟩⟩ := hcut
            cases kq with
            | zero => exact absurd HA.out (by simp [hearthlaw1_FixSigns.j2])
            | succ kj20 =>
              have H := HA.out
              clear HA
              simp only [hearthlaw1_FixSigns.j2] at H
              replace H := Option.bind_eq_some_iff.mp H
              obtain ⟨t125, A270, H⟩ := H
              replace H : (if t125 = true then (if x5_20 = true then ((fix_FloSub.f a0 a0).bind fun t126 => (if t126 = 0 then (if (Go.bits .and .i64 a0 9223372036854775807) = 0 then (hearthlaw1_FixSigns.j3 kj20 a0 a1 true) else ((fix_FloDiv.f a0 a0).bind fun t127 => (hearthlaw1_FixSigns.j3 kj20 a0 a1 (t127 == 4607182418800017408)))) else (hearthlaw1_FixSigns.j3 kj20 a0 a1 false))) else (hearthlaw1_FixSigns.j3 kj20 a0 a1 false)) else (hearthlaw1_FixSigns.j3 kj20 a0 a1 x5_20)) = some r := H
              have A27 := Aside0.mk A270
              clear A270
              have HC28 := Aside0.mk H
              clear H
              go_upto_if 71 with (first | ((with_reducible refine gate_callee (f := 39) rfl ?_); refine goesL_ (some 71) rfl rfl Try.func39 (by kernel_rfl) rfl #[.int .i64 a0] rfl (by (try simp only [List.map_toArray, List.map_cons, List.map_nil]); first | done | rfl | (simp only [List.length_drop, List.length_take]; rfl)) ?_; (with_reducible refine (hearthlaw1_finite.calls a0 t125 _ A27.out).mono ?_); rintro e w' ⟨rfl, ⟨nd, rfl⟩⟩; refine ⟨_, rfl, ?_⟩))
              (try simp only [Act.put, List.setIfInBounds_toArray, List.set_cons_zero, List.set_cons_succ])
              go_cut [5] (fun v5 wc => ∃ (kq : Nat) (x5_27 : Bool), v5 = .bool x5_27 ∧ Aside0 (hearthlaw1_FixSigns.j3 kq a0 a1 x5_27 = some r) ∧ Aside0 (kq ≤ kj20) ∧ Drawn0 w wc)
              case first =>
                have H := HC28.out
                clear HC28
                by_cases c29 : t125 = true
                · subst c29
                  have H1 : (if x5_20 = true then ((fix_FloSub.f a0 a0).bind fun t126 => (if t126 = 0 then (if (Go.bits .and .i64 a0 9223372036854775807) = 0 then (hearthlaw1_FixSigns.j3 kj20 a0 a1 true) else ((fix_FloDiv.f a0 a0).bind fun t127 => (hearthlaw1_FixSigns.j3 kj20 a0 a1 (t127 == 4607182418800017408)))) else (hearthlaw1_FixSigns.j3 kj20 a0 a1 false))) else (hearthlaw1_FixSigns.j3 kj20 a0 a1 false)) = some r := by rw [if_pos rfl] at H; exact H
                  clear H
                  have H := H1
                  clear H1
                  by_cases c30 : x5_20 = true
                  · subst c30
                    have H1 : ((fix_FloSub.f a0 a0).bind fun t126 => (if t126 = 0 then (if (Go.bits .and .i64 a0 9223372036854775807) = 0 then (hearthlaw1_FixSigns.j3 kj20 a0 a1 true) else ((fix_FloDiv.f a0 a0).bind fun t127 => (hearthlaw1_FixSigns.j3 kj20 a0 a1 (t127 == 4607182418800017408)))) else (hearthlaw1_FixSigns.j3 kj20 a0 a1 false))) = some r := by rw [if_pos rfl] at H; exact H
                    clear H
                    have H := H1
                    clear H1
                    replace H := Option.bind_eq_some_iff.mp H
                    obtain ⟨t126, A310, H⟩ := H
                    replace H : (if t126 = 0 then (if (Go.bits .and .i64 a0 9223372036854775807) = 0 then (hearthlaw1_FixSigns.j3 kj20 a0 a1 true) else ((fix_FloDiv.f a0 a0).bind fun t127 => (hearthlaw1_FixSigns.j3 kj20 a0 a1 (t127 == 4607182418800017408)))) else (hearthlaw1_FixSigns.j3 kj20 a0 a1 false)) = some r := H
                    have A31 := Aside0.mk A310
                    clear A310
                    by_cases c32 : t126 = 0
                    · rw [if_pos c32] at H
                      have c32b0 : (t126 == 0) = true := beq_iff_eq.mpr c32
                      have c32b1 : (t126 != 0) = false := bne_eq_false_iff_eq.mpr c32
                      clear c32
                      (first | rw [c32b0] | (simp only [i64_w, i32_w]; rw [c32b0]) | skip)
                      by_cases c33 : (Go.bits .and .i64 a0 9223372036854775807) = 0
                      · rw [if_pos c33] at H
                        have c33b0 : ((Go.bits .and .i64 a0 9223372036854775807) == 0) = true := beq_iff_eq.mpr c33
                        have c33b1 : ((Go.bits .and .i64 a0 9223372036854775807) != 0) = false := bne_eq_false_iff_eq.mpr c33
                        clear c33
                        have H' := Aside0.mk H
                        clear H
                        go_wp2_with (first | (go_at_call 24; (with_reducible refine (fix_FloSub.calls a0 a0 t126 _ A31.out).mono ?_); rintro e w' ⟨rfl, ⟨nd, rfl⟩⟩))
                        go_meet
                        case rel => exact ⟨_, (true), (by first | rfl | (simp; done) | (simp [*]; done)), H', ⟨by have := HJ2.out; have := HJ8.out; have := HJ20.out; first | omega | exact Nat.le_refl _⟩, by repeat (first | exact Drawn0.refl _ | apply Drawn0.step)⟩
                      · rw [if_neg c33] at H
                        have c33b0 : ((Go.bits .and .i64 a0 9223372036854775807) == 0) = false := beq_eq_false_iff_ne.mpr c33
                        have c33b1 : ((Go.bits .and .i64 a0 9223372036854775807) != 0) = true := bne_iff_ne.mpr c33
                        replace H := Option.bind_eq_some_iff.mp H
                        obtain ⟨t127, A340, H⟩ := H
                        replace H : (hearthlaw1_FixSigns.j3 kj20 a0 a1 (t127 == 4607182418800017408)) = some r := H
                        have A34 := Aside0.mk A340
                        clear A340
                        have H' := Aside0.mk H
                        clear H
                        go_wp2_with (first | (go_at_call 24; (with_reducible refine (fix_FloSub.calls a0 a0 t126 _ A31.out).mono ?_); rintro e w' ⟨rfl, ⟨nd, rfl⟩⟩) | (go_at_call 33; (with_reducible refine (fix_FloDiv.calls a0 a0 t127 _ A34.out).mono ?_); rintro e w' ⟨rfl, ⟨nd, rfl⟩⟩))
                        go_meet
                        case rel => exact ⟨_, ((t127 == 4607182418800017408)), (by first | rfl | (simp; done) | (simp [*]; done)), H', ⟨by have := HJ2.out; have := HJ8.out; have := HJ20.out; first | omega | exact Nat.le_refl _⟩, by repeat (first | exact Drawn0.refl _ | apply Drawn0.step)⟩
                    · rw [if_neg c32] at H
                      have c32b0 : (t126 == 0) = false := beq_eq_false_iff_ne.mpr c32
                      have c32b1 : (t126 != 0) = true := bne_iff_ne.mpr c32
                      (first | rw [c32b0] | (simp only [i64_w, i32_w]; rw [c32b0]) | skip)
                      have H' := Aside0.mk H
                      clear H
                      go_wp2_with (first | (go_at_call 24; (with_reducible refine (fix_FloSub.calls a0 a0 t126 _ A31.out).mono ?_); rintro e w' ⟨rfl, ⟨nd, rfl⟩⟩))
                      go_meet
                      case rel => exact ⟨_, (false), (by first | rfl | (simp; done) | (simp [*]; done)), H', ⟨by have := HJ2.out; have := HJ8.out; have := HJ20.out; first | omega | exact Nat.le_refl _⟩, by repeat (first | exact Drawn0.refl _ | apply Drawn0.step)⟩
                  · replace c30 := Bool.eq_false_iff.mpr c30
                    subst c30
                    have H1 : (hearthlaw1_FixSigns.j3 kj20 a0 a1 false) = some r := by rw [if_neg (show ¬ (false = true) by decide)] at H; exact H
                    clear H
                    have H := H1
                    clear H1
                    have H' := Aside0.mk H
                    clear H
                    go_wp2
                    go_meet
                    case rel => exact ⟨_, (false), (by first | rfl | (simp; done) | (simp [*]; done)), H', ⟨by have := HJ2.out; have := HJ8.out; have := HJ20.out; first | omega | exact Nat.le_refl _⟩, by repeat (first | exact Drawn0.refl _ | apply Drawn0.step)⟩
                · replace c29 := Bool.eq_false_iff.mpr c29
                  subst c29
                  have H1 : (hearthlaw1_FixSigns.j3 kj20 a0 a1 x5_20) = some r := by rw [if_neg (show ¬ (false = true) by decide)] at H; exact H
                  clear H
                  have H := H1
                  clear H1
                  have H' := Aside0.mk H
                  clear H
                  go_wp2
                  go_meet
                  case rel => exact ⟨_, (x5_20), (by first | rfl | (simp; done) | (simp [*]; done)), H', ⟨by have := HJ2.out; have := HJ8.out; have := HJ20.out; first | omega | exact Nat.le_refl _⟩, by repeat (first | exact Drawn0.refl _ | apply Drawn0.step)⟩
              case rest =>
                clear HC28
                try clear c1
                try clear c2
                try clear p2
                try clear c3
                try clear c6
                try clear c6b0
                try clear c6b1
                try clear c8
                try clear c10
                try clear c11
                try clear c13
                try clear c13b0
                try clear c13b1
                try clear c16
                try clear c16b0
                try clear c16b1
                try clear c18
                try clear c18b0
                try clear c18b1
                try clear c20
                try clear c22
                try clear c25
                try clear c25b0
                try clear c25b1
                try clear c29
                try clear c30
                try clear c32
                try clear c32b0
                try clear c32b1
                try clear c33
                try clear c33b0
                try clear c33b1
                try clear p2
                obtain ⟨kq, x5_27, rfl, HA, HJ27, ⟨mc27, rfl⟩⟩ := hcut
                cases kq with
                | zero => exact absurd HA.out (by simp [hearthlaw1_FixSigns.j3])
                | succ kj27 =>
                  have H := HA.out
                  clear HA
                  simp only [hearthlaw1_FixSigns.j3] at H
                  have HC35 := Aside0.mk H
                  clear H
                  go_upto_region 6 with (fail)
                  go_cut [95] (fun v95 wc => ∃ (kq : Nat) (x95_34 : Bool), v95 = .bool x95_34 ∧ Aside0 (hearthlaw1_FixSigns.j4 kq a0 a1 x5_27 x95_34 = some r) ∧ Aside0 (kq ≤ kj27) ∧ Drawn0 w wc)
                  case first =>
                    have H := HC35.out
                    clear HC35
                    replace H := Option.bind_eq_some_iff.mp H
                    obtain ⟨t128, A360, H⟩ := H
                    replace H : (if t128 = true then ((hearthlaw1_number.f a1).bind fun t129 => (hearthlaw1_FixSigns.j4 kj27 a0 a1 x5_27 t129)) else (hearthlaw1_FixSigns.j4 kj27 a0 a1 x5_27 false)) = some r := H
                    have A36 := Aside0.mk A360
                    clear A360
                    by_cases c37 : t128 = true
                    · subst c37
                      have H1 : ((hearthlaw1_number.f a1).bind fun t129 => (hearthlaw1_FixSigns.j4 kj27 a0 a1 x5_27 t129)) = some r := by rw [if_pos rfl] at H; exact H
                      clear H
                      have H := H1
                      clear H1
                      replace H := Option.bind_eq_some_iff.mp H
                      obtain ⟨t129, A380, H⟩ := H
                      replace H : (hearthlaw1_FixSigns.j4 kj27 a0 a1 x5_27 t129) = some r := H
                      have A38 := Aside0.mk A380
                      clear A380
                      have H' := Aside0.mk H
                      clear H
                      go_wp2_with (first | ((with_reducible refine gate_callee (f := 30) rfl ?_); refine goesL_ (some 91) rfl rfl Try.func30 (by kernel_rfl) rfl #[.int .i64 a0] rfl (by (try simp only [List.map_toArray, List.map_cons, List.map_nil]); first | done | rfl | (simp only [List.length_drop, List.length_take]; rfl)) ?_; (with_reducible refine (hearthlaw1_number.calls a0 true _ A36.out).mono ?_); rintro e w' ⟨rfl, ⟨nd, rfl⟩⟩; refine ⟨_, rfl, ?_⟩) | (go_at_call 30; (with_reducible refine (hearthlaw1_number.calls a1 t129 _ A38.out).mono ?_); rintro e w' ⟨rfl, ⟨nd, rfl⟩⟩))
                      go_meet
                      case rel => exact ⟨_, (t129), (by first | rfl | (simp; done) | (simp [*]; done)), H', ⟨by have := HJ2.out; have := HJ8.out; have := HJ20.out; have := HJ27.out; first | omega | exact Nat.le_refl _⟩, by repeat (first | exact Drawn0.refl _ | apply Drawn0.step)⟩
                    · replace c37 := Bool.eq_false_iff.mpr c37
                      subst c37
                      have H1 : (hearthlaw1_FixSigns.j4 kj27 a0 a1 x5_27 false) = some r := by rw [if_neg (show ¬ (false = true) by decide)] at H; exact H
                      clear H
                      have H := H1
                      clear H1
                      have H' := Aside0.mk H
                      clear H
                      go_wp2_with (first | ((with_reducible refine gate_callee (f := 30) rfl ?_); refine goesL_ (some 91) rfl rfl Try.func30 (by kernel_rfl) rfl #[.int .i64 a0] rfl (by (try simp only [List.map_toArray, List.map_cons, List.map_nil]); first | done | rfl | (simp only [List.length_drop, List.length_take]; rfl)) ?_; (with_reducible refine (hearthlaw1_number.calls a0 false _ A36.out).mono ?_); rintro e w' ⟨rfl, ⟨nd, rfl⟩⟩; refine ⟨_, rfl, ?_⟩))
                      go_meet
                      case rel => exact ⟨_, (false), (by first | rfl | (simp; done) | (simp [*]; done)), H', ⟨by have := HJ2.out; have := HJ8.out; have := HJ20.out; have := HJ27.out; first | omega | exact Nat.le_refl _⟩, by repeat (first | exact Drawn0.refl _ | apply Drawn0.step)⟩
                  case rest =>
                    clear HC35
                    try clear c1
                    try clear c2
                    try clear p2
                    try clear c3
                    try clear c6
                    try clear c6b0
                    try clear c6b1
                    try clear c8
                    try clear c10
                    try clear c11
                    try clear c13
                    try clear c13b0
                    try clear c13b1
                    try clear c16
                    try clear c16b0
                    try clear c16b1
                    try clear c18
                    try clear c18b0
                    try clear c18b1
                    try clear c20
                    try clear c22
                    try clear c25
                    try clear c25b0
                    try clear c25b1
                    try clear c27
                    try clear c29
                    try clear c30
                    try clear c32
                    try clear c32b0
                    try clear c32b1
                    try clear c33
                    try clear c33b0
                    try clear c33b1
                    try clear c37
                    try clear p2
                    obtain ⟨kq, x95_34, rfl, HA, HJ34, ⟨mc34, rfl⟩⟩ := hcut
                    cases kq with
                    | zero => exact absurd HA.out (by simp [hearthlaw1_FixSigns.j4])
                    | succ kj34 =>
                      have H := HA.out
                      clear HA
                      simp only [hearthlaw1_FixSigns.j4] at H
                      by_cases c39 : x95_34 = true
                      · subst c39
                        have H1 : (if x5_27 = true then ((fix_FloMul.f (Go.bits .xor .i64 a0 (-9223372036854775808)) a1).bind fun t130 => ((fix_FloMul.f a0 a1).bind fun t131 => ((hearthlaw1_told.f (Go.bits .xor .i64 t131 (-9223372036854775808))).bind fun t132 => (if t130 = t132 then ((fix_FloDiv.f a0 (Go.bits .xor .i64 a1 (-9223372036854775808))).bind fun t133 => ((fix_FloDiv.f a0 a1).bind fun t134 => ((hearthlaw1_told.f (Go.bits .xor .i64 t134 (-9223372036854775808))).bind fun t135 => (if t133 = t135 then ((hearthlaw1_alive.f).bind fun t136 => (some t136)) else (some false))))) else (some false))))) else (some false)) = some r := by rw [if_pos rfl] at H; exact H
                        clear H
                        have H := H1
                        clear H1
                        by_cases c40 : x5_27 = true
                        · subst c40
                          have H1 : ((fix_FloMul.f (Go.bits .xor .i64 a0 (-9223372036854775808)) a1).bind fun t130 => ((fix_FloMul.f a0 a1).bind fun t131 => ((hearthlaw1_told.f (Go.bits .xor .i64 t131 (-9223372036854775808))).bind fun t132 => (if t130 = t132 then ((fix_FloDiv.f a0 (Go.bits .xor .i64 a1 (-9223372036854775808))).bind fun t133 => ((fix_FloDiv.f a0 a1).bind fun t134 => ((hearthlaw1_told.f (Go.bits .xor .i64 t134 (-9223372036854775808))).bind fun t135 => (if t133 = t135 then ((hearthlaw1_alive.f).bind fun t136 => (some t136)) else (some false))))) else (some false))))) = some r := by rw [if_pos rfl] at H; exact H
                          clear H
                          have H := H1
                          clear H1
                          replace H := Option.bind_eq_some_iff.mp H
                          obtain ⟨t130, A410, H⟩ := H
                          replace H : ((fix_FloMul.f a0 a1).bind fun t131 => ((hearthlaw1_told.f (Go.bits .xor .i64 t131 (-9223372036854775808))).bind fun t132 => (if t130 = t132 then ((fix_FloDiv.f a0 (Go.bits .xor .i64 a1 (-9223372036854775808))).bind fun t133 => ((fix_FloDiv.f a0 a1).bind fun t134 => ((hearthlaw1_told.f (Go.bits .xor .i64 t134 (-9223372036854775808))).bind fun t135 => (if t133 = t135 then ((hearthlaw1_alive.f).bind fun t136 => (some t136)) else (some false))))) else (some false)))) = some r := H
                          have A41 := Aside0.mk A410
                          clear A410
                          replace H := Option.bind_eq_some_iff.mp H
                          obtain ⟨t131, A420, H⟩ := H
                          replace H : ((hearthlaw1_told.f (Go.bits .xor .i64 t131 (-9223372036854775808))).bind fun t132 => (if t130 = t132 then ((fix_FloDiv.f a0 (Go.bits .xor .i64 a1 (-9223372036854775808))).bind fun t133 => ((fix_FloDiv.f a0 a1).bind fun t134 => ((hearthlaw1_told.f (Go.bits .xor .i64 t134 (-9223372036854775808))).bind fun t135 => (if t133 = t135 then ((hearthlaw1_alive.f).bind fun t136 => (some t136)) else (some false))))) else (some false))) = some r := H
                          have A42 := Aside0.mk A420
                          clear A420
                          replace H := Option.bind_eq_some_iff.mp H
                          obtain ⟨t132, A430, H⟩ := H
                          replace H : (if t130 = t132 then ((fix_FloDiv.f a0 (Go.bits .xor .i64 a1 (-9223372036854775808))).bind fun t133 => ((fix_FloDiv.f a0 a1).bind fun t134 => ((hearthlaw1_told.f (Go.bits .xor .i64 t134 (-9223372036854775808))).bind fun t135 => (if t133 = t135 then ((hearthlaw1_alive.f).bind fun t136 => (some t136)) else (some false))))) else (some false)) = some r := H
                          have A43 := Aside0.mk A430
                          clear A430
                          by_cases c44 : t130 = t132
                          · rw [if_pos c44] at H
                            have c44b0 : (t130 == t132) = true := beq_iff_eq.mpr c44
                            have c44b1 : (t130 != t132) = false := bne_eq_false_iff_eq.mpr c44
                            clear c44
                            replace H := Option.bind_eq_some_iff.mp H
                            obtain ⟨t133, A450, H⟩ := H
                            replace H : ((fix_FloDiv.f a0 a1).bind fun t134 => ((hearthlaw1_told.f (Go.bits .xor .i64 t134 (-9223372036854775808))).bind fun t135 => (if t133 = t135 then ((hearthlaw1_alive.f).bind fun t136 => (some t136)) else (some false)))) = some r := H
                            have A45 := Aside0.mk A450
                            clear A450
                            replace H := Option.bind_eq_some_iff.mp H
                            obtain ⟨t134, A460, H⟩ := H
                            replace H : ((hearthlaw1_told.f (Go.bits .xor .i64 t134 (-9223372036854775808))).bind fun t135 => (if t133 = t135 then ((hearthlaw1_alive.f).bind fun t136 => (some t136)) else (some false))) = some r := H
                            have A46 := Aside0.mk A460
                            clear A460
                            replace H := Option.bind_eq_some_iff.mp H
                            obtain ⟨t135, A470, H⟩ := H
                            replace H : (if t133 = t135 then ((hearthlaw1_alive.f).bind fun t136 => (some t136)) else (some false)) = some r := H
                            have A47 := Aside0.mk A470
                            clear A470
                            by_cases c48 : t133 = t135
                            · rw [if_pos c48] at H
                              have c48b0 : (t133 == t135) = true := beq_iff_eq.mpr c48
                              have c48b1 : (t133 != t135) = false := bne_eq_false_iff_eq.mpr c48
                              clear c48
                              replace H := Option.bind_eq_some_iff.mp H
                              obtain ⟨t136, A490, H⟩ := H
                              replace H : (some t136) = some r := H
                              have A49 := Aside0.mk A490
                              clear A490
                              obtain rfl := Option.some.inj H
                              go_wp2_with (first | (go_at_call 31; (with_reducible refine (fix_FloMul.calls (Go.bits .xor .i64 a0 (-9223372036854775808)) a1 t130 _ A41.out).mono ?_); rintro e w' ⟨rfl, ⟨nd, rfl⟩⟩) | (go_at_call 31; (with_reducible refine (fix_FloMul.calls a0 a1 t131 _ A42.out).mono ?_); rintro e w' ⟨rfl, ⟨nd, rfl⟩⟩) | (go_at_call 38; (with_reducible refine (hearthlaw1_told.calls (Go.bits .xor .i64 t131 (-9223372036854775808)) t132 _ A43.out).mono ?_); rintro e w' ⟨rfl, ⟨nd, rfl⟩⟩) | (go_at_call 33; (with_reducible refine (fix_FloDiv.calls a0 (Go.bits .xor .i64 a1 (-9223372036854775808)) t133 _ A45.out).mono ?_); rintro e w' ⟨rfl, ⟨nd, rfl⟩⟩) | (go_at_call 33; (with_reducible refine (fix_FloDiv.calls a0 a1 t134 _ A46.out).mono ?_); rintro e w' ⟨rfl, ⟨nd, rfl⟩⟩) | (go_at_call 38; (with_reducible refine (hearthlaw1_told.calls (Go.bits .xor .i64 t134 (-9223372036854775808)) t135 _ A47.out).mono ?_); rintro e w' ⟨rfl, ⟨nd, rfl⟩⟩) | (go_at_call 19; (with_reducible refine (hearthlaw1_alive.calls  t136 _ A49.out).mono ?_); rintro e w' ⟨rfl, ⟨nd, rfl⟩⟩))
                              go_ret
                              exact ⟨by first | rfl | (simp; done) | (simp [*]; done), by repeat (first | exact Drawn0.refl _ | apply Drawn0.step)⟩
                            · rw [if_neg c48] at H
                              have c48b0 : (t133 == t135) = false := beq_eq_false_iff_ne.mpr c48
                              have c48b1 : (t133 != t135) = true := bne_iff_ne.mpr c48
                              obtain rfl := Option.some.inj H
                              go_wp2_with (first | (go_at_call 31; (with_reducible refine (fix_FloMul.calls (Go.bits .xor .i64 a0 (-9223372036854775808)) a1 t130 _ A41.out).mono ?_); rintro e w' ⟨rfl, ⟨nd, rfl⟩⟩) | (go_at_call 31; (with_reducible refine (fix_FloMul.calls a0 a1 t131 _ A42.out).mono ?_); rintro e w' ⟨rfl, ⟨nd, rfl⟩⟩) | (go_at_call 38; (with_reducible refine (hearthlaw1_told.calls (Go.bits .xor .i64 t131 (-9223372036854775808)) t132 _ A43.out).mono ?_); rintro e w' ⟨rfl, ⟨nd, rfl⟩⟩) | (go_at_call 33; (with_reducible refine (fix_FloDiv.calls a0 (Go.bits .xor .i64 a1 (-9223372036854775808)) t133 _ A45.out).mono ?_); rintro e w' ⟨rfl, ⟨nd, rfl⟩⟩) | (go_at_call 33; (with_reducible refine (fix_FloDiv.calls a0 a1 t134 _ A46.out).mono ?_); rintro e w' ⟨rfl, ⟨nd, rfl⟩⟩) | (go_at_call 38; (with_reducible refine (hearthlaw1_told.calls (Go.bits .xor .i64 t134 (-9223372036854775808)) t135 _ A47.out).mono ?_); rintro e w' ⟨rfl, ⟨nd, rfl⟩⟩))
                              go_ret
                              exact ⟨by first | rfl | (simp; done) | (simp [*]; done), by repeat (first | exact Drawn0.refl _ | apply Drawn0.step)⟩
                          · rw [if_neg c44] at H
                            have c44b0 : (t130 == t132) = false := beq_eq_false_iff_ne.mpr c44
                            have c44b1 : (t130 != t132) = true := bne_iff_ne.mpr c44
                            obtain rfl := Option.some.inj H
                            go_wp2_with (first | (go_at_call 31; (with_reducible refine (fix_FloMul.calls (Go.bits .xor .i64 a0 (-9223372036854775808)) a1 t130 _ A41.out).mono ?_); rintro e w' ⟨rfl, ⟨nd, rfl⟩⟩) | (go_at_call 31; (with_reducible refine (fix_FloMul.calls a0 a1 t131 _ A42.out).mono ?_); rintro e w' ⟨rfl, ⟨nd, rfl⟩⟩) | (go_at_call 38; (with_reducible refine (hearthlaw1_told.calls (Go.bits .xor .i64 t131 (-9223372036854775808)) t132 _ A43.out).mono ?_); rintro e w' ⟨rfl, ⟨nd, rfl⟩⟩))
                            go_ret
                            exact ⟨by first | rfl | (simp; done) | (simp [*]; done), by repeat (first | exact Drawn0.refl _ | apply Drawn0.step)⟩
                        · replace c40 := Bool.eq_false_iff.mpr c40
                          subst c40
                          have H1 : (some false) = some r := by rw [if_neg (show ¬ (false = true) by decide)] at H; exact H
                          clear H
                          have H := H1
                          clear H1
                          obtain rfl := Option.some.inj H
                          go_wp2
                          go_ret
                          exact ⟨by first | rfl | (simp; done) | (simp [*]; done), by repeat (first | exact Drawn0.refl _ | apply Drawn0.step)⟩
                      · replace c39 := Bool.eq_false_iff.mpr c39
                        subst c39
                        have H1 : (if x5_27 = true then ((hearthlaw1_alive.f).bind fun t137 => (some t137)) else (some false)) = some r := by rw [if_neg (show ¬ (false = true) by decide)] at H; exact H
                        clear H
                        have H := H1
                        clear H1
                        by_cases c50 : x5_27 = true
                        · subst c50
                          have H1 : ((hearthlaw1_alive.f).bind fun t137 => (some t137)) = some r := by rw [if_pos rfl] at H; exact H
                          clear H
                          have H := H1
                          clear H1
                          replace H := Option.bind_eq_some_iff.mp H
                          obtain ⟨t137, A510, H⟩ := H
                          replace H : (some t137) = some r := H
                          have A51 := Aside0.mk A510
                          clear A510
                          obtain rfl := Option.some.inj H
                          go_wp2_with (first | (go_at_call 19; (with_reducible refine (hearthlaw1_alive.calls  t137 _ A51.out).mono ?_); rintro e w' ⟨rfl, ⟨nd, rfl⟩⟩))
                          go_ret
                          exact ⟨by first | rfl | (simp; done) | (simp [*]; done), by repeat (first | exact Drawn0.refl _ | apply Drawn0.step)⟩
                        · replace c50 := Bool.eq_false_iff.mpr c50
                          subst c50
                          have H1 : (some false) = some r := by rw [if_neg (show ¬ (false = true) by decide)] at H; exact H
                          clear H
                          have H := H1
                          clear H1
                          obtain rfl := Option.some.inj H
                          go_wp2
                          go_ret
                          exact ⟨by first | rfl | (simp; done) | (simp [*]; done), by repeat (first | exact Drawn0.refl _ | apply Drawn0.step)⟩

/-- THE ONE PURE STATEMENT of hearthlaw1_FixSigns: yours. -/
def hearthlaw1_FixSigns.Pure : Prop := ∀ (a0 : Int) (a1 : Int), (Lit.int .i64 a0).wf = true → (Lit.int .i64 a1).wf = true → ∃ k, hearthlaw1_FixSigns.f k a0 a1 = some true
theorem hearthlaw1_FixSigns.walk (P : hearthlaw1_FixSigns.Pure) (a0 : Int) (a1 : Int) (w : World) (w0 : (Lit.int .i64 a0).wf = true) (w1 : (Lit.int .i64 a1).wf = true) :
    Calls Try.prog 11 #[.int .i64 a0, .int .i64 a1] w fun e w' => e = .returned (.bool true) ∧ Below w.heap.size w w' := by
  obtain ⟨k, h⟩ := P a0 a1 w0 w1
  refine (hearthlaw1_FixSigns.calls k a0 a1 true w h).mono ?_
  rintro e w' ⟨rfl, hd⟩
  exact ⟨rfl, hd.below⟩

end Go.Proofs.Ytpjcheenihlagaa.Q2
