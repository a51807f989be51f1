/- The walks of statements of chapter 1 (after the kit's print, over contracts of my own). No conditions beyond those in each lemma. -/
import Derived.Test.YtpjcheenihlagaaConA
import Derived.Test.YtpjcheenihlagaaQ1x0
namespace Go.Proofs.Ytpjcheenihlagaa.Q1
open Go.RowKit Go.Proofs.Ytpjcheenihlagaa.PFixAll Go.Proofs.YtpjcheenihlagaaW.PrintWords Go.Proofs.YtpjcheenihlagaaW.PrintLast Go.Proofs.YtpjcheenihlagaaW.PrintMore
attribute [local go_sem] max2_int min2_int max_two min_two max_three min_three max_four min_four   -- for this text's walks alone
set_option linter.unusedVariables false
set_option linter.unusedSimpArgs false

-- NOT PRINTED: function 67 (math_Float64frombits)

-- NOT PRINTED: function 48 (fix_Float)

-- NOT PRINTED: function 68 (math_Float64bits)

-- NOT PRINTED: function 49 (fix_Bits)

/-! ### hearthlaw1_FixRing: function 10 -/
mutual
def hearthlaw1_FixRing.j0 : Nat → Int → Int → Int → Bool → Option (Bool)
  | 0, _, _, _, _ => none
  | k + 1, x0, x1, x2, x7 => if x7 = true then ((fix_Add.f x0 x1).bind fun t105 => ((fix_Add.f t105 x2).bind fun t106 => ((fix_Add.f x1 x2).bind fun t107 => ((fix_Add.f x0 t107).bind fun t108 => (if t106 = t108 then ((fix_Mul.f x0 x1).bind fun t109 => ((fix_Mul.f t109 x2).bind fun t110 => ((fix_Mul.f x1 x2).bind fun t111 => ((fix_Mul.f x0 t111).bind fun t112 => (hearthlaw1_FixRing.j1 k x0 x1 x2 (t110 == t112)))))) else (hearthlaw1_FixRing.j1 k x0 x1 x2 false)))))) else (hearthlaw1_FixRing.j1 k x0 x1 x2 false)
def hearthlaw1_FixRing.j1 : Nat → Int → Int → Int → Bool → Option (Bool)
  | 0, _, _, _, _ => none
  | k + 1, x0, x1, x2, x7 => if x7 = true then ((fix_Add.f x1 x2).bind fun t113 => ((fix_Mul.f x0 t113).bind fun t114 => ((fix_Mul.f x0 x1).bind fun t115 => ((fix_Mul.f x0 x2).bind fun t116 => ((fix_Add.f t115 t116).bind fun t117 => (hearthlaw1_FixRing.j2 k x0 x1 (t114 == t117))))))) else (hearthlaw1_FixRing.j2 k x0 x1 false)
def hearthlaw1_FixRing.j2 : Nat → Int → Int → Bool → Option (Bool)
  | 0, _, _, _ => none
  | k + 1, x0, x1, x7 => if x7 = true then ((fix_Sub.f x0 x1).bind fun t118 => ((fix_Add.f t118 x1).bind fun t119 => ((fix_Wrap.f x0).bind fun t120 => (if t119 = t120 then ((fix_Mul.f x0 1).bind fun t121 => (if t121 = t120 then ((fix_Add.f x0 0).bind fun t122 => (if t122 = t120 then ((fix_Sub.f x0 x0).bind fun t123 => (hearthlaw1_FixRing.j3 k x0 x1 (t123 == 0))) else (hearthlaw1_FixRing.j3 k x0 x1 false))) else (hearthlaw1_FixRing.j3 k x0 x1 false))) else (hearthlaw1_FixRing.j3 k x0 x1 false))))) else (hearthlaw1_FixRing.j3 k x0 x1 false)
def hearthlaw1_FixRing.j3 : Nat → Int → Int → Bool → Option (Bool)
  | 0, _, _, _ => none
  | k + 1, x0, x1, x7 => if x7 = true then ((fix_Add.f x0 x1).bind fun t124 => ((fix_Fits.f t124).bind fun t125 => (if t125 = true then ((fix_Sub.f x0 x1).bind fun t126 => ((fix_Fits.f t126).bind fun t127 => (if t127 = true then ((fix_Mul.f x0 x1).bind fun t128 => ((fix_Fits.f t128).bind fun t129 => (if t129 = true then ((hearthlaw1_alive.f).bind fun t130 => (some t130)) else (some false)))) else (some false)))) else (some false)))) else (some false)
end
def hearthlaw1_FixRing.f (k : Nat) (a0 : Int) (a1 : Int) (a2 : Int) : Option (Bool) := (fix_Add.f a0 a1).bind fun t101 => ((fix_Add.f a1 a0).bind fun t102 => (if t101 = t102 then ((fix_Mul.f a0 a1).bind fun t103 => ((fix_Mul.f a1 a0).bind fun t104 => (hearthlaw1_FixRing.j0 k a0 a1 a2 (t103 == t104)))) else (hearthlaw1_FixRing.j0 k a0 a1 a2 false)))
theorem hearthlaw1_FixRing.mono_l : ∀ k, (∀ y0 y1 y2 y3, LeO (hearthlaw1_FixRing.j0 k y0 y1 y2 y3) (hearthlaw1_FixRing.j0 (k + 1) y0 y1 y2 y3)) ∧ (∀ y0 y1 y2 y3, LeO (hearthlaw1_FixRing.j1 k y0 y1 y2 y3) (hearthlaw1_FixRing.j1 (k + 1) y0 y1 y2 y3)) ∧ (∀ y0 y1 y2, LeO (hearthlaw1_FixRing.j2 k y0 y1 y2) (hearthlaw1_FixRing.j2 (k + 1) y0 y1 y2)) ∧ (∀ y0 y1 y2, LeO (hearthlaw1_FixRing.j3 k y0 y1 y2) (hearthlaw1_FixRing.j3 (k + 1) y0 y1 y2))
  | 0 => ⟨fun _ _ _ _ r h => by simp [hearthlaw1_FixRing.j0] at h, fun _ _ _ _ r h => by simp [hearthlaw1_FixRing.j1] at h, fun _ _ _ r h => by simp [hearthlaw1_FixRing.j2] at h, fun _ _ _ r h => by simp [hearthlaw1_FixRing.j3] at h⟩
  | k + 1 => by
    obtain ⟨ih0, ih1, ih2, ih3⟩ := hearthlaw1_FixRing.mono_l k
    refine ⟨?_, ?_, ?_, ?_⟩
    · intro y0 y1 y2 y3
      unfold hearthlaw1_FixRing.j0
      repeat' first
      | (with_reducible exact ih0 _ _ _ _)
      | (with_reducible exact ih1 _ _ _ _)
      | (with_reducible exact ih2 _ _ _)
      | (with_reducible exact ih3 _ _ _)
      | (with_reducible exact LeO.refl _)
      | (with_reducible exact LeO.none _)
      | (with_reducible refine LeO.ite ?_ ?_)
      | (with_reducible refine LeO.bind ?_ (fun _ => ?_))
      | exact ih0 _ _ _ _
      | exact ih1 _ _ _ _
      | exact ih2 _ _ _
      | exact ih3 _ _ _
      | exact LeO.none _
      | refine LeO.ite ?_ ?_
      | refine LeO.bind ?_ (fun _ => ?_)
    · intro y0 y1 y2 y3
      unfold hearthlaw1_FixRing.j1
      repeat' first
      | (with_reducible exact ih0 _ _ _ _)
      | (with_reducible exact ih1 _ _ _ _)
      | (with_reducible exact ih2 _ _ _)
      | (with_reducible exact ih3 _ _ _)
      | (with_reducible exact LeO.refl _)
      | (with_reducible exact LeO.none _)
      | (with_reducible refine LeO.ite ?_ ?_)
      | (with_reducible refine LeO.bind ?_ (fun _ => ?_))
      | exact ih0 _ _ _ _
      | exact ih1 _ _ _ _
      | exact ih2 _ _ _
      | exact ih3 _ _ _
      | exact LeO.none _
      | refine LeO.ite ?_ ?_
      | refine LeO.bind ?_ (fun _ => ?_)
    · intro y0 y1 y2
      unfold hearthlaw1_FixRing.j2
      repeat' first
      | (with_reducible exact ih0 _ _ _ _)
      | (with_reducible exact ih1 _ _ _ _)
      | (with_reducible exact ih2 _ _ _)
      | (with_reducible exact ih3 _ _ _)
      | (with_reducible exact LeO.refl _)
      | (with_reducible exact LeO.none _)
      | (with_reducible refine LeO.ite ?_ ?_)
      | (with_reducible refine LeO.bind ?_ (fun _ => ?_))
      | exact ih0 _ _ _ _
      | exact ih1 _ _ _ _
      | exact ih2 _ _ _
      | exact ih3 _ _ _
      | exact LeO.none _
      | refine LeO.ite ?_ ?_
      | refine LeO.bind ?_ (fun _ => ?_)
    · intro y0 y1 y2
      unfold hearthlaw1_FixRing.j3
      repeat' first
      | (with_reducible exact ih0 _ _ _ _)
      | (with_reducible exact ih1 _ _ _ _)
      | (with_reducible exact ih2 _ _ _)
      | (with_reducible exact ih3 _ _ _)
      | (with_reducible exact LeO.refl _)
      | (with_reducible exact LeO.none _)
      | (with_reducible refine LeO.ite ?_ ?_)
      | (with_reducible refine LeO.bind ?_ (fun _ => ?_))
      | exact ih0 _ _ _ _
      | exact ih1 _ _ _ _
      | exact ih2 _ _ _
      | exact ih3 _ _ _
      | exact LeO.none _
      | refine LeO.ite ?_ ?_
      | refine LeO.bind ?_ (fun _ => ?_)
theorem hearthlaw1_FixRing.mono : ∀ a0 a1 a2 k, LeO (hearthlaw1_FixRing.f k a0 a1 a2) (hearthlaw1_FixRing.f (k + 1) a0 a1 a2) := by
  intro a0 a1 a2 k
  obtain ⟨ih0, ih1, ih2, ih3⟩ := hearthlaw1_FixRing.mono_l k
  unfold hearthlaw1_FixRing.f
  repeat' first
      | (with_reducible exact ih0 _ _ _ _)
      | (with_reducible exact ih1 _ _ _ _)
      | (with_reducible exact ih2 _ _ _)
      | (with_reducible exact ih3 _ _ _)
      | (with_reducible exact LeO.refl _)
      | (with_reducible exact LeO.none _)
      | (with_reducible refine LeO.ite ?_ ?_)
      | (with_reducible refine LeO.bind ?_ (fun _ => ?_))
      | exact ih0 _ _ _ _
      | exact ih1 _ _ _ _
      | exact ih2 _ _ _
      | exact ih3 _ _ _
      | exact LeO.none _
      | refine LeO.ite ?_ ?_
      | refine LeO.bind ?_ (fun _ => ?_)
set_option maxHeartbeats 8000000 in
set_option maxRecDepth 100000 in
theorem hearthlaw1_FixRing.calls (k : Nat) (a0 : Int) (a1 : Int) (a2 : Int) (r : Bool) (w : World) (h : hearthlaw1_FixRing.f k a0 a1 a2 = some r) :
    Calls Try.prog 10 #[.int .i64 a0, .int .i64 a1, .int .i64 a2] w fun e w' => e = .returned (.bool r) ∧ Drawn0 w w' := by
  have H : ((fix_Add.f a0 a1).bind fun t101 => ((fix_Add.f a1 a0).bind fun t102 => (if t101 = t102 then ((fix_Mul.f a0 a1).bind fun t103 => ((fix_Mul.f a1 a0).bind fun t104 => (hearthlaw1_FixRing.j0 k a0 a1 a2 (t103 == t104)))) else (hearthlaw1_FixRing.j0 k a0 a1 a2 false)))) = some r := h
  clear h
  have HC4 := Aside0.mk H
  clear H
  go_enter Try.func10, Try.ntmps10
  go_upto_region 1 with (fail)
  go_cut [7] (fun v7 wc => ∃ (kq : Nat) (x7_3 : Bool), v7 = .bool x7_3 ∧ Aside0 (hearthlaw1_FixRing.j0 kq a0 a1 a2 x7_3 = some r) ∧ Aside0 (kq ≤ k) ∧ Drawn0 w wc)
  case first =>
    have H := HC4.out
    clear HC4
    replace H := Option.bind_eq_some_iff.mp H
    obtain ⟨t101, A50, H⟩ := H
    replace H : ((fix_Add.f a1 a0).bind fun t102 => (if t101 = t102 then ((fix_Mul.f a0 a1).bind fun t103 => ((fix_Mul.f a1 a0).bind fun t104 => (hearthlaw1_FixRing.j0 k a0 a1 a2 (t103 == t104)))) else (hearthlaw1_FixRing.j0 k a0 a1 a2 false))) = some r := H
    have A5 := Aside0.mk A50
    clear A50
    replace H := Option.bind_eq_some_iff.mp H
    obtain ⟨t102, A60, H⟩ := H
    replace H : (if t101 = t102 then ((fix_Mul.f a0 a1).bind fun t103 => ((fix_Mul.f a1 a0).bind fun t104 => (hearthlaw1_FixRing.j0 k a0 a1 a2 (t103 == t104)))) else (hearthlaw1_FixRing.j0 k a0 a1 a2 false)) = some r := H
    have A6 := Aside0.mk A60
    clear A60
    by_cases c7 : t101 = t102
    · rw [if_pos c7] at H
      have c7b0 : (t101 == t102) = true := beq_iff_eq.mpr c7
      have c7b1 : (t101 != t102) = false := bne_eq_false_iff_eq.mpr c7
      clear c7
      (first | rw [c7b0] | (simp only [i64_w, i32_w]; rw [c7b0]) | skip)
      replace H := Option.bind_eq_some_iff.mp H
      obtain ⟨t103, A80, H⟩ := H
      replace H : ((fix_Mul.f a1 a0).bind fun t104 => (hearthlaw1_FixRing.j0 k a0 a1 a2 (t103 == t104))) = some r := H
      have A8 := Aside0.mk A80
      clear A80
      replace H := Option.bind_eq_some_iff.mp H
      obtain ⟨t104, A90, H⟩ := H
      replace H : (hearthlaw1_FixRing.j0 k a0 a1 a2 (t103 == t104)) = some r := H
      have A9 := Aside0.mk A90
      clear A90
      have H' := Aside0.mk H
      clear H
      go_wp2_with (first | ((with_reducible refine gate_callee (f := 35) rfl ?_); refine goesL_ (some 10) rfl rfl Try.func35 (by kernel_rfl) rfl #[.int .i64 a0, .int .i64 a1] rfl (by (try simp only [List.map_toArray, List.map_cons, List.map_nil]); first | done | rfl | (simp only [List.length_drop, List.length_take]; rfl)) ?_; (with_reducible refine (fix_Add.calls a0 a1 t101 _ A5.out).mono ?_); rintro e w' ⟨rfl, ⟨nd, rfl⟩⟩; refine ⟨_, rfl, ?_⟩) | ((with_reducible refine gate_callee (f := 35) rfl ?_); refine goesL_ (some 13) rfl rfl Try.func35 (by kernel_rfl) rfl #[.int .i64 a1, .int .i64 a0] rfl (by (try simp only [List.map_toArray, List.map_cons, List.map_nil]); first | done | rfl | (simp only [List.length_drop, List.length_take]; rfl)) ?_; (with_reducible refine (fix_Add.calls a1 a0 t102 _ A6.out).mono ?_); rintro e w' ⟨rfl, ⟨nd, rfl⟩⟩; refine ⟨_, rfl, ?_⟩) | (go_at_call 36; (with_reducible refine (fix_Mul.calls a0 a1 t103 _ A8.out).mono ?_); rintro e w' ⟨rfl, ⟨nd, rfl⟩⟩) | (go_at_call 36; (with_reducible refine (fix_Mul.calls a1 a0 t104 _ A9.out).mono ?_); rintro e w' ⟨rfl, ⟨nd, rfl⟩⟩))
      go_meet
      case rel => exact ⟨_, ((t103 == t104)), (by first | rfl | (simp; done) | (simp [*]; done)), H', ⟨by first | omega | exact Nat.le_refl _⟩, by repeat (first | exact Drawn0.refl _ | apply Drawn0.step)⟩
    · rw [if_neg c7] at H
      have c7b0 : (t101 == t102) = false := beq_eq_false_iff_ne.mpr c7
      have c7b1 : (t101 != t102) = true := bne_iff_ne.mpr c7
      (first | rw [c7b0] | (simp only [i64_w, i32_w]; rw [c7b0]) | skip)
      have H' := Aside0.mk H
      clear H
      go_wp2_with (first | ((with_reducible refine gate_callee (f := 35) rfl ?_); refine goesL_ (some 10) rfl rfl Try.func35 (by kernel_rfl) rfl #[.int .i64 a0, .int .i64 a1] rfl (by (try simp only [List.map_toArray, List.map_cons, List.map_nil]); first | done | rfl | (simp only [List.length_drop, List.length_take]; rfl)) ?_; (with_reducible refine (fix_Add.calls a0 a1 t101 _ A5.out).mono ?_); rintro e w' ⟨rfl, ⟨nd, rfl⟩⟩; refine ⟨_, rfl, ?_⟩) | ((with_reducible refine gate_callee (f := 35) rfl ?_); refine goesL_ (some 13) rfl rfl Try.func35 (by kernel_rfl) rfl #[.int .i64 a1, .int .i64 a0] rfl (by (try simp only [List.map_toArray, List.map_cons, List.map_nil]); first | done | rfl | (simp only [List.length_drop, List.length_take]; rfl)) ?_; (with_reducible refine (fix_Add.calls a1 a0 t102 _ A6.out).mono ?_); rintro e w' ⟨rfl, ⟨nd, rfl⟩⟩; refine ⟨_, rfl, ?_⟩))
      go_meet
      case rel => exact ⟨_, (false), (by first | rfl | (simp; done) | (simp [*]; done)), H', ⟨by first | omega | exact Nat.le_refl _⟩, by repeat (first | exact Drawn0.refl _ | apply Drawn0.step)⟩
  case rest =>
    clear HC4
    try clear c1
    try clear p2
    try clear c3
    try clear c7
    try clear c7b0
    try clear c7b1
    obtain ⟨kq, x7_3, rfl, HA, HJ3, ⟨mc3, rfl⟩⟩ := hcut
    cases kq with
    | zero => exact absurd HA.out (by simp [hearthlaw1_FixRing.j0])
    | succ kj3 =>
      have H := HA.out
      clear HA
      simp only [hearthlaw1_FixRing.j0] at H
      have HC10 := Aside0.mk H
      clear H
      go_upto_region 2 with (fail)
      go_cut [7] (fun v7 wc => ∃ (kq : Nat) (x7_9 : Bool), v7 = .bool x7_9 ∧ Aside0 (hearthlaw1_FixRing.j1 kq a0 a1 a2 x7_9 = some r) ∧ Aside0 (kq ≤ kj3) ∧ Drawn0 w wc)
      case first =>
        have H := HC10.out
        clear HC10
        by_cases c11 : x7_3 = true
        · subst c11
          have H1 : ((fix_Add.f a0 a1).bind fun t105 => ((fix_Add.f t105 a2).bind fun t106 => ((fix_Add.f a1 a2).bind fun t107 => ((fix_Add.f a0 t107).bind fun t108 => (if t106 = t108 then ((fix_Mul.f a0 a1).bind fun t109 => ((fix_Mul.f t109 a2).bind fun t110 => ((fix_Mul.f a1 a2).bind fun t111 => ((fix_Mul.f a0 t111).bind fun t112 => (hearthlaw1_FixRing.j1 kj3 a0 a1 a2 (t110 == t112)))))) else (hearthlaw1_FixRing.j1 kj3 a0 a1 a2 false)))))) = some r := by rw [if_pos rfl] at H; exact H
          clear H
          have H := H1
          clear H1
          replace H := Option.bind_eq_some_iff.mp H
          obtain ⟨t105, A120, H⟩ := H
          replace H : ((fix_Add.f t105 a2).bind fun t106 => ((fix_Add.f a1 a2).bind fun t107 => ((fix_Add.f a0 t107).bind fun t108 => (if t106 = t108 then ((fix_Mul.f a0 a1).bind fun t109 => ((fix_Mul.f t109 a2).bind fun t110 => ((fix_Mul.f a1 a2).bind fun t111 => ((fix_Mul.f a0 t111).bind fun t112 => (hearthlaw1_FixRing.j1 kj3 a0 a1 a2 (t110 == t112)))))) else (hearthlaw1_FixRing.j1 kj3 a0 a1 a2 false))))) = some r := H
          have A12 := Aside0.mk A120
          clear A120
          replace H := Option.bind_eq_some_iff.mp H
          obtain ⟨t106, A130, H⟩ := H
          replace H : ((fix_Add.f a1 a2).bind fun t107 => ((fix_Add.f a0 t107).bind fun t108 => (if t106 = t108 then ((fix_Mul.f a0 a1).bind fun t109 => ((fix_Mul.f t109 a2).bind fun t110 => ((fix_Mul.f a1 a2).bind fun t111 => ((fix_Mul.f a0 t111).bind fun t112 => (hearthlaw1_FixRing.j1 kj3 a0 a1 a2 (t110 == t112)))))) else (hearthlaw1_FixRing.j1 kj3 a0 a1 a2 false)))) = some r := H
          have A13 := Aside0.mk A130
          clear A130
          replace H := Option.bind_eq_some_iff.mp H
          obtain ⟨t107, A140, H⟩ := H
          replace H : ((fix_Add.f a0 t107).bind fun t108 => (if t106 = t108 then ((fix_Mul.f a0 a1).bind fun t109 => ((fix_Mul.f t109 a2).bind fun t110 => ((fix_Mul.f a1 a2).bind fun t111 => ((fix_Mul.f a0 t111).bind fun t112 => (hearthlaw1_FixRing.j1 kj3 a0 a1 a2 (t110 == t112)))))) else (hearthlaw1_FixRing.j1 kj3 a0 a1 a2 false))) = some r := H
          have A14 := Aside0.mk A140
          clear A140
          replace H := Option.bind_eq_some_iff.mp H
          obtain ⟨t108, A150, H⟩ := H
          replace H : (if t106 = t108 then ((fix_Mul.f a0 a1).bind fun t109 => ((fix_Mul.f t109 a2).bind fun t110 => ((fix_Mul.f a1 a2).bind fun t111 => ((fix_Mul.f a0 t111).bind fun t112 => (hearthlaw1_FixRing.j1 kj3 a0 a1 a2 (t110 == t112)))))) else (hearthlaw1_FixRing.j1 kj3 a0 a1 a2 false)) = some r := H
          have A15 := Aside0.mk A150
          clear A150
          by_cases c16 : t106 = t108
          · rw [if_pos c16] at H
            have c16b0 : (t106 == t108) = true := beq_iff_eq.mpr c16
            have c16b1 : (t106 != t108) = false := bne_eq_false_iff_eq.mpr c16
            clear c16
            (first | rw [c16b0] | (simp only [i64_w, i32_w]; rw [c16b0]) | skip)
            replace H := Option.bind_eq_some_iff.mp H
            obtain ⟨t109, A170, H⟩ := H
            replace H : ((fix_Mul.f t109 a2).bind fun t110 => ((fix_Mul.f a1 a2).bind fun t111 => ((fix_Mul.f a0 t111).bind fun t112 => (hearthlaw1_FixRing.j1 kj3 a0 a1 a2 (t110 == t112))))) = some r := H
            have A17 := Aside0.mk A170
            clear A170
            replace H := Option.bind_eq_some_iff.mp H
            obtain ⟨t110, A180, H⟩ := H
            replace H : ((fix_Mul.f a1 a2).bind fun t111 => ((fix_Mul.f a0 t111).bind fun t112 => (hearthlaw1_FixRing.j1 kj3 a0 a1 a2 (t110 == t112)))) = some r := H
            have A18 := Aside0.mk A180
            clear A180
            replace H := Option.bind_eq_some_iff.mp H
            obtain ⟨t111, A190, H⟩ := H
            replace H : ((fix_Mul.f a0 t111).bind fun t112 => (hearthlaw1_FixRing.j1 kj3 a0 a1 a2 (t110 == t112))) = some r := H
            have A19 := Aside0.mk A190
            clear A190
            replace H := Option.bind_eq_some_iff.mp H
            obtain ⟨t112, A200, H⟩ := H
            replace H : (hearthlaw1_FixRing.j1 kj3 a0 a1 a2 (t110 == t112)) = some r := H
            have A20 := Aside0.mk A200
            clear A200
            have H' := Aside0.mk H
            clear H
            go_wp2_with (first | (go_at_call 35; (with_reducible refine (fix_Add.calls a0 a1 t105 _ A12.out).mono ?_); rintro e w' ⟨rfl, ⟨nd, rfl⟩⟩) | (go_at_call 35; (with_reducible refine (fix_Add.calls t105 a2 t106 _ A13.out).mono ?_); rintro e w' ⟨rfl, ⟨nd, rfl⟩⟩) | (go_at_call 35; (with_reducible refine (fix_Add.calls a1 a2 t107 _ A14.out).mono ?_); rintro e w' ⟨rfl, ⟨nd, rfl⟩⟩) | (go_at_call 35; (with_reducible refine (fix_Add.calls a0 t107 t108 _ A15.out).mono ?_); rintro e w' ⟨rfl, ⟨nd, rfl⟩⟩) | (go_at_call 36; (with_reducible refine (fix_Mul.calls a0 a1 t109 _ A17.out).mono ?_); rintro e w' ⟨rfl, ⟨nd, rfl⟩⟩) | (go_at_call 36; (with_reducible refine (fix_Mul.calls t109 a2 t110 _ A18.out).mono ?_); rintro e w' ⟨rfl, ⟨nd, rfl⟩⟩) | (go_at_call 36; (with_reducible refine (fix_Mul.calls a1 a2 t111 _ A19.out).mono ?_); rintro e w' ⟨rfl, ⟨nd, rfl⟩⟩) | (go_at_call 36; (with_reducible refine (fix_Mul.calls a0 t111 t112 _ A20.out).mono ?_); rintro e w' ⟨rfl, ⟨nd, rfl⟩⟩))
            go_meet
            case rel => exact ⟨_, ((t110 == t112)), (by first | rfl | (simp; done) | (simp [*]; done)), H', ⟨by have := HJ3.out; first | omega | exact Nat.le_refl _⟩, by repeat (first | exact Drawn0.refl _ | apply Drawn0.step)⟩
          · rw [if_neg c16] at H
            have c16b0 : (t106 == t108) = false := beq_eq_false_iff_ne.mpr c16
            have c16b1 : (t106 != t108) = true := bne_iff_ne.mpr c16
            (first | rw [c16b0] | (simp only [i64_w, i32_w]; rw [c16b0]) | skip)
            have H' := Aside0.mk H
            clear H
            go_wp2_with (first | (go_at_call 35; (with_reducible refine (fix_Add.calls a0 a1 t105 _ A12.out).mono ?_); rintro e w' ⟨rfl, ⟨nd, rfl⟩⟩) | (go_at_call 35; (with_reducible refine (fix_Add.calls t105 a2 t106 _ A13.out).mono ?_); rintro e w' ⟨rfl, ⟨nd, rfl⟩⟩) | (go_at_call 35; (with_reducible refine (fix_Add.calls a1 a2 t107 _ A14.out).mono ?_); rintro e w' ⟨rfl, ⟨nd, rfl⟩⟩) | (go_at_call 35; (with_reducible refine (fix_Add.calls a0 t107 t108 _ A15.out).mono ?_); rintro e w' ⟨rfl, ⟨nd, rfl⟩⟩))
            go_meet
            case rel => exact ⟨_, (false), (by first | rfl | (simp; done) | (simp [*]; done)), H', ⟨by have := HJ3.out; first | omega | exact Nat.le_refl _⟩, by repeat (first | exact Drawn0.refl _ | apply Drawn0.step)⟩
        · replace c11 := Bool.eq_false_iff.mpr c11
          subst c11
          have H1 : (hearthlaw1_FixRing.j1 kj3 a0 a1 a2 false) = some r := by rw [if_neg (show ¬ (false = true) by decide)] at H; exact H
          clear H
          have H := H1
          clear H1
          have H' := Aside0.mk H
          clear H
          go_wp2
          go_meet
          case rel => exact ⟨_, (false), (by first | rfl | (simp; done) | (simp [*]; done)), H', ⟨by have := HJ3.out; first | omega | exact Nat.le_refl _⟩, by repeat (first | exact Drawn0.refl _ | apply Drawn0.step)⟩
      case rest =>
        clear HC10
        try clear c1
        try clear p2
        try clear c3
        try clear c7
        try clear c7b0
        try clear c7b1
        try clear c10
        try clear c11
        try clear c16
        try clear c16b0
        try clear c16b1
        try clear p2
        obtain ⟨kq, x7_9, rfl, HA, HJ9, ⟨mc9, rfl⟩⟩ := hcut
        cases kq with
        | zero => exact absurd HA.out (by simp [hearthlaw1_FixRing.j1])
        | succ kj9 =>
          have H := HA.out
          clear HA
          simp only [hearthlaw1_FixRing.j1] at H
          have HC21 := Aside0.mk H
          clear H
          go_upto_region 3 with (fail)
          go_cut [7] (fun v7 wc => ∃ (kq : Nat) (x7_20 : Bool), v7 = .bool x7_20 ∧ Aside0 (hearthlaw1_FixRing.j2 kq a0 a1 x7_20 = some r) ∧ Aside0 (kq ≤ kj9) ∧ Drawn0 w wc)
          case first =>
            have H := HC21.out
            clear HC21
            by_cases c22 : x7_9 = true
            · subst c22
              have H1 : ((fix_Add.f a1 a2).bind fun t113 => ((fix_Mul.f a0 t113).bind fun t114 => ((fix_Mul.f a0 a1).bind fun t115 => ((fix_Mul.f a0 a2).bind fun t116 => ((fix_Add.f t115 t116).bind fun t117 => (hearthlaw1_FixRing.j2 kj9 a0 a1 (t114 == t117))))))) = some r := by rw [if_pos rfl] at H; exact H
              clear H
              have H := H1
              clear H1
              replace H := Option.bind_eq_some_iff.mp H
              obtain ⟨t113, A230, H⟩ := H
              replace H : ((fix_Mul.f a0 t113).bind fun t114 => ((fix_Mul.f a0 a1).bind fun t115 => ((fix_Mul.f a0 a2).bind fun t116 => ((fix_Add.f t115 t116).bind fun t117 => (hearthlaw1_FixRing.j2 kj9 a0 a1 (t114 == t117)))))) = some r := H
              have A23 := Aside0.mk A230
              clear A230
              replace H := Option.bind_eq_some_iff.mp H
              obtain ⟨t114, A240, H⟩ := H
              replace H : ((fix_Mul.f a0 a1).bind fun t115 => ((fix_Mul.f a0 a2).bind fun t116 => ((fix_Add.f t115 t116).bind fun t117 => (hearthlaw1_FixRing.j2 kj9 a0 a1 (t114 == t117))))) = some r := H
              have A24 := Aside0.mk A240
              clear A240
              replace H := Option.bind_eq_some_iff.mp H
              obtain ⟨t115, A250, H⟩ := H
              replace H : ((fix_Mul.f a0 a2).bind fun t116 => ((fix_Add.f t115 t116).bind fun t117 => (hearthlaw1_FixRing.j2 kj9 a0 a1 (t114 == t117)))) = some r := H
              have A25 := Aside0.mk A250
              clear A250
              replace H := Option.bind_eq_some_iff.mp H
              obtain ⟨t116, A260, H⟩ := H
              replace H : ((fix_Add.f t115 t116).bind fun t117 => (hearthlaw1_FixRing.j2 kj9 a0 a1 (t114 == t117))) = some r := H
              have A26 := Aside0.mk A260
              clear A260
              replace H := Option.bind_eq_some_iff.mp H
              obtain ⟨t117, A270, H⟩ := H
              replace H : (hearthlaw1_FixRing.j2 kj9 a0 a1 (t114 == t117)) = some r := H
              have A27 := Aside0.mk A270
              clear A270
              have H' := Aside0.mk H
              clear H
              go_wp2_with (first | (go_at_call 35; (with_reducible refine (fix_Add.calls a1 a2 t113 _ A23.out).mono ?_); rintro e w' ⟨rfl, ⟨nd, rfl⟩⟩) | (go_at_call 36; (with_reducible refine (fix_Mul.calls a0 t113 t114 _ A24.out).mono ?_); rintro e w' ⟨rfl, ⟨nd, rfl⟩⟩) | (go_at_call 36; (with_reducible refine (fix_Mul.calls a0 a1 t115 _ A25.out).mono ?_); rintro e w' ⟨rfl, ⟨nd, rfl⟩⟩) | (go_at_call 36; (with_reducible refine (fix_Mul.calls a0 a2 t116 _ A26.out).mono ?_); rintro e w' ⟨rfl, ⟨nd, rfl⟩⟩) | (go_at_call 35; (with_reducible refine (fix_Add.calls t115 t116 t117 _ A27.out).mono ?_); rintro e w' ⟨rfl, ⟨nd, rfl⟩⟩))
              go_meet
              case rel => exact ⟨_, ((t114 == t117)), (by first | rfl | (simp; done) | (simp [*]; done)), H', ⟨by have := HJ3.out; have := HJ9.out; first | omega | exact Nat.le_refl _⟩, by repeat (first | exact Drawn0.refl _ | apply Drawn0.step)⟩
            · replace c22 := Bool.eq_false_iff.mpr c22
              subst c22
              have H1 : (hearthlaw1_FixRing.j2 kj9 a0 a1 false) = some r := by rw [if_neg (show ¬ (false = true) by decide)] at H; exact H
              clear H
              have H := H1
              clear H1
              have H' := Aside0.mk H
              clear H
              go_wp2
              go_meet
              case rel => exact ⟨_, (false), (by first | rfl | (simp; done) | (simp [*]; done)), H', ⟨by have := HJ3.out; have := HJ9.out; first | omega | exact Nat.le_refl _⟩, by repeat (first | exact Drawn0.refl _ | apply Drawn0.step)⟩
          case rest =>
            clear HC21
            try clear c1
            try clear c2
            try clear p2
            try clear c3
            try clear c7
            try clear c7b0
            try clear c7b1
            try clear c9
            try clear c10
            try clear c11
            try clear c16
            try clear c16b0
            try clear c16b1
            try clear c22
            try clear p2
            obtain ⟨kq, x7_20, rfl, HA, HJ20, ⟨mc20, rfl⟩⟩ := hcut
            cases kq with
            | zero => exact absurd HA.out (by simp [hearthlaw1_FixRing.j2])
            | succ kj20 =>
              have H := HA.out
              clear HA
              simp only [hearthlaw1_FixRing.j2] at H
              have HC28 := Aside0.mk H
              clear H
              go_upto_region 4 with (fail)
              go_cut [7] (fun v7 wc => ∃ (kq : Nat) (x7_27 : Bool), v7 = .bool x7_27 ∧ Aside0 (hearthlaw1_FixRing.j3 kq a0 a1 x7_27 = some r) ∧ Aside0 (kq ≤ kj20) ∧ Drawn0 w wc)
              case first =>
                have H := HC28.out
                clear HC28
                by_cases c29 : x7_20 = true
                · subst c29
                  have H1 : ((fix_Sub.f a0 a1).bind fun t118 => ((fix_Add.f t118 a1).bind fun t119 => ((fix_Wrap.f a0).bind fun t120 => (if t119 = t120 then ((fix_Mul.f a0 1).bind fun t121 => (if t121 = t120 then ((fix_Add.f a0 0).bind fun t122 => (if t122 = t120 then ((fix_Sub.f a0 a0).bind fun t123 => (hearthlaw1_FixRing.j3 kj20 a0 a1 (t123 == 0))) else (hearthlaw1_FixRing.j3 kj20 a0 a1 false))) else (hearthlaw1_FixRing.j3 kj20 a0 a1 false))) else (hearthlaw1_FixRing.j3 kj20 a0 a1 false))))) = some r := by rw [if_pos rfl] at H; exact H
                  clear H
                  have H := H1
                  clear H1
                  replace H := Option.bind_eq_some_iff.mp H
                  obtain ⟨t118, A300, H⟩ := H
                  replace H : ((fix_Add.f t118 a1).bind fun t119 => ((fix_Wrap.f a0).bind fun t120 => (if t119 = t120 then ((fix_Mul.f a0 1).bind fun t121 => (if t121 = t120 then ((fix_Add.f a0 0).bind fun t122 => (if t122 = t120 then ((fix_Sub.f a0 a0).bind fun t123 => (hearthlaw1_FixRing.j3 kj20 a0 a1 (t123 == 0))) else (hearthlaw1_FixRing.j3 kj20 a0 a1 false))) else (hearthlaw1_FixRing.j3 kj20 a0 a1 false))) else (hearthlaw1_FixRing.j3 kj20 a0 a1 false)))) = some r := H
                  have A30 := Aside0.mk A300
                  clear A300
                  replace H := Option.bind_eq_some_iff.mp H
                  obtain ⟨t119, A310, H⟩ := H
                  replace H : ((fix_Wrap.f a0).bind fun t120 => (if t119 = t120 then ((fix_Mul.f a0 1).bind fun t121 => (if t121 = t120 then ((fix_Add.f a0 0).bind fun t122 => (if t122 = t120 then ((fix_Sub.f a0 a0).bind fun t123 => (hearthlaw1_FixRing.j3 kj20 a0 a1 (t123 == 0))) else (hearthlaw1_FixRing.j3 kj20 a0 a1 false))) else (hearthlaw1_FixRing.j3 kj20 a0 a1 false))) else (hearthlaw1_FixRing.j3 kj20 a0 a1 false))) = some r := H
                  have A31 := Aside0.mk A310
                  clear A310
                  replace H := Option.bind_eq_some_iff.mp H
                  obtain ⟨t120, A320, H⟩ := H
                  replace H : (if t119 = t120 then ((fix_Mul.f a0 1).bind fun t121 => (if t121 = t120 then ((fix_Add.f a0 0).bind fun t122 => (if t122 = t120 then ((fix_Sub.f a0 a0).bind fun t123 => (hearthlaw1_FixRing.j3 kj20 a0 a1 (t123 == 0))) else (hearthlaw1_FixRing.j3 kj20 a0 a1 false))) else (hearthlaw1_FixRing.j3 kj20 a0 a1 false))) else (hearthlaw1_FixRing.j3 kj20 a0 a1 false)) = some r := H
                  have A32 := Aside0.mk A320
                  clear A320
                  by_cases c33 : t119 = t120
                  · rw [if_pos c33] at H
                    have c33b0 : (t119 == t120) = true := beq_iff_eq.mpr c33
                    have c33b1 : (t119 != t120) = false := bne_eq_false_iff_eq.mpr c33
                    clear c33
                    (first | rw [c33b0] | (simp only [i64_w, i32_w]; rw [c33b0]) | skip)
                    replace H := Option.bind_eq_some_iff.mp H
                    obtain ⟨t121, A340, H⟩ := H
                    replace H : (if t121 = t120 then ((fix_Add.f a0 0).bind fun t122 => (if t122 = t120 then ((fix_Sub.f a0 a0).bind fun t123 => (hearthlaw1_FixRing.j3 kj20 a0 a1 (t123 == 0))) else (hearthlaw1_FixRing.j3 kj20 a0 a1 false))) else (hearthlaw1_FixRing.j3 kj20 a0 a1 false)) = some r := H
                    have A34 := Aside0.mk A340
                    clear A340
                    by_cases c35 : t121 = t120
                    · rw [if_pos c35] at H
                      have c35b0 : (t121 == t120) = true := beq_iff_eq.mpr c35
                      have c35b1 : (t121 != t120) = false := bne_eq_false_iff_eq.mpr c35
                      clear c35
                      replace H := Option.bind_eq_some_iff.mp H
                      obtain ⟨t122, A360, H⟩ := H
                      replace H : (if t122 = t120 then ((fix_Sub.f a0 a0).bind fun t123 => (hearthlaw1_FixRing.j3 kj20 a0 a1 (t123 == 0))) else (hearthlaw1_FixRing.j3 kj20 a0 a1 false)) = some r := H
                      have A36 := Aside0.mk A360
                      clear A360
                      by_cases c37 : t122 = t120
                      · rw [if_pos c37] at H
                        have c37b0 : (t122 == t120) = true := beq_iff_eq.mpr c37
                        have c37b1 : (t122 != t120) = false := bne_eq_false_iff_eq.mpr c37
                        clear c37
                        replace H := Option.bind_eq_some_iff.mp H
                        obtain ⟨t123, A380, H⟩ := H
                        replace H : (hearthlaw1_FixRing.j3 kj20 a0 a1 (t123 == 0)) = some r := H
                        have A38 := Aside0.mk A380
                        clear A380
                        have H' := Aside0.mk H
                        clear H
                        go_wp2_with (first | (go_at_call 37; (with_reducible refine (fix_Sub.calls a0 a1 t118 _ A30.out).mono ?_); rintro e w' ⟨rfl, ⟨nd, rfl⟩⟩) | (go_at_call 35; (with_reducible refine (fix_Add.calls t118 a1 t119 _ A31.out).mono ?_); rintro e w' ⟨rfl, ⟨nd, rfl⟩⟩) | (go_at_call 28; (with_reducible refine (fix_Wrap.calls a0 t120 _ A32.out).mono ?_); rintro e w' ⟨rfl, ⟨nd, rfl⟩⟩) | (go_at_call 36; (with_reducible refine (fix_Mul.calls a0 1 t121 _ A34.out).mono ?_); rintro e w' ⟨rfl, ⟨nd, rfl⟩⟩) | (go_at_call 35; (with_reducible refine (fix_Add.calls a0 0 t122 _ A36.out).mono ?_); rintro e w' ⟨rfl, ⟨nd, rfl⟩⟩) | (go_at_call 37; (with_reducible refine (fix_Sub.calls a0 a0 t123 _ A38.out).mono ?_); rintro e w' ⟨rfl, ⟨nd, rfl⟩⟩))
                        go_meet
                        case rel => exact ⟨_, ((t123 == 0)), (by first | rfl | (simp; done) | (simp [*]; done)), H', ⟨by have := HJ3.out; have := HJ9.out; have := HJ20.out; first | omega | exact Nat.le_refl _⟩, by repeat (first | exact Drawn0.refl _ | apply Drawn0.step)⟩
                      · rw [if_neg c37] at H
                        have c37b0 : (t122 == t120) = false := beq_eq_false_iff_ne.mpr c37
                        have c37b1 : (t122 != t120) = true := bne_iff_ne.mpr c37
                        have H' := Aside0.mk H
                        clear H
                        go_wp2_with (first | (go_at_call 37; (with_reducible refine (fix_Sub.calls a0 a1 t118 _ A30.out).mono ?_); rintro e w' ⟨rfl, ⟨nd, rfl⟩⟩) | (go_at_call 35; (with_reducible refine (fix_Add.calls t118 a1 t119 _ A31.out).mono ?_); rintro e w' ⟨rfl, ⟨nd, rfl⟩⟩) | (go_at_call 28; (with_reducible refine (fix_Wrap.calls a0 t120 _ A32.out).mono ?_); rintro e w' ⟨rfl, ⟨nd, rfl⟩⟩) | (go_at_call 36; (with_reducible refine (fix_Mul.calls a0 1 t121 _ A34.out).mono ?_); rintro e w' ⟨rfl, ⟨nd, rfl⟩⟩) | (go_at_call 35; (with_reducible refine (fix_Add.calls a0 0 t122 _ A36.out).mono ?_); rintro e w' ⟨rfl, ⟨nd, rfl⟩⟩))
                        go_meet
                        case rel => exact ⟨_, (false), (by first | rfl | (simp; done) | (simp [*]; done)), H', ⟨by have := HJ3.out; have := HJ9.out; have := HJ20.out; first | omega | exact Nat.le_refl _⟩, by repeat (first | exact Drawn0.refl _ | apply Drawn0.step)⟩
                    · rw [if_neg c35] at H
                      have c35b0 : (t121 == t120) = false := beq_eq_false_iff_ne.mpr c35
                      have c35b1 : (t121 != t120) = true := bne_iff_ne.mpr c35
                      have H' := Aside0.mk H
                      clear H
                      go_wp2_with (first | (go_at_call 37; (with_reducible refine (fix_Sub.calls a0 a1 t118 _ A30.out).mono ?_); rintro e w' ⟨rfl, ⟨nd, rfl⟩⟩) | (go_at_call 35; (with_reducible refine (fix_Add.calls t118 a1 t119 _ A31.out).mono ?_); rintro e w' ⟨rfl, ⟨nd, rfl⟩⟩) | (go_at_call 28; (with_reducible refine (fix_Wrap.calls a0 t120 _ A32.out).mono ?_); rintro e w' ⟨rfl, ⟨nd, rfl⟩⟩) | (go_at_call 36; (with_reducible refine (fix_Mul.calls a0 1 t121 _ A34.out).mono ?_); rintro e w' ⟨rfl, ⟨nd, rfl⟩⟩))
                      go_meet
                      case rel => exact ⟨_, (false), (by first | rfl | (simp; done) | (simp [*]; done)), H', ⟨by have := HJ3.out; have := HJ9.out; have := HJ20.out; first | omega | exact Nat.le_refl _⟩, by repeat (first | exact Drawn0.refl _ | apply Drawn0.step)⟩
                  · rw [if_neg c33] at H
                    have c33b0 : (t119 == t120) = false := beq_eq_false_iff_ne.mpr c33
                    have c33b1 : (t119 != t120) = true := bne_iff_ne.mpr c33
                    (first | rw [c33b0] | (simp only [i64_w, i32_w]; rw [c33b0]) | skip)
                    have H' := Aside0.mk H
                    clear H
                    go_wp2_with (first | (go_at_call 37; (with_reducible refine (fix_Sub.calls a0 a1 t118 _ A30.out).mono ?_); rintro e w' ⟨rfl, ⟨nd, rfl⟩⟩) | (go_at_call 35; (with_reducible refine (fix_Add.calls t118 a1 t119 _ A31.out).mono ?_); rintro e w' ⟨rfl, ⟨nd, rfl⟩⟩) | (go_at_call 28; (with_reducible refine (fix_Wrap.calls a0 t120 _ A32.out).mono ?_); rintro e w' ⟨rfl, ⟨nd, rfl⟩⟩))
                    go_meet
                    case rel => exact ⟨_, (false), (by first | rfl | (simp; done) | (simp [*]; done)), H', ⟨by have := HJ3.out; have := HJ9.out; have := HJ20.out; first | omega | exact Nat.le_refl _⟩, by repeat (first | exact Drawn0.refl _ | apply Drawn0.step)⟩
                · replace c29 := Bool.eq_false_iff.mpr c29
                  subst c29
                  have H1 : (hearthlaw1_FixRing.j3 kj20 a0 a1 false) = some r := by rw [if_neg (show ¬ (false = true) by decide)] at H; exact H
                  clear H
                  have H := H1
                  clear H1
                  have H' := Aside0.mk H
                  clear H
                  go_wp2
                  go_meet
                  case rel => exact ⟨_, (false), (by first | rfl | (simp; done) | (simp [*]; done)), H', ⟨by have := HJ3.out; have := HJ9.out; have := HJ20.out; first | omega | exact Nat.le_refl _⟩, by repeat (first | exact Drawn0.refl _ | apply Drawn0.step)⟩
              case rest =>
                clear HC28
                try clear c1
                try clear c2
                try clear p2
                try clear c3
                try clear c7
                try clear c7b0
                try clear c7b1
                try clear c9
                try clear c10
                try clear c11
                try clear c16
                try clear c16b0
                try clear c16b1
                try clear c20
                try clear c22
                try clear c29
                try clear c33
                try clear c33b0
                try clear c33b1
                try clear c35
                try clear c35b0
                try clear c35b1
                try clear c37
                try clear c37b0
                try clear c37b1
                try clear p2
                obtain ⟨kq, x7_27, rfl, HA, HJ27, ⟨mc27, rfl⟩⟩ := hcut
                cases kq with
                | zero => exact absurd HA.out (by simp [hearthlaw1_FixRing.j3])
                | succ kj27 =>
                  have H := HA.out
                  clear HA
                  simp only [hearthlaw1_FixRing.j3] at H
                  by_cases c39 : x7_27 = true
                  · subst c39
                    have H1 : ((fix_Add.f a0 a1).bind fun t124 => ((fix_Fits.f t124).bind fun t125 => (if t125 = true then ((fix_Sub.f a0 a1).bind fun t126 => ((fix_Fits.f t126).bind fun t127 => (if t127 = true then ((fix_Mul.f a0 a1).bind fun t128 => ((fix_Fits.f t128).bind fun t129 => (if t129 = true then ((hearthlaw1_alive.f).bind fun t130 => (some t130)) else (some false)))) else (some false)))) else (some false)))) = some r := by rw [if_pos rfl] at H; exact H
                    clear H
                    have H := H1
                    clear H1
                    replace H := Option.bind_eq_some_iff.mp H
                    obtain ⟨t124, A400, H⟩ := H
                    replace H : ((fix_Fits.f t124).bind fun t125 => (if t125 = true then ((fix_Sub.f a0 a1).bind fun t126 => ((fix_Fits.f t126).bind fun t127 => (if t127 = true then ((fix_Mul.f a0 a1).bind fun t128 => ((fix_Fits.f t128).bind fun t129 => (if t129 = true then ((hearthlaw1_alive.f).bind fun t130 => (some t130)) else (some false)))) else (some false)))) else (some false))) = some r := H
                    have A40 := Aside0.mk A400
                    clear A400
                    replace H := Option.bind_eq_some_iff.mp H
                    obtain ⟨t125, A410, H⟩ := H
                    replace H : (if t125 = true then ((fix_Sub.f a0 a1).bind fun t126 => ((fix_Fits.f t126).bind fun t127 => (if t127 = true then ((fix_Mul.f a0 a1).bind fun t128 => ((fix_Fits.f t128).bind fun t129 => (if t129 = true then ((hearthlaw1_alive.f).bind fun t130 => (some t130)) else (some false)))) else (some false)))) else (some false)) = some r := H
                    have A41 := Aside0.mk A410
                    clear A410
                    by_cases c42 : t125 = true
                    · subst c42
                      have H1 : ((fix_Sub.f a0 a1).bind fun t126 => ((fix_Fits.f t126).bind fun t127 => (if t127 = true then ((fix_Mul.f a0 a1).bind fun t128 => ((fix_Fits.f t128).bind fun t129 => (if t129 = true then ((hearthlaw1_alive.f).bind fun t130 => (some t130)) else (some false)))) else (some false)))) = some r := by rw [if_pos rfl] at H; exact H
                      clear H
                      have H := H1
                      clear H1
                      replace H := Option.bind_eq_some_iff.mp H
                      obtain ⟨t126, A430, H⟩ := H
                      replace H : ((fix_Fits.f t126).bind fun t127 => (if t127 = true then ((fix_Mul.f a0 a1).bind fun t128 => ((fix_Fits.f t128).bind fun t129 => (if t129 = true then ((hearthlaw1_alive.f).bind fun t130 => (some t130)) else (some false)))) else (some false))) = some r := H
                      have A43 := Aside0.mk A430
                      clear A430
                      replace H := Option.bind_eq_some_iff.mp H
                      obtain ⟨t127, A440, H⟩ := H
                      replace H : (if t127 = true then ((fix_Mul.f a0 a1).bind fun t128 => ((fix_Fits.f t128).bind fun t129 => (if t129 = true then ((hearthlaw1_alive.f).bind fun t130 => (some t130)) else (some false)))) else (some false)) = some r := H
                      have A44 := Aside0.mk A440
                      clear A440
                      by_cases c45 : t127 = true
                      · subst c45
                        have H1 : ((fix_Mul.f a0 a1).bind fun t128 => ((fix_Fits.f t128).bind fun t129 => (if t129 = true then ((hearthlaw1_alive.f).bind fun t130 => (some t130)) else (some false)))) = some r := by rw [if_pos rfl] at H; exact H
                        clear H
                        have H := H1
                        clear H1
                        replace H := Option.bind_eq_some_iff.mp H
                        obtain ⟨t128, A460, H⟩ := H
                        replace H : ((fix_Fits.f t128).bind fun t129 => (if t129 = true then ((hearthlaw1_alive.f).bind fun t130 => (some t130)) else (some false))) = some r := H
                        have A46 := Aside0.mk A460
                        clear A460
                        replace H := Option.bind_eq_some_iff.mp H
                        obtain ⟨t129, A470, H⟩ := H
                        replace H : (if t129 = true then ((hearthlaw1_alive.f).bind fun t130 => (some t130)) else (some false)) = some r := H
                        have A47 := Aside0.mk A470
                        clear A470
                        by_cases c48 : t129 = true
                        · subst c48
                          have H1 : ((hearthlaw1_alive.f).bind fun t130 => (some t130)) = some r := by rw [if_pos rfl] at H; exact H
                          clear H
                          have H := H1
                          clear H1
                          replace H := Option.bind_eq_some_iff.mp H
                          obtain ⟨t130, A490, H⟩ := H
                          replace H : (some t130) = some r := H
                          have A49 := Aside0.mk A490
                          clear A490
                          obtain rfl := Option.some.inj H
                          go_wp2_with (first | (go_at_call 35; (with_reducible refine (fix_Add.calls a0 a1 t124 _ A40.out).mono ?_); rintro e w' ⟨rfl, ⟨nd, rfl⟩⟩) | (go_at_call 29; (with_reducible refine (fix_Fits.calls t124 true _ A41.out).mono ?_); rintro e w' ⟨rfl, ⟨nd, rfl⟩⟩) | (go_at_call 37; (with_reducible refine (fix_Sub.calls a0 a1 t126 _ A43.out).mono ?_); rintro e w' ⟨rfl, ⟨nd, rfl⟩⟩) | (go_at_call 29; (with_reducible refine (fix_Fits.calls t126 true _ A44.out).mono ?_); rintro e w' ⟨rfl, ⟨nd, rfl⟩⟩) | (go_at_call 36; (with_reducible refine (fix_Mul.calls a0 a1 t128 _ A46.out).mono ?_); rintro e w' ⟨rfl, ⟨nd, rfl⟩⟩) | (go_at_call 29; (with_reducible refine (fix_Fits.calls t128 true _ A47.out).mono ?_); rintro e w' ⟨rfl, ⟨nd, rfl⟩⟩) | (go_at_call 19; (with_reducible refine (hearthlaw1_alive.calls  t130 _ A49.out).mono ?_); rintro e w' ⟨rfl, ⟨nd, rfl⟩⟩))
                          go_ret
                          exact ⟨by first | rfl | (simp; done) | (simp [*]; done), by repeat (first | exact Drawn0.refl _ | apply Drawn0.step)⟩
                        · replace c48 := Bool.eq_false_iff.mpr c48
                          subst c48
                          have H1 : (some false) = some r := by rw [if_neg (show ¬ (false = true) by decide)] at H; exact H
                          clear H
                          have H := H1
                          clear H1
                          obtain rfl := Option.some.inj H
                          go_wp2_with (first | (go_at_call 35; (with_reducible refine (fix_Add.calls a0 a1 t124 _ A40.out).mono ?_); rintro e w' ⟨rfl, ⟨nd, rfl⟩⟩) | (go_at_call 29; (with_reducible refine (fix_Fits.calls t124 true _ A41.out).mono ?_); rintro e w' ⟨rfl, ⟨nd, rfl⟩⟩) | (go_at_call 37; (with_reducible refine (fix_Sub.calls a0 a1 t126 _ A43.out).mono ?_); rintro e w' ⟨rfl, ⟨nd, rfl⟩⟩) | (go_at_call 29; (with_reducible refine (fix_Fits.calls t126 true _ A44.out).mono ?_); rintro e w' ⟨rfl, ⟨nd, rfl⟩⟩) | (go_at_call 36; (with_reducible refine (fix_Mul.calls a0 a1 t128 _ A46.out).mono ?_); rintro e w' ⟨rfl, ⟨nd, rfl⟩⟩) | (go_at_call 29; (with_reducible refine (fix_Fits.calls t128 false _ A47.out).mono ?_); rintro e w' ⟨rfl, ⟨nd, rfl⟩⟩))
                          go_ret
                          exact ⟨by first | rfl | (simp; done) | (simp [*]; done), by repeat (first | exact Drawn0.refl _ | apply Drawn0.step)⟩
                      · replace c45 := Bool.eq_false_iff.mpr c45
                        subst c45
                        have H1 : (some false) = some r := by rw [if_neg (show ¬ (false = true) by decide)] at H; exact H
                        clear H
                        have H := H1
                        clear H1
                        obtain rfl := Option.some.inj H
                        go_wp2_with (first | (go_at_call 35; (with_reducible refine (fix_Add.calls a0 a1 t124 _ A40.out).mono ?_); rintro e w' ⟨rfl, ⟨nd, rfl⟩⟩) | (go_at_call 29; (with_reducible refine (fix_Fits.calls t124 true _ A41.out).mono ?_); rintro e w' ⟨rfl, ⟨nd, rfl⟩⟩) | (go_at_call 37; (with_reducible refine (fix_Sub.calls a0 a1 t126 _ A43.out).mono ?_); rintro e w' ⟨rfl, ⟨nd, rfl⟩⟩) | (go_at_call 29; (with_reducible refine (fix_Fits.calls t126 false _ A44.out).mono ?_); rintro e w' ⟨rfl, ⟨nd, rfl⟩⟩))
                        go_ret
                        exact ⟨by first | rfl | (simp; done) | (simp [*]; done), by repeat (first | exact Drawn0.refl _ | apply Drawn0.step)⟩
                    · replace c42 := Bool.eq_false_iff.mpr c42
                      subst c42
                      have H1 : (some false) = some r := by rw [if_neg (show ¬ (false = true) by decide)] at H; exact H
                      clear H
                      have H := H1
                      clear H1
                      obtain rfl := Option.some.inj H
                      go_wp2_with (first | (go_at_call 35; (with_reducible refine (fix_Add.calls a0 a1 t124 _ A40.out).mono ?_); rintro e w' ⟨rfl, ⟨nd, rfl⟩⟩) | (go_at_call 29; (with_reducible refine (fix_Fits.calls t124 false _ A41.out).mono ?_); rintro e w' ⟨rfl, ⟨nd, rfl⟩⟩))
                      go_ret
                      exact ⟨by first | rfl | (simp; done) | (simp [*]; done), by repeat (first | exact Drawn0.refl _ | apply Drawn0.step)⟩
                  · replace c39 := Bool.eq_false_iff.mpr c39
                    subst c39
                    have H1 : (some false) = some r := by rw [if_neg (show ¬ (false = true) by decide)] at H; exact H
                    clear H
                    have H := H1
                    clear H1
                    obtain rfl := Option.some.inj H
                    go_wp2
                    go_ret
                    exact ⟨by first | rfl | (simp; done) | (simp [*]; done), by repeat (first | exact Drawn0.refl _ | apply Drawn0.step)⟩

/-- THE ONE PURE STATEMENT of hearthlaw1_FixRing: yours. -/
def hearthlaw1_FixRing.Pure : Prop := ∀ (a0 : Int) (a1 : Int) (a2 : Int), (Lit.int .i64 a0).wf = true → (Lit.int .i64 a1).wf = true → (Lit.int .i64 a2).wf = true → ∃ k, hearthlaw1_FixRing.f k a0 a1 a2 = some true
theorem hearthlaw1_FixRing.walk (P : hearthlaw1_FixRing.Pure) (a0 : Int) (a1 : Int) (a2 : Int) (w : World) (w0 : (Lit.int .i64 a0).wf = true) (w1 : (Lit.int .i64 a1).wf = true) (w2 : (Lit.int .i64 a2).wf = true) :
    Calls Try.prog 10 #[.int .i64 a0, .int .i64 a1, .int .i64 a2] w fun e w' => e = .returned (.bool true) ∧ Below w.heap.size w w' := by
  obtain ⟨k, h⟩ := P a0 a1 a2 w0 w1 w2
  refine (hearthlaw1_FixRing.calls k a0 a1 a2 true w h).mono ?_
  rintro e w' ⟨rfl, hd⟩
  exact ⟨rfl, hd.below⟩

end Go.Proofs.Ytpjcheenihlagaa.Q1
