/- The reference's Mul (walk). No conditions beyond those in each lemma. -/
import Derived.Test.YtpjcheenihlagaaRow4
import Derived.StillTailTactics
import Derived.IntWalk
namespace Go.Proofs.Ytpjcheenihlagaa.Fl
open Go.RowKit Hf Ieee
open Go.Proofs.Ytpjcheenihlagaa.PFixAll Go.Proofs.YtpjcheenihlagaaW.PrintWords Go.Proofs.YtpjcheenihlagaaW.PrintLast Go.Proofs.YtpjcheenihlagaaW.PrintMore

/-- One column of the product: the bits of x, i places up, times the bit y. -/
def PartAt (x : List Int) (y : Int) (i j : Nat) (p : List Int) : Prop := Bits p ∧ (val p : Int) = ((2 ^ i : Nat) : Int) * (y * (val (x.take j) : Int))

theorem PartAt.step {x p : List Int} {y : Int} {i j : Nat} (hx : Bits x) (hj : j < x.length) (hy : y = 0 ∨ y = 1) (hp : p.length = i + j) (h : PartAt x y i j p) :
    PartAt x y i (j + 1) (p ++ [wrap64 (x.getD j 0 * y)]) := by
  obtain ⟨h1, h2⟩ := h
  have xa := getD_bit hx j hj
  have ta := take_val hx j hj
  unfold PartAt
  rw [ta, val_snoc, hp, Nat.pow_add]
  generalize x.getD j 0 = z at *
  have hw : wrap64 (z * y) = z * y := by
    rcases xa with rfl | rfl
    · rw [Int.zero_mul]; exact wrap_id (by unfold Fits; omega)
    · rw [Int.one_mul]; exact wrap_id (by unfold Fits; omega)
  have hzy : z * y = 0 ∨ z * y = 1 := by
    rcases xa with rfl | rfl
    · left; exact Int.zero_mul y
    · rw [Int.one_mul]; exact hy
  rw [hw]
  refine ⟨h1.append (Bits.one hzy), ?_⟩
  rw [Int.natCast_add, Int.natCast_mul, Int.natCast_mul, Int.toNat_of_nonneg (by omega), h2]
  generalize ((2 ^ i : Nat) : Int) = P
  generalize ((2 ^ j : Nat) : Int) = Q
  generalize (val (x.take j) : Int) = T
  rw [Int.mul_add, Int.mul_add, Int.mul_assoc]
  congr 2
  rw [Int.mul_left_comm y, Int.mul_comm y z]

def SumAt (x y : List Int) (i : Nat) (s : List Int) : Prop := Bits s ∧ s.length = 61 ∧ (val s : Int) = ((val x : Int) * (val (y.take i) : Int)) % 2305843009213693952

theorem SumAt.step {x y s p l : List Int} {i : Nat} {C : Int} (hx : x.length = 61) (hy : y.length = 61) (by' : Bits y) (hi : i < 61) (h : SumAt x y i s) (hp : p.length = 61) (hpart : PartAt x (y.getD i 0) i (61 - i) p)
    (hl : l.length = 61) (hplus : PlusAt s p l C) : SumAt x y (i + 1) l := by
  obtain ⟨s1, s2, s3⟩ := h
  have hd := hplus.done hl s2 hp
  have ty := take_val by' i (by omega)
  have hxs : x.take (61 - i) ++ x.drop (61 - i) = x := List.take_append_drop ..
  have hval := val_append (x.take (61 - i)) (x.drop (61 - i))
  rw [hxs, show (x.take (61 - i)).length = 61 - i by rw [List.length_take]; omega] at hval
  refine ⟨hplus.1, hl, ?_⟩
  have hP : 2 ^ i * 2 ^ (61 - i) = 2305843009213693952 := by rw [← Nat.pow_add, show i + (61 - i) = 61 by omega]
  obtain ⟨_, hpv⟩ := hpart
  have key : (val x : Int) * (val (y.take (i + 1)) : Int) = (val x : Int) * (val (y.take i) : Int) + (val p : Int) + 2305843009213693952 * ((y.getD i 0) * (val (x.drop (61 - i)) : Int)) := by
    rw [ty, hpv, Int.mul_add, Int.add_assoc]
    congr 1
    have e : (2305843009213693952 : Int) = ((2 ^ i : Nat) : Int) * ((2 ^ (61 - i) : Nat) : Int) := by rw [← Int.natCast_mul, hP]; rfl
    rw [e, hval, Int.natCast_add, Int.natCast_mul]
    generalize ((2 ^ i : Nat) : Int) = P
    generalize ((2 ^ (61 - i) : Nat) : Int) = Q
    generalize y.getD i 0 = z
    generalize (val (x.take (61 - i)) : Int) = T
    generalize (val (x.drop (61 - i)) : Int) = D
    rw [Int.add_mul]
    congr 1
    · rw [Int.mul_left_comm T, Int.mul_comm T z]
    · simp only [Int.mul_comm, Int.mul_left_comm]
  rw [key]
  clear key hpv hP hval ty
  generalize (val x : Int) * (val (y.take i) : Int) = A at *
  generalize (y.getD i 0) * (val (x.drop (61 - i)) : Int) = B at *
  omega

theorem SumAt.last {x y s : List Int} {a b : Int} (hy : y.length = 61) (h : SumAt x y 61 s) (hx : (val x : Int) = a % 2305843009213693952) (hyv : (val y : Int) = b % 2305843009213693952) : wrap61 (val s : Int) = wrap61 (a * b) := by
  obtain ⟨_, _, h3⟩ := h
  rw [List.take_of_length_le (by omega), hx, hyv, ← Int.mul_emod] at h3
  apply wrap61_mod
  rw [h3]; omega

set_option maxHeartbeats 8000000 in
set_option maxRecDepth 100000 in
theorem refmul_calls {a b : Int} (ha : Fits a) (hb : Fits b) (w : World) :
    Calls Try.prog 64 #[.int .i64 a, .int .i64 b] w fun e w' => e = .returned (.int .i64 (wrap61 (a * b))) ∧ Below w.heap.size w w' := by
  have hu55 := Try.underlying55
  have HB0 := Aside0.mk (Below.refl w.heap.size w)
  go_enter Try.func64, Try.ntmps64
  go_wp2_with fail
  refine (row_calls ha _).mono ?_
  rintro e w1 ⟨x, rfl, x1, x2, x3, hq⟩
  have HB1 := Aside0.mk (below_setRow (below_alloc (below_step HB0.out hq) (Obj.cells (cellsOf (List.replicate 61 0)) 55)) (below_step HB0.out hq).size (cellsOf x))
  clear hq HB0
  have X2 := Aside0.mk x2
  have X3 := Aside0.mk x3
  clear x2 x3
  have z1 := blk_new w1 (Obj.cells (cellsOf (List.replicate 61 0)) 55)
  have BX := setRow_heap _ _ _ (cellsOf x) _ _ z1
  go_wp2_with (refine wpList_store_row rfl 55 (.tmp 5) (.tmp 12) rfl w1.heap.size (cellsOf x) rfl rfl 55 (cellsOf (List.replicate 61 0)) z1 (size55 _ x1) (by rw [cellsOf_size, cellsOf_size, x1]; rfl) (one55 _) ?_)
  refine (row_calls hb _).mono ?_
  rintro e w2 ⟨y, rfl, y1, y2, y3, hq⟩
  have Y2 := Aside0.mk y2
  have Y3 := Aside0.mk y3
  clear y2 y3
  have BX2 := Aside0.mk (blk_below BX hq)
  have HB2 := Aside0.mk (below_step HB1.out hq)
  clear hq HB1 z1 BX
  have z1 := blk_new w2 (Obj.cells (cellsOf (List.replicate 61 0)) 55)
  have BY := setRow_heap _ _ _ (cellsOf y) _ _ z1
  go_wp2_with (refine wpList_store_row rfl 55 (.tmp 6) (.tmp 14) rfl w2.heap.size (cellsOf y) rfl rfl 55 (cellsOf (List.replicate 61 0)) z1 (size55 _ y1) (by rw [cellsOf_size, cellsOf_size, y1]; rfl) (one55 _) ?_)
  have BX3 := Aside0.mk ((setRow_other _ w2.heap.size w1.heap.size (cellsOf y) (Nat.ne_of_lt (blk_lt BX2.out))).trans (blk_alloc BX2.out (Obj.cells (cellsOf (List.replicate 61 0)) 55)))
  have lt12 := blk_lt BX2.out
  have HB3 := Aside0.mk (below_setRow (below_alloc HB2.out (Obj.cells (cellsOf (List.replicate 61 0)) 55)) HB2.out.size (cellsOf y))
  have le1 := HB2.out.size
  have bs0 := blk_new ((w2.alloc (Obj.cells (cellsOf (List.replicate 61 0)) 55)).setRow w2.heap.size (cellsOf y)) (Obj.cells (cellsOf (List.replicate 61 0)) 55)
  rw [setRow_size, World.size_alloc] at bs0
  have BY3 := Aside0.mk (blk_alloc BY (Obj.cells (cellsOf (List.replicate 61 0)) 55))
  have BX4 := Aside0.mk (blk_alloc BX3.out (Obj.cells (cellsOf (List.replicate 61 0)) 55))
  have BS4 := Aside0.mk bs0
  have HB4 := Aside0.mk (below_alloc HB3.out (Obj.cells (cellsOf (List.replicate 61 0)) 55))
  clear bs0 z1 BY BX2 BX3 HB2 HB3
  go_loopg [8] 61 (fun kq v8 wr => ∃ (i : Nat) (s : List Int), v8 = .int .i64 (i : Int) ∧ i + kq = 61 ∧ Aside0 (SumAt x y i s) ∧
    Aside0 (wr.heap[w1.heap.size]? = some (.cells (cellsOf x) 55 (0, 0))) ∧ Aside0 (wr.heap[w2.heap.size]? = some (.cells (cellsOf y) 55 (0, 0))) ∧
    Aside0 (wr.heap[w2.heap.size + 1]? = some (.cells (cellsOf s) 55 (0, 0))) ∧ Aside0 (Below w.heap.size w wr))
  case atStart =>
    refine ⟨0, List.replicate 61 0, rfl, rfl, ⟨Bits.rep 61, by simp, ?_⟩, ⟨BX4.out⟩, ⟨BY3.out⟩, ⟨BS4.out⟩, ⟨HB4.out⟩⟩
    rw [val_rep, List.take_zero]; show _ = ((val x : Int) * ((0 : Nat) : Int)) % _; rw [Int.natCast_zero, Int.mul_zero]; rfl
  case round =>
    clear BX4 BY3 BS4 HB4
    obtain ⟨i, s, rfl, hk, hS, hX, hY, hB, hW⟩ := hrel
    have ls := hS.out.2.1
    cases gk with
    | zero =>
      obtain rfl : i = 61 := by omega
      have hlast := Aside0.mk (hS.out.last y1 X3.out Y3.out)
      have hS1 := Aside0.mk hS.out.1
      clear hS
      go_wp2_with (refine wpList_load_row rfl 55 (.tmp 7) rfl (w2.heap.size + 1) rfl 55 (cellsOf s) (0, 0) (.array 61 3) hB.out Try.underlying55 rfl (size55 _ ls) ?_)
      refine (number_calls ls hS1.out _).mono ?_
      rintro e w4 ⟨rfl, hq⟩
      have HB5 := Aside0.mk (below_step hW.out hq)
      clear hq hW
      go_wp2_with fail
      go_ret
      exact ⟨by rw [← hlast.out]; rfl, HB5.out⟩
    | succ k1 =>
      have hlt : (i : Int) < 61 := by omega
      have hny : i < y.length := by omega
      have bx := blk_lt hX.out
      have by' := blk_lt hY.out
      have bs := blk_lt hB.out
      have byi := getD_bit Y2.out i hny
      obtain ⟨z, hz⟩ : ∃ z, z = y.getD i 0 := ⟨_, rfl⟩
      have hcy := Aside0.mk ((congrArg some (congrArg (Value.int .i64) hz)) : some (Value.int .i64 z) = some (Value.int .i64 (y.getD i 0)))
      rw [← hz] at byi
      go_wp2
      rename World => wo
      go_loopg [10] (61 - i) (fun kq v10 wr => ∃ (j : Nat) (p : List Int), v10 = .int .i64 (j : Int) ∧ j + kq = 61 - i ∧ p.length = i + j ∧ Aside0 (PartAt x z i j p) ∧
        Aside0 (wr.heap[wo.heap.size]? = some (.cells (cellsOf (setAt p kq)) 55 (0, 0))) ∧ Aside0 (Below wo.heap.size wo wr))
      case atStart =>
        refine ⟨0, List.replicate i 0, rfl, by omega, by simp, ⟨Bits.rep i, by rw [val_rep, List.take_zero]; show _ = _ * (z * ((0 : Nat) : Int)); rw [Int.natCast_zero, Int.mul_zero, Int.mul_zero]⟩, ⟨?_⟩, ⟨below_alloc (Below.refl _ _) _⟩⟩
        have hz0 : setAt (List.replicate i 0) (61 - i) = List.replicate 61 0 := by unfold setAt; rw [List.replicate_append_replicate]; congr 1; omega
        rw [hz0]
        exact blk_new wo _
      case round =>
        obtain ⟨j, p, rfl, hj, hp, hP, hL, hD⟩ := hrel
        cases gk with
        | zero =>
          obtain rfl : j = 61 - i := by omega
          have hp61 : p.length = 61 := by omega
          have hge : ¬ ((i : Int) + ((61 - i : Nat) : Int) < 61) := by omega
          have lps : (setAt p 0).length = 61 := by rw [setAt_length]; omega
          have hB2 := Aside0.mk (blk_below hB.out hD.out)
          have hpart := hP.out
          rw [hz] at hpart
          have hpart := Aside0.mk hpart
          have HP := Aside0.mk hp61
          have HZ := Aside0.mk hz
          have hS1 := hS.out.1
          have HS1 := Aside0.mk hS1
          clear hp hz hP hS1
          have Hge : decide ((i : Int) + ((61 - i : Nat) : Int) < 61) = false := decide_eq_false hge
          clear hge
          go_wp2_with (first
            | (refine wpList_load_row rfl 55 (.tmp 7) rfl (w2.heap.size + 1) rfl 55 (cellsOf s) (0, 0) (.array 61 3) hB2.out Try.underlying55 rfl (size55 _ ls) ?_)
            | (refine wpList_load_row rfl 55 (.tmp 9) rfl wo.heap.size rfl 55 (cellsOf (setAt p 0)) (0, 0) (.array 61 3) hL.out Try.underlying55 rfl (size55 _ lps) ?_))
          rw [setAt_done]
          refine (plus_calls ls HP.out HS1.out hpart.out.1 _).mono ?_
          rintro e w4 ⟨l, C, rfl, l1, hpl, hq⟩
          have hpl := Aside0.mk hpl
          have hB4 := Aside0.mk (blk_below hB2.out hq)
          have hD4 := Aside0.mk (below_step hD.out hq)
          clear hq hB2 hD
          go_wp2_with (refine wpList_store_row rfl 55 (.tmp 7) (.tmp 38) rfl (w2.heap.size + 1) (cellsOf l) rfl rfl 55 (cellsOf s) hB4.out (size55 _ l1) (by rw [cellsOf_size, cellsOf_size, ls, l1]) (one55 _) ?_)
          go_wp2
          go_roundg k1
          case measure => omega
          case rel =>
            refine ⟨i + 1, l, by go_num, by omega, ⟨SumAt.step x1 y1 Y2.out (by omega) hS.out HP.out hpart.out l1 hpl.out⟩, ⟨?_⟩, ⟨?_⟩, ⟨?_⟩, ⟨?_⟩⟩
            · exact (setRow_other _ (w2.heap.size + 1) w1.heap.size (cellsOf l) (by omega)).trans (blk_below hX.out hD4.out)
            · exact (setRow_other _ (w2.heap.size + 1) w2.heap.size (cellsOf l) (by omega)).trans (blk_below hY.out hD4.out)
            · exact setRow_heap _ _ _ (cellsOf l) _ _ hB4.out
            · exact below_setRow (below_step hW.out hD4.out) (by omega) _
        | succ k2 =>
          have hjl : (i : Int) + (j : Int) < 61 := by omega
          have hj61 : (j : Int) < 61 := by omega
          have hnx : j < x.length := by omega
          have hnl : i + j < (setAt p (k2 + 1)).length := by rw [setAt_length]; omega
          have hX2 := Aside0.mk (blk_below hX.out hD.out)
          have hY2 := Aside0.mk (blk_below hY.out hD.out)
          have hcx := (blk_cell hX2.out j).trans (cellsOf_get hnx)
          have hcy2 := (blk_cell hY2.out i).trans ((cellsOf_get hny).trans hcy.out.symm)
          have hcl := (blk_cell hL.out (i + j)).trans (cellsOf_get hnl)
          have hfl := blk_frozen hL.out (i + j)
          have hst := Aside0.mk (PartAt.step X2.out hnx byi hp hP.out)
          obtain ⟨xx, hxx⟩ : ∃ xx, xx = x.getD j 0 := ⟨_, rfl⟩
          obtain ⟨pp, hpp⟩ : ∃ pp, pp = (setAt p (k2 + 1)).getD (i + j) 0 := ⟨_, rfl⟩
          rw [← hxx] at hcx hst
          rw [← hpp] at hcl
          clear hxx hpp hP
          have HP := Aside0.mk hp
          have HZ := Aside0.mk hz
          clear hp hz
          have hw2 : 0 ≤ (i : Int) + (j : Int) := by omega
          have hw3 : ((i : Int) + (j : Int)).toNat = i + j := by omega
          have hw1 : IntKind.i64.wrap ((i : Int) + (j : Int)) = (i : Int) + (j : Int) := IntWalk.i64_in _ (by omega)
          have hw4 := IntKind.wrap_i64 (xx * z)
          go_wp2_with fail
          go_still_tail 11, (by kernel_rfl)
          change wpList _ _ _ _ _ wr.drew
          clear hw1 hw2 hw3 hw4
          go_wp2
          go_roundg k2
          case measure => omega
          case rel =>
            refine ⟨j + 1, p ++ [wrap64 (xx * z)], by go_num, by omega, ?_, hst, ⟨?_⟩, ⟨?_⟩⟩
            · rw [List.length_append, HP.out]; rfl
            · refine blk_drew (blk_put hL.out (i + j) _ ?_)
              have e := setAt_set (p := p) (n := k2) (wrap64 (xx * z))
              rw [HP.out] at e
              rw [← e, ← cellsOf_set]; unfold wrap64; rfl
            · exact below_drew (below_set hD.out (Nat.le_refl _))

end Go.Proofs.Ytpjcheenihlagaa.Fl
