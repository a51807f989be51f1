/- The reference's rows of 61 bits: turned, Add, Sub (walks). No conditions beyond those in each lemma. -/
import Derived.Test.YtpjcheenihlagaaRow3
namespace Go.Proofs.Ytpjcheenihlagaa.Fl
open Go.RowKit Hf Ieee
open Go.Proofs.Ytpjcheenihlagaa.PFixAll Go.Proofs.YtpjcheenihlagaaW.PrintWords Go.Proofs.YtpjcheenihlagaaW.PrintLast Go.Proofs.YtpjcheenihlagaaW.PrintMore

theorem PlusAt.done {a b l : List Int} {C : Int} (h : PlusAt a b l C) (hl : l.length = 61) (ha : a.length = 61) (hb : b.length = 61) :
    (val l : Int) = ((val a : Int) + val b) % 2305843009213693952 := by
  obtain ⟨h1, h2, h3⟩ := h
  have hlt := val_lt h1
  rw [hl, List.take_of_length_le (by omega), List.take_of_length_le (by omega), show (2 : Nat) ^ 61 = 2305843009213693952 by decide] at h3
  rw [hl, show (2 : Nat) ^ 61 = 2305843009213693952 by decide] at hlt
  omega

def mixAt (p a : List Int) : List Int := p ++ a.drop p.length
theorem mix_length {p a : List Int} (h : p.length ≤ a.length) : (mixAt p a).length = a.length := by unfold mixAt; simp; omega
theorem mix_get {p a : List Int} (_h : p.length < a.length) : (mixAt p a).getD p.length 0 = a.getD p.length 0 := by
  unfold mixAt
  rw [List.getD_eq_getElem?_getD, List.getElem?_append_right (Nat.le_refl _), Nat.sub_self, List.getElem?_drop, Nat.add_zero, ← List.getD_eq_getElem?_getD]
theorem mix_set {p a : List Int} (h : p.length < a.length) (x : Int) : (mixAt p a).set p.length x = mixAt (p ++ [x]) a := by
  unfold mixAt
  rw [List.set_append_right _ _ (Nat.le_refl _), Nat.sub_self, List.drop_eq_getElem_cons h, List.set_cons_zero, List.append_assoc, List.length_append]; rfl
theorem mix_done {p a : List Int} (h : p.length = a.length) : mixAt p a = p := by unfold mixAt; rw [h, List.drop_length, List.append_nil]

def TurnAt (a p : List Int) : Prop := Bits p ∧ (val p : Int) = ((2 ^ p.length : Nat) : Int) - 1 - (val (a.take p.length) : Int)

theorem TurnAt.step {a p : List Int} (ha : Bits a) (hla : p.length < a.length) (h : TurnAt a p) : TurnAt a (p ++ [wrap64 (1 - a.getD p.length 0)]) := by
  obtain ⟨h1, h3⟩ := h
  have xa := getD_bit ha _ hla
  have ta := take_val ha _ hla
  have hl : (p ++ [wrap64 (1 - a.getD p.length 0)]).length = p.length + 1 := by simp
  unfold TurnAt
  rw [hl, ta, val_snoc]
  generalize a.getD p.length 0 = x at *
  have hp : ((2 ^ (p.length + 1) : Nat) : Int) = 2 * ((2 ^ p.length : Nat) : Int) := by rw [Nat.pow_succ]; omega
  have hw : wrap64 (1 - x) = 1 - x := by clear h3 ta hp; exact wrap_id (by unfold Fits; omega)
  rw [hw, hp, Int.natCast_add, Int.natCast_mul, Int.toNat_of_nonneg (by clear h3 ta hp; omega)]
  refine ⟨h1.append (Bits.one (by clear h3 ta hp; omega)), ?_⟩
  clear ta hp hw hl
  generalize ((2 ^ p.length : Nat) : Int) = P at *
  rw [Int.mul_sub, Int.mul_one]; omega

def oneRow : List Int := 1 :: List.replicate 60 0
theorem oneRow_len : oneRow.length = 61 := by unfold oneRow; simp
theorem oneRow_bits : Bits oneRow := Bits.cons (.inr rfl) (Bits.rep 60)
theorem oneRow_val : val oneRow = 1 := by unfold oneRow; show (1 : Int).toNat + 2 * val (List.replicate 60 0) = 1; rw [val_rep]; rfl

theorem turned_end {a p l : List Int} {C : Int} (ha : a.length = 61) (hp : p.length = 61) (ht : TurnAt a p) (hl : l.length = 61) (h : PlusAt p oneRow l C) :
    (val l : Int) = (-(val a : Int)) % 2305843009213693952 := by
  have h1 := h.done hl hp oneRow_len
  have h2 := ht.2
  rw [hp, List.take_of_length_le (by omega), show (2 : Nat) ^ 61 = 2305843009213693952 by decide] at h2
  rw [oneRow_val] at h1
  omega

set_option maxHeartbeats 8000000 in
set_option maxRecDepth 100000 in
theorem turned_calls {a : List Int} (ha : a.length = 61) (ba : Bits a) (w : World) :
    Calls Try.prog 74 #[.agg (cellsOf a)] w fun e w' => ∃ l, e = .returned (.agg (cellsOf l)) ∧ l.length = 61 ∧ Bits l ∧ (val l : Int) = (-(val a : Int)) % 2305843009213693952 ∧ Below w.heap.size w w' := by
  have hu55 := Try.underlying55
  go_enter Try.func74, Try.ntmps74
  go_wp2
  go_loopg [3] 61 (fun kq v3 wr => ∃ (p : List Int), v3 = .int .i64 (p.length : Int) ∧ p.length + kq = 61 ∧ Aside0 (TurnAt a p) ∧
    Aside0 (wr.heap[w.heap.size]? = some (.cells (cellsOf (mixAt p a)) 55 (0, 0))) ∧ Aside0 (wr.heap[w.heap.size + 1]? = some (.cells (cellsOf (List.replicate 61 0)) 55 (0, 0))) ∧ Aside0 (Below w.heap.size w wr))
  case atStart =>
    refine ⟨[], rfl, rfl, ⟨Bits.nil, by simp [val]⟩, ⟨?_⟩, ⟨?_⟩, ⟨?_⟩⟩
    · exact blk_alloc (blk_new w (Obj.cells (cellsOf a) 55)) _
    · have := blk_new (w.alloc (Obj.cells (cellsOf a) 55)) (Obj.cells (cellsOf (List.replicate 61 0)) 55)
      rw [World.size_alloc] at this
      exact this
    · exact below_alloc (below_alloc (Below.refl _ _) _) _
  case round =>
    obtain ⟨p, rfl, hk, hP, hA, hR, hW⟩ := hrel
    cases gk with
    | zero =>
      have hp : p.length = 61 := by omega
      have hA2 := hA.out
      rw [mix_done (by omega)] at hA2
      have hP2 := hP.out
      have hP3 := Aside0.mk hP2
      rw [hp]
      have hs1 := blk_lt hA.out
      have hs2 := blk_lt hR.out
      clear hP hA
      have hA := Aside0.mk hA2
      clear hA2
      have e1 : ∀ (x : Obj), (wr.alloc x).heap[w.heap.size]? = some (.cells (cellsOf p) 55 (0, 0)) := fun x => blk_alloc hA.out _
      have e3 := blk_new wr (Obj.cells (cellsOf oneRow) 55)
      go_wp2_with (first
        | (refine wpList_load_row rfl 55 (.tmp 1) rfl w.heap.size rfl 55 (cellsOf p) (0, 0) (.array 61 3) (e1 _) Try.underlying55 rfl (size55 _ hp) ?_)
        | (refine wpList_load_row rfl 55 (.tmp 4) rfl wr.heap.size rfl 55 (cellsOf oneRow) (0, 0) (.array 61 3) e3 Try.underlying55 rfl (size55 _ oneRow_len) ?_))
      refine (plus_calls hp oneRow_len hP2.1 oneRow_bits _).mono ?_
      rintro e w2 ⟨l, C, rfl, hl, hQ, hb⟩
      have hR2 := blk_below (blk_alloc hR.out (Obj.cells (cellsOf oneRow) 55)) hb
      have hW2 := below_step (below_alloc hW.out _) hb
      have hQ2 := Aside0.mk hQ
      clear hQ hb hP2 e1 e3 hA hR hW
      go_wp2_with (refine wpList_store_row rfl 55 (.tmp 2) (.tmp 18) rfl (w.heap.size + 1) (cellsOf l) rfl rfl 55 (cellsOf (List.replicate 61 0)) hR2 (size55 _ hl) (by rw [cellsOf_size, cellsOf_size, hl]; rfl) (one55 _) ?_)
      refine bodyPost_ret (results_cell_row rfl _ _ (w.heap.size + 1) 55 (cellsOf l) (0, 0) (.array 61 3) rfl (setRow_heap _ _ _ _ _ _ hR2) Try.underlying55 rfl (size55 _ hl)) rfl ?_
      exact ⟨l, rfl, hl, hQ2.out.1, turned_end ha hp hP3.out hl hQ2.out, below_setRow hW2 (by omega) _⟩
    | succ k1 =>
      have hlt : (p.length : Int) < 61 := by omega
      have hna : p.length < a.length := by omega
      have hnl : p.length < (mixAt p a).length := by rw [mix_length (by omega)]; omega
      have hcl := (blk_cell hA.out p.length).trans (cellsOf_get hnl)
      have hfl := blk_frozen hA.out p.length
      have hst := Aside0.mk (TurnAt.step ba hna hP.out)
      rw [mix_get hna] at hcl
      obtain ⟨z, hz⟩ : ∃ z, z = a.getD p.length 0 := ⟨_, rfl⟩
      rw [← hz] at hcl hst
      clear hz hP
      go_wp2
      go_roundg k1
      case measure => omega
      case rel =>
        have hlen : ∀ v : Int, (p ++ [v]).length = p.length + 1 := fun v => by simp
        refine ⟨p ++ [wrap64 (1 - z)], ?_, ?_, hst, ?_, ?_, ?_⟩
        · rw [hlen]; rfl
        · rw [hlen]; omega
        · exact ⟨blk_put hA.out p.length _ (by rw [cellsOf_set, mix_set hna])⟩
        · exact ⟨blk_far hR.out (by simp) _⟩
        · exact ⟨below_set hW.out (by omega)⟩

set_option maxHeartbeats 8000000 in
set_option maxRecDepth 100000 in
theorem refadd_calls {a b : Int} (ha : Fits a) (hb : Fits b) (w : World) :
    Calls Try.prog 62 #[.int .i64 a, .int .i64 b] w fun e w' => e = .returned (.int .i64 (wrap61 (a + b))) ∧ Below w.heap.size w w' := by
  have HB0 := Aside0.mk (Below.refl w.heap.size w)
  go_enter Try.func62, Try.ntmps62
  go_wp2_with fail
  refine (row_calls ha _).mono ?_
  rintro e w1 ⟨x, rfl, x1, x2, x3, hq⟩
  have HB1 := Aside0.mk (below_step HB0.out hq)
  clear hq HB0
  have X2 := Aside0.mk x2
  have X3 := Aside0.mk x3
  clear x2 x3
  go_wp2_with fail
  refine (row_calls hb _).mono ?_
  rintro e w2 ⟨y, rfl, y1, y2, y3, hq⟩
  have HB2 := Aside0.mk (below_step HB1.out hq)
  clear hq HB1
  have Y2 := Aside0.mk y2
  have Y3 := Aside0.mk y3
  clear y2 y3
  go_wp2_with fail
  refine (plus_calls x1 y1 X2.out Y2.out _).mono ?_
  rintro e w3 ⟨l, C, rfl, l1, hP, hq⟩
  have HB3 := Aside0.mk (below_step HB2.out hq)
  clear hq HB2
  have HP := Aside0.mk hP
  clear hP
  go_wp2_with fail
  refine (number_calls l1 HP.out.1 _).mono ?_
  rintro e w4 ⟨rfl, hq⟩
  have HB4 := Aside0.mk (below_step HB3.out hq)
  clear hq HB3
  go_wp2_with fail
  go_ret
  refine ⟨?_, HB4.out⟩
  have e1 : wrap61 (val l : Int) = wrap61 (a + b) := by
    have h1 := HP.out.done l1 x1 y1
    rw [X3.out, Y3.out] at h1
    apply wrap61_mod; omega
  rw [← e1]; rfl

set_option maxHeartbeats 8000000 in
set_option maxRecDepth 100000 in
theorem refsub_calls {a b : Int} (ha : Fits a) (hb : Fits b) (w : World) :
    Calls Try.prog 63 #[.int .i64 a, .int .i64 b] w fun e w' => e = .returned (.int .i64 (wrap61 (a - b))) ∧ Below w.heap.size w w' := by
  have HB0 := Aside0.mk (Below.refl w.heap.size w)
  go_enter Try.func63, Try.ntmps63
  go_wp2_with fail
  refine (row_calls ha _).mono ?_
  rintro e w1 ⟨x, rfl, x1, x2, x3, hq⟩
  have HB1 := Aside0.mk (below_step HB0.out hq)
  clear hq HB0
  have X2 := Aside0.mk x2
  have X3 := Aside0.mk x3
  clear x2 x3
  go_wp2_with fail
  refine (row_calls hb _).mono ?_
  rintro e w2 ⟨y, rfl, y1, y2, y3, hq⟩
  have HB2 := Aside0.mk (below_step HB1.out hq)
  clear hq HB1
  have Y2 := Aside0.mk y2
  have Y3 := Aside0.mk y3
  clear y2 y3
  go_wp2_with fail
  refine (turned_calls y1 Y2.out _).mono ?_
  rintro e w3 ⟨z, rfl, z1, z2, z3, hq⟩
  have HB3 := Aside0.mk (below_step HB2.out hq)
  clear hq HB2
  have Z2 := Aside0.mk z2
  have Z3 := Aside0.mk z3
  clear z2 z3
  go_wp2_with fail
  refine (plus_calls x1 z1 X2.out Z2.out _).mono ?_
  rintro e w4 ⟨l, C, rfl, l1, hP, hq⟩
  have HB4 := Aside0.mk (below_step HB3.out hq)
  clear hq HB3
  have HP := Aside0.mk hP
  clear hP
  go_wp2_with fail
  refine (number_calls l1 HP.out.1 _).mono ?_
  rintro e w5 ⟨rfl, hq⟩
  have HB5 := Aside0.mk (below_step HB4.out hq)
  clear hq HB4
  go_wp2_with fail
  go_ret
  refine ⟨?_, HB5.out⟩
  have e1 : wrap61 (val l : Int) = wrap61 (a - b) := by
    have h1 := HP.out.done l1 x1 z1
    have h2 := Y3.out
    have h3 := Z3.out
    have h4 := X3.out
    apply wrap61_mod; omega
  rw [← e1]; rfl

end Go.Proofs.Ytpjcheenihlagaa.Fl
