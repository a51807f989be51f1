/- The reference's rows of 61 bits: plus (walk). No conditions beyond those in each lemma. -/
import Derived.Test.YtpjcheenihlagaaML
import Derived.Test.YtpjcheenihlagaaConA
import Derived.Deep.QuietTactic
import Derived.BigQuiet
import Derived.Laws.CopyOwn
namespace Go.Proofs.Ytpjcheenihlagaa.Fl
open Go.RowKit Hf Ieee
open Go.Proofs.Ytpjcheenihlagaa.PFixAll Go.Proofs.YtpjcheenihlagaaW.PrintWords Go.Proofs.YtpjcheenihlagaaW.PrintLast Go.Proofs.YtpjcheenihlagaaW.PrintMore

/-- A row as the memory holds it. -/
def cellsOf (l : List Int) : Array Value := (l.map (fun b => Value.int .i64 b)).toArray

theorem cellsOf_get {l : List Int} {i : Nat} (h : i < l.length) : (cellsOf l)[i]? = some (.int .i64 (l.getD i 0)) := by
  unfold cellsOf; simp [h]
theorem cellsOf_set {l : List Int} (i : Nat) (v : Int) : (cellsOf l).setIfInBounds i (.int .i64 v) = cellsOf (l.set i v) := by
  unfold cellsOf; simp [List.map_set]
theorem cellsOf_size (l : List Int) : (cellsOf l).size = l.length := by unfold cellsOf; simp

def setAt (p : List Int) (n : Nat) : List Int := p ++ List.replicate n 0

theorem setAt_set {p : List Int} {n : Nat} (x : Int) : (setAt p (n + 1)).set p.length x = setAt (p ++ [x]) n := by
  unfold setAt
  rw [List.set_append_right _ _ (Nat.le_refl _), Nat.sub_self, List.replicate_succ, List.set_cons_zero, List.append_assoc]; rfl
theorem setAt_done (p : List Int) : setAt p 0 = p := by unfold setAt; simp
theorem setAt_length (p : List Int) (n : Nat) : (setAt p n).length = p.length + n := by unfold setAt; simp

/-- Plus, after i columns: the row so far, and what is carried. -/
def PlusAt (a b p : List Int) (C : Int) : Prop := Bits p ∧ (C = 0 ∨ C = 1) ∧ (val p : Int) + ((2 ^ p.length : Nat) : Int) * C = val (a.take p.length) + val (b.take p.length)

theorem take_val {a : List Int} (ha : Bits a) (i : Nat) (hi : i < a.length) : (val (a.take (i + 1)) : Int) = val (a.take i) + ((2 ^ i : Nat) : Int) * a.getD i 0 := by
  have h1 : a.take (i + 1) = a.take i ++ [a.getD i 0] := by
    rw [List.take_add_one]; simp [hi]
  have h2 : (a.take i).length = i := by simp; omega
  have h3 := ha (a.getD i 0) (by simp [hi])
  have h4 : 0 ≤ a.getD i 0 := by omega
  rw [h1, val_snoc, h2, Int.natCast_add, Int.natCast_mul, Int.toNat_of_nonneg h4]

theorem getD_bit {a : List Int} (ha : Bits a) (i : Nat) (hi : i < a.length) : a.getD i 0 = 0 ∨ a.getD i 0 = 1 := ha _ (by simp [hi])

theorem PlusAt.step {a b p : List Int} {C : Int} (ha : Bits a) (hb : Bits b) (hla : p.length < a.length) (hlb : p.length < b.length) (h : PlusAt a b p C) :
    PlusAt a b (p ++ [Int.tmod (wrap64 (wrap64 (a.getD p.length 0 + b.getD p.length 0) + C)) 2]) (wrap64 (Int.tdiv (wrap64 (wrap64 (a.getD p.length 0 + b.getD p.length 0) + C)) 2)) := by
  obtain ⟨h1, h2, h3⟩ := h
  have xa := getD_bit ha _ hla
  have xb := getD_bit hb _ hlb
  have ta := take_val ha _ hla
  have tb := take_val hb _ hlb
  have hl : (p ++ [Int.tmod (wrap64 (wrap64 (a.getD p.length 0 + b.getD p.length 0) + C)) 2]).length = p.length + 1 := by simp
  unfold PlusAt
  rw [hl, ta, tb, val_snoc]
  generalize a.getD p.length 0 = x at *
  generalize b.getD p.length 0 = y at *
  have hs : wrap64 (wrap64 (x + y) + C) = x + y + C := by
    clear h3 ta tb
    rw [wrap_id (a := x + y) (by unfold Fits; omega), wrap_id (by unfold Fits; omega)]
  rw [hs]
  have hp : ((2 ^ (p.length + 1) : Nat) : Int) = 2 * ((2 ^ p.length : Nat) : Int) := by rw [Nat.pow_succ]; omega
  have hd : wrap64 (Int.tdiv (x + y + C) 2) = (x + y + C) / 2 := by
    clear h3 ta tb hp
    rw [Int.tdiv_eq_ediv_of_nonneg (by omega), wrap_id (by unfold Fits; omega)]
  have hm : Int.tmod (x + y + C) 2 = (x + y + C) % 2 := Int.tmod_eq_emod_of_nonneg (by clear h3 ta tb hp hd; omega)
  rw [hd, hm, hp, Int.natCast_add, Int.natCast_mul, Int.toNat_of_nonneg (by clear h3 ta tb hp hd hm; omega)]
  refine ⟨h1.append (Bits.one (by clear h3 ta tb hp hd hm; omega)), by clear h3 ta tb hp hd hm; omega, ?_⟩
  clear ta tb hp hd hm hs hl
  generalize ((2 ^ p.length : Nat) : Int) = P at *
  have e : P * ((x + y + C) % 2) + 2 * P * ((x + y + C) / 2) = P * x + P * y + P * C := by
    rw [← Int.mul_add, ← Int.mul_add]
    rw [Int.mul_comm 2 P, Int.mul_assoc, ← Int.mul_add]
    congr 1; omega
  omega

theorem size55 (l : List Int) (h : l.length = 61) : (Try.prog.info? 55).map (·.size) = some (cellsOf l).size := by
  rw [cellsOf_size, h]; kernel_rfl
theorem one55 (l : List Int) : (cellsOf l).all (·.oneCell') = true := by
  unfold cellsOf; simp [Value.oneCell']
theorem zeros55 : (cellsOf (List.replicate 61 0)) = Array.replicate 61 (Value.int .i64 0) := by
  unfold cellsOf; rfl

set_option maxHeartbeats 8000000 in
set_option maxRecDepth 100000 in
theorem plus_calls {a b : List Int} (ha : a.length = 61) (hb : b.length = 61) (ba : Bits a) (bb : Bits b) (w : World) :
    Calls Try.prog 72 #[.agg (cellsOf a), .agg (cellsOf b)] w fun e w' => ∃ l C, e = .returned (.agg (cellsOf l)) ∧ l.length = 61 ∧ PlusAt a b l C ∧ Below w.heap.size w w' := by
  have hu55 := Try.underlying55
  go_enter Try.func72, Try.ntmps72
  go_wp2
  go_loopg [6, 7, 8] 61 (fun kq v6 v7 v8 wr => ∃ (p : List Int) (C : Int), v6 = .int .i64 C ∧ v7 = .int .i64 (p.length : Int) ∧ p.length + kq = 61 ∧ Aside0 (PlusAt a b p C) ∧
    Aside0 (wr.heap[w.heap.size]? = some (.cells (cellsOf a) 55 (0, 0))) ∧ Aside0 (wr.heap[w.heap.size + 1]? = some (.cells (cellsOf b) 55 (0, 0))) ∧
    Aside0 (wr.heap[w.heap.size + 1 + 1]? = some (.cells (cellsOf (List.replicate 61 0)) 55 (0, 0))) ∧ Aside0 (wr.heap[w.heap.size + 1 + 1 + 1]? = some (.cells (cellsOf (setAt p kq)) 55 (0, 0))) ∧ Aside0 (Below w.heap.size w wr))
  case atStart =>
    refine ⟨[], 0, rfl, rfl, rfl, ⟨Bits.nil, .inl rfl, by simp [val]⟩, ⟨?_⟩, ⟨?_⟩, ⟨?_⟩, ⟨?_⟩, ⟨?_⟩⟩
    · exact blk_alloc (blk_alloc (blk_alloc (blk_new _ _) _) _) _
    · have := blk_new (w.alloc (Obj.cells (cellsOf a) 55)) (Obj.cells (cellsOf b) 55)
      rw [World.size_alloc] at this
      exact blk_alloc (blk_alloc this _) _
    · have := blk_new ((w.alloc (Obj.cells (cellsOf a) 55)).alloc (Obj.cells (cellsOf b) 55)) (Obj.cells (cellsOf (List.replicate 61 0)) 55)
      rw [World.size_alloc, World.size_alloc] at this
      exact blk_alloc this _
    · have := blk_new (((w.alloc (Obj.cells (cellsOf a) 55)).alloc (Obj.cells (cellsOf b) 55)).alloc (Obj.cells (cellsOf (List.replicate 61 0)) 55)) (Obj.cells (cellsOf (List.replicate 61 0)) 55)
      rw [World.size_alloc, World.size_alloc, World.size_alloc] at this
      exact this
    · exact below_alloc (below_alloc (below_alloc (below_alloc (Below.refl _ _) _) _) _) _
  case round =>
    obtain ⟨p, C, rfl, rfl, hk, hP, hA, hB, hR, hL, hW⟩ := hrel
    cases gk with
    | zero =>
      have hp : p.length = 61 := by omega
      have hl55 : (setAt p 0).length = 61 := by rw [setAt_length]; omega
      have hP2 := hP.out
      rw [hp]
      clear hP
      go_wp2_with (first
        | (refine wpList_load_row rfl 55 (.tmp 5) rfl (w.heap.size + 1 + 1 + 1) rfl 55 (cellsOf (setAt p 0)) (0, 0) (.array 61 3) hL.out Try.underlying55 rfl (size55 _ hl55) ?_)
        | (refine wpList_store_row rfl 55 (.tmp 4) (.tmp 28) rfl (w.heap.size + 1 + 1) (cellsOf (setAt p 0)) rfl rfl 55 (cellsOf (List.replicate 61 0)) hR.out (size55 _ hl55) (by rw [cellsOf_size, cellsOf_size, hl55]; rfl) (one55 _) ?_))
      refine bodyPost_ret (results_cell_row rfl _ _ (w.heap.size + 1 + 1) 55 (cellsOf (setAt p 0)) (0, 0) (.array 61 3) rfl (setRow_heap _ _ _ _ _ _ hR.out) Try.underlying55 rfl (size55 _ hl55)) rfl ?_
      exact ⟨p, C, by rw [setAt_done], hp, hP2, below_setRow hW.out (by omega) _⟩
    | succ k1 =>
      have hlt : (p.length : Int) < 61 := by omega
      have hna : p.length < a.length := by omega
      have hnb : p.length < b.length := by omega
      have hnl : p.length < (setAt p (k1 + 1)).length := by rw [setAt_length]; omega
      have hca := (blk_cell hA.out p.length).trans (cellsOf_get hna)
      have hcb := (blk_cell hB.out p.length).trans (cellsOf_get hnb)
      have hcl := (blk_cell hL.out p.length).trans (cellsOf_get hnl)
      have hfl := blk_frozen hL.out p.length
      have hst := Aside0.mk (PlusAt.step ba bb hna hnb hP.out)
      obtain ⟨x, hx⟩ : ∃ x, x = a.getD p.length 0 := ⟨_, rfl⟩
      obtain ⟨y, hy⟩ : ∃ y, y = b.getD p.length 0 := ⟨_, rfl⟩
      obtain ⟨z, hz⟩ : ∃ z, z = (setAt p (k1 + 1)).getD p.length 0 := ⟨_, rfl⟩
      rw [← hx] at hca
      rw [← hy] at hcb
      rw [← hz] at hcl
      rw [← hx, ← hy] at hst
      clear hx hy hz hP
      go_wp2
      go_quiet (fail)
      go_wp2
      go_roundg k1
      case measure => omega
      case rel =>
        have hlen : ∀ v : Int, (p ++ [v]).length = p.length + 1 := fun v => by simp
        refine ⟨p ++ [(wrap64 (wrap64 (x + y) + C)).tmod 2], _, rfl, ?_, ?_, hst, ?_, ?_, ?_, ?_, ?_⟩
        · rw [hlen]; rfl
        · rw [hlen]; omega
        · exact ⟨blk_far hA.out (by simp; omega) _⟩
        · exact ⟨blk_far hB.out (by simp) _⟩
        · exact ⟨blk_far hR.out (by simp) _⟩
        · exact ⟨blk_put (blk_drewN hL.out _) p.length _ (by rw [cellsOf_set, setAt_set])⟩
        · exact ⟨by refine below_set ?_ (by omega); apply pw_below_drewN; exact hW.out⟩

end Go.Proofs.Ytpjcheenihlagaa.Fl
