/- How a struct of whole numbers (structs of such among its fields), and a slice of such structs, that came in as arguments are read. No conditions beyond those in each lemma. -/
import Derived.Deep.Slices
import Derived.Lib.SmallJoins
import Derived.Test.YtpjcheenihlagaaWWords
namespace Go.Proofs.Ytpjcheenihlagaa.Op
open Go.ChangeShapes Go.WideShapes Go.RowKit Go.Deep Go.Proofs.YtpjcheenihlagaaW.PrintWords

/-- The cells are ints, each of which fits. -/
def Ints (cs : List Value) : Prop := ∃ zs : List Int, cs = zs.map (Value.int .i64) ∧ ∀ z ∈ zs, (Lit.int .i64 z).wf = true

theorem Ints.append {a b : List Value} (ha : Ints a) (hb : Ints b) : Ints (a ++ b) := by
  obtain ⟨za, rfl, wa⟩ := ha
  obtain ⟨zb, rfl, wb⟩ := hb
  refine ⟨za ++ zb, by rw [List.map_append], fun z hz => ?_⟩
  rcases List.mem_append.1 hz with h | h
  · exact wa z h
  · exact wb z h

/-- A type all of whose readings are ints. -/
def AllInts (P : Program) (t : TypeId) : Prop :=
  ∀ {H : Type} {enc : TypeId × Value → H} {w : World} {base : Nat} {spare : Nat → Bool} {held : Bool} (fuel : Nat) (cs : List Value) (x : DataW H × List MemPlace),
    DataW.trod enc P w base spare held fuel t cs = some x → Ints cs

theorem allInts_int {P : Program} {t : TypeId} (ht : P.underlying t = some (.int .i64)) : AllInts P t := by
  intro H enc w base spare held fuel cs x h
  obtain ⟨n, rfl, _, hw⟩ := DataW.trod_int ht h
  exact ⟨[n], rfl, fun z hz => by rw [List.mem_singleton.1 hz]; exact hw⟩

/-- The fields lie one behind the other from o on, up to e. -/
def consec (P : Program) : Nat → List Field → Nat → Bool
  | o, [], e => o == e
  | o, f :: fs, e => f.offset == o && consec P (o + P.cellsOf f.type) fs e

theorem consec_ints {P : Program} {cs : List Value} : ∀ (fs : List Field) (o : Nat), consec P o fs cs.length = true →
    (∀ f ∈ fs, Ints ((cs.drop f.offset).take (P.cellsOf f.type))) → Ints (cs.drop o)
  | [], o, h, _ => by
    have : o = cs.length := by simpa [consec] using h
    rw [this, List.drop_length]
    exact ⟨[], rfl, fun z hz => by simp at hz⟩
  | f :: fs, o, h, hf => by
    simp only [consec, Bool.and_eq_true, beq_iff_eq] at h
    obtain ⟨h0, h1⟩ := h
    have a := hf f (List.mem_cons_self ..)
    have b := consec_ints fs _ h1 (fun g hg => hf g (List.mem_cons_of_mem _ hg))
    rw [h0] at a
    have e : cs.drop o = (cs.drop o).take (P.cellsOf f.type) ++ cs.drop (o + P.cellsOf f.type) := by
      rw [← List.drop_drop, List.take_append_drop]
    rw [e]
    exact a.append b

theorem allInts_struct {P : Program} {t : TypeId} {fs : Array Field} (ht : P.underlying t = some (.struct fs)) (hc : consec P 0 fs.toList (P.cellsOf t) = true)
    (hf : ∀ f ∈ fs.toList, AllInts P f.type) : AllInts P t := by
  intro H enc w base spare held fuel cs x h
  obtain ⟨xs, n, _, _, hl, hlen, hx⟩ := DataW.trod_struct ht h
  rw [← hl] at hc
  have := consec_ints fs.toList 0 hc (fun f hm => by
    obtain ⟨i, hi, hfi⟩ := List.mem_iff_getElem.1 hm
    have h1 := hx i f (by rw [← hfi]; simp)
    have h2 : i < xs.length := by rw [hlen]; simpa using hi
    rw [List.getElem?_eq_getElem h2] at h1
    exact hf f hm _ _ _ h1)
  simpa using this

/-- A struct of ints by value: the value written out. -/
theorem open_struct {H : Type} {enc : TypeId × Value → H} {P : Program} {w : World} {base b0 : Nat} {spare : Nat → Bool} {held : Bool} {r : Reach} {t : TypeId} {fs : Array Field} {v : Value} {d : DataW H} {p : List MemPlace}
    (hs : P.underlying t = some (.struct fs)) (ha : AllInts P t) (hv : Value.okWide P w r b0 t v) (h : DataW.Trod enc P w base spare held t v d p) :
    ∃ zs : List Int, v = .agg (zs.map (Value.int .i64)).toArray ∧ zs.length = P.cellsOf t ∧ ∀ z ∈ zs, (Lit.int .i64 z).wf = true := by
  obtain ⟨cs, rfl, hsz⟩ := okWide_struct hs hv
  obtain ⟨fuel, hf⟩ := h
  obtain ⟨zs, hz, hw⟩ := ha fuel _ _ hf
  have hz' : cs.toList = zs.map (Value.int .i64) := by simpa [Value.cells] using hz
  refine ⟨zs, ?_, ?_, hw⟩
  · rw [← hz']
  · have : (cs.toList).length = zs.length := by rw [hz', List.length_map]
    rw [← this, Array.length_toList, hsz]

/-- A slice of structs of ints: it reads as a row. -/
theorem open_row {H : Type} {enc : TypeId × Value → H} {P : Program} {w : World} {base : Nat} {spare : Nat → Bool} {held : Bool} {t e : TypeId} {A : Option Addr} {n c : Nat} {d : DataW H} {p : List MemPlace}
    {α : Type} {kd : Kd α} (mk : List Int → α)
    (ht : P.underlying t = some (.slice e)) (ha : AllInts P e) (hsz : P.cellsOf e = kd.sz)
    (hK : ∀ w zs, zs.length = kd.sz → kd.K w (mk zs) (zs.map (Value.int .i64)))
    (h : DataW.Trod enc P w base spare held t (.slice A n c) d p) :
    ∃ xs : List α, Kd.C kd w A n xs ∧ xs.length = n ∧ n ≤ c ∧ ∀ x ∈ xs, ∃ zs, x = mk zs ∧ zs.length = kd.sz ∧ ∀ z ∈ zs, (Lit.int .i64 z).wf = true := by
  obtain ⟨fuel, hf⟩ := h
  have hf' : DataW.trod enc P w base spare held fuel t [.slice A n c] = some (d, p) := by simpa [Value.cells] using hf
  rcases open_slice ht hf' with ⟨hcs, _⟩ | ⟨a, len, cap, m, k, D, Pl, hcs, _, hl, hm, hmm, _, hx⟩
  · simp at hcs
    obtain ⟨rfl, rfl, rfl⟩ := hcs
    exact ⟨[], ⟨rfl, by omega, fun h => absurd h (Nat.lt_irrefl 0)⟩, rfl, Nat.le_refl _, fun x hx => by simp at hx⟩
  · simp at hcs
    obtain ⟨rfl, rfl, rfl⟩ := hcs
    have hnm : n ≤ m := by rw [hmm]; split <;> omega
    rw [hsz] at hx
    have key : ∀ i, i < n → ∃ zs : List Int, zs.length = kd.sz ∧ (∀ z ∈ zs, (Lit.int .i64 z).wf = true) ∧ ∀ j u, (zs.map (Value.int .i64))[j]? = some u → w.cell? (a.add (i * kd.sz + j)) = some u := by
      intro i hi
      obtain ⟨cs', h1, h2⟩ := hx i (by omega)
      obtain ⟨zs, rfl, hw⟩ := ha _ _ _ h2
      obtain ⟨_, hlen, hcell⟩ := World.cells?_some h1
      refine ⟨zs, by simpa using hlen, hw, fun j u hu => ?_⟩
      have hj : j < kd.sz := by
        have := (List.getElem?_eq_some_iff.1 hu).1
        rw [hlen] at this; exact this
      have := hcell j hj
      rw [Deep.add_add] at this
      rw [this, hu]
    obtain ⟨Z, hZ⟩ := choose_lt (α := List Int) key
    refine ⟨(List.range n).map fun i => mk (Z i), ⟨by simp, by unfold maxLen at hm; omega, fun _ => ⟨a, rfl, fun j p hp => ?_⟩⟩, by simp, hl, fun x hx2 => ?_⟩
    · have hj : j < n := by
        have := (List.getElem?_eq_some_iff.1 hp).1
        simpa using this
      have hp' : mk (Z j) = p := by simpa [hj] using hp
      subst hp'
      obtain ⟨z1, z2, z3⟩ := hZ j hj
      exact ⟨(Z j).map (Value.int .i64), by rw [List.length_map, z1], hK w _ z1, z3⟩
    · obtain ⟨i, hi, rfl⟩ := List.mem_map.1 hx2
      obtain ⟨z1, z2, _⟩ := hZ i (List.mem_range.1 hi)
      exact ⟨Z i, rfl, z1, z2⟩

theorem len2 {z : List Int} (h : z.length = 2) : ∃ a b, z = [a, b] := by
  match z, h with
  | [a, b], _ => exact ⟨a, b, rfl⟩
theorem len4 {z : List Int} (h : z.length = 4) : ∃ a b c d, z = [a, b, c, d] := by
  match z, h with
  | [a, b, c, d], _ => exact ⟨a, b, c, d, rfl⟩
theorem len6 {z : List Int} (h : z.length = 6) : ∃ a b c d e f, z = [a, b, c, d, e, f] := by
  match z, h with
  | [a, b, c, d, e, f], _ => exact ⟨a, b, c, d, e, f, rfl⟩
theorem len3 {z : List Int} (h : z.length = 3) : ∃ a b c, z = [a, b, c] := by
  match z, h with
  | [a, b, c], _ => exact ⟨a, b, c, rfl⟩

theorem open2 {H : Type} {enc : TypeId × Value → H} {P : Program} {w : World} {base b0 : Nat} {spare : Nat → Bool} {held : Bool} {r : Reach} {t : TypeId} {fs : Array Field} {v : Value} {d : DataW H} {p : List MemPlace}
    (hs : P.underlying t = some (.struct fs)) (ha : AllInts P t) (hC : P.cellsOf t = 2) (hv : Value.okWide P w r b0 t v) (h : DataW.Trod enc P w base spare held t v d p) :
    ∃ a b : Int, v = .agg #[.int .i64 a, .int .i64 b] ∧ (Lit.int .i64 a).wf = true ∧ (Lit.int .i64 b).wf = true := by
  obtain ⟨zs, rfl, hl, hw⟩ := open_struct hs ha hv h
  obtain ⟨a, b, rfl⟩ := len2 (hl.trans hC)
  exact ⟨a, b, rfl, hw a (by simp), hw b (by simp)⟩
theorem open6 {H : Type} {enc : TypeId × Value → H} {P : Program} {w : World} {base b0 : Nat} {spare : Nat → Bool} {held : Bool} {r : Reach} {t : TypeId} {fs : Array Field} {v : Value} {d : DataW H} {p : List MemPlace}
    (hs : P.underlying t = some (.struct fs)) (ha : AllInts P t) (hC : P.cellsOf t = 6) (hv : Value.okWide P w r b0 t v) (h : DataW.Trod enc P w base spare held t v d p) :
    ∃ a b c d e f : Int, v = .agg #[.int .i64 a, .int .i64 b, .int .i64 c, .int .i64 d, .int .i64 e, .int .i64 f] ∧ (Lit.int .i64 a).wf = true ∧ (Lit.int .i64 b).wf = true ∧ (Lit.int .i64 c).wf = true ∧
      (Lit.int .i64 d).wf = true ∧ (Lit.int .i64 e).wf = true ∧ (Lit.int .i64 f).wf = true := by
  obtain ⟨zs, rfl, hl, hw⟩ := open_struct hs ha hv h
  obtain ⟨a, b, c, d, e, f, rfl⟩ := len6 (hl.trans hC)
  exact ⟨a, b, c, d, e, f, rfl, hw a (by simp), hw b (by simp), hw c (by simp), hw d (by simp), hw e (by simp), hw f (by simp)⟩

end Go.Proofs.Ytpjcheenihlagaa.Op
