/- Proves: for every input, calls of package value in any order answer as the reference does. No condition beyond the statement's own. -/
import Derived.Test.YtmnhhcjonephkaaRows
import Derived.Test.YtmnhhcjonephkaaVLx6
import Derived.Test.YtmnhhcjonephkaaPureValueAll
import Derived.Test.YtmnhhcjonephkaaOpen
import Derived.WalkKit
import Derived.ProofKit
import Derived.OpenShut
import Derived.ShutString
import Derived.ChangeOld
import Derived.Below
import Derived.SizedLaws
namespace Go.Proofs.Ytmnhhcjonephkaa.valueAll
open Go.ChangeShapes Go.WideShapes Go.ChangeAt Go.RowKit Go.Proofs.Ytmnhhcjonephkaa
set_option linter.unusedVariables false
theorem own : ownKnob Try.prog.godebug = none := by kernel_rfl
theorem laidOut : laidOutB Try.prog = true := by kernel_rfl
theorem all3 : Op.AllInts Try.prog 3 := Op.allInts_int Try.underlying3
theorem cells36 : Try.prog.cellsOf 36 = 2 := by kernel_rfl
theorem all36 : Op.AllInts Try.prog 36 := by
  refine Op.allInts_struct Try.underlying36 (by kernel_rfl) (fun f hf => ?_)
  simp only [List.mem_cons, List.not_mem_nil, or_false] at hf
  rcases hf with rfl | rfl
  all_goals first | exact all3
theorem cells59 : Try.prog.cellsOf 59 = 6 := by kernel_rfl
theorem all59 : Op.AllInts Try.prog 59 := by
  refine Op.allInts_struct Try.underlying59 (by kernel_rfl) (fun f hf => ?_)
  simp only [List.mem_cons, List.not_mem_nil, or_false] at hf
  rcases hf with rfl | rfl | rfl | rfl
  all_goals first | exact all3 | exact all36
def mk (z : List Int) : PValueAll.S59 := ⟨z.getD 0 0, z.getD 1 0, ⟨z.getD 2 0, z.getD 3 0⟩, ⟨z.getD 4 0, z.getD 5 0⟩⟩
theorem mk_reads (w : World) (zs : List Int) (h : zs.length = PValueAll.k59.sz) : PValueAll.k59.K w (mk zs) (zs.map (Value.int .i64)) := by
  obtain ⟨a, b, c, d, e, f, rfl⟩ := Op.len6 h
  exact ⟨[_], [_, _, _, _, _], rfl, rfl, ⟨[_], [_, _, _, _], rfl, rfl, ⟨[_, _], [_, _], rfl, ⟨[_], [_], rfl, rfl, rfl⟩, ⟨[_], [_], rfl, rfl, rfl⟩⟩⟩⟩
set_option maxRecDepth 100000 in
theorem lifted (os : Os) (started : os.Started) (H : Type) (enc : TypeId × Value → H) :
    ReturnsInHanded {} Try.checked os 22 .any (Rows.valueAllSpec.pre6 enc Try.prog Try.f22 Rows.valueAllRow.domain false) (Rows.valueAllSpec.post enc Try.prog Try.f22 false true false false) := by
  refine returnsInHanded_of_change (C := Try.checked) own started (by kernel_rfl) Try.func22
    (ChangeSpec.witness6 (enc := enc) (C := Try.checked) false ⟨#[], #[.slice none 0 0], []⟩ 8 (by kernel_rfl) (by kernel_rfl) (by kernel_rfl) (by kernel_rfl)) ?_
  intro W base args ds gs before hval0 hW hcnd _
  have hval : ∀ (j : Nat) t v, Try.f22.params[j]? = some t → args[j]? = some v → Value.okWide Try.prog W .any base t v := hval0
  have hW' := hW
  obtain ⟨p, q, hA0, hV, rfl, hfz, hnd⟩ := hW
  have hA : DataW.TrodAll enc Try.prog W 0 (fun _ => true) true Try.f22.params.toList args.toList ds p := hA0
  rw [Try.params22] at hA hval
  obtain ⟨v0, vs0, d0, ds0, p0, q0, hargs, rfl, rfl, h0, r0⟩ := trodAll_cons hA
  obtain ⟨rfl, rfl, rfl⟩ := trodAll_nil r0
  obtain rfl : args = #[v0] := by cases args; simp_all
  obtain ⟨rfl, rfl⟩ := trodVars_none hV
  have lt0 : ∀ x ∈ p0, x.block < W.heap.size := by obtain ⟨m, hm⟩ := h0; exact DataW.trod_lt m _ _ _ hm
  obtain ⟨A0, len0, cap0, rfl⟩ := okWide_slice Try.underlying56 (hval 0 56 v0 rfl rfl)
  obtain ⟨xs, hC, hl, hcap, hw⟩ := Op.open_row (kd := PValueAll.k59) mk Try.underlying56 all59 cells59 mk_reads h0
  subst hl
  obtain ⟨k, hk⟩ := Pure.ValueAll xs hC.2.1 (fun x hx => by obtain ⟨zs, rfl, hz, hzw⟩ := hw x hx; obtain ⟨a, b, c, d, e, f, rfl⟩ := Op.len6 hz; exact ⟨hzw a (by simp), hzw b (by simp), hzw c (by simp), hzw d (by simp), hzw e (by simp), hzw f (by simp)⟩)
  refine (PValueAll.hearthlaw2_ValueAll.calls k A0 cap0 xs true W hC hcap hk).mono fun e W' ⟨he, bel⟩ => ?_
  subst he
  exact ⟨_, rfl, _, _, _, [], _, [], hW', trodAll_mk1 (shut_bool Try.underlying4 _), (trodAll_cons_mk (Below.trod laidOut (by kernel_rfl) (of_decide_eq_true (by kernel_rfl)) h0 bel lt0) trodAll_mk0), rfl, bel.frame _, fun h => by cases h⟩
theorem over : Rows.valueAllRow.holds Try.pinned (OpenSpec.ofChange Rows.valueAllSpec) :=
  OpenClaim.holds_of_wide 22 Try.f22 rfl rfl rfl rfl rfl rfl rfl ⟨rfl, rfl, rfl, rfl, rfl⟩ rfl rfl rfl rfl rfl (by kernel_rfl) Try.func22 (by kernel_rfl)
    (of_decide_eq_true (by kernel_rfl)) (by unfold Func.isWrapper; first | (rw [if_pos (by decide +kernel)]; kernel_rfl) | (rw [if_neg (by decide +kernel)]; exact ⟨rfl, rfl⟩))
    (fun os started H enc _ => lifted os started H enc)
theorem proved : Rows.ValueAllSaid := over
#print axioms proved
end Go.Proofs.Ytmnhhcjonephkaa.valueAll
namespace Go.Proofs.Ytmnhhcjonephkaa
/-- The row, under a short name, for the claim. -/
theorem valueAll_holds : Rows.ValueAllSaid := valueAll.proved
end Go.Proofs.Ytmnhhcjonephkaa
