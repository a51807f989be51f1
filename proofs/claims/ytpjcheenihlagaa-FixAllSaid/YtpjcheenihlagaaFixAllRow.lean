/- Proves: for every input, calls of package fix in any order answer as the reference does. No condition beyond the statement's own. -/
import Derived.Test.YtpjcheenihlagaaRows
import Derived.Test.YtpjcheenihlagaaLwm
import Derived.Test.YtpjcheenihlagaaOpn
import Derived.WalkKit
import Derived.ProofKit
import Derived.OpenShut
import Derived.ShutString
import Derived.ChangeOld
import Derived.Below
import Derived.SizedLaws
namespace Go.Proofs.Ytpjcheenihlagaa.fixAll
open Go.ChangeShapes Go.WideShapes Go.ChangeAt Go.RowKit Go.Proofs.Ytpjcheenihlagaa
set_option linter.unusedVariables false
theorem own : ownKnob Try.prog.godebug = none := by kernel_rfl
theorem laidOut : laidOutB Try.prog = true := by kernel_rfl
theorem all3 : Op.AllInts Try.prog 3 := Op.allInts_int Try.underlying3
theorem cells34 : Try.prog.cellsOf 34 = 3 := by kernel_rfl
theorem all34 : Op.AllInts Try.prog 34 := by
  refine Op.allInts_struct Try.underlying34 (by kernel_rfl) (fun f hf => ?_)
  simp only [List.mem_cons, List.not_mem_nil, or_false] at hf
  rcases hf with rfl | rfl | rfl
  all_goals exact all3
def mk (z : List Int) : Fl.S34 := ⟨z.getD 0 0, z.getD 1 0, z.getD 2 0⟩
theorem mk_reads (w : World) (zs : List Int) (h : zs.length = Fl.k34.sz) : Fl.k34.K w (mk zs) (zs.map (Value.int .i64)) := by
  obtain ⟨a, b, c, rfl⟩ := Op.len3 h
  exact ⟨[_], [_, _], rfl, rfl, ⟨[_], [_], rfl, rfl, rfl⟩⟩
set_option maxRecDepth 100000 in
theorem lifted (os : Os) (started : os.Started) (H : Type) (enc : TypeId × Value → H) :
    ReturnsInHanded {} Try.checked os 18 .any (Rows.fixAllSpec.pre6 enc Try.prog Try.f18 Rows.fixAllRow.domain false) (Rows.fixAllSpec.post enc Try.prog Try.f18 false true false false) := by
  refine returnsInHanded_of_change (C := Try.checked) own started (by kernel_rfl) Try.func18
    (ChangeSpec.witness6 (enc := enc) (C := Try.checked) false ⟨#[], #[.slice none 0 0], []⟩ 8 (by kernel_rfl) (by kernel_rfl) (by kernel_rfl) (by kernel_rfl)) ?_
  intro W base args ds gs before hval0 hW hcnd _
  have hval : ∀ (j : Nat) t v, Try.f18.params[j]? = some t → args[j]? = some v → Value.okWide Try.prog W .any base t v := hval0
  have hW' := hW
  obtain ⟨p, q, hA0, hV, rfl, hfz, hnd⟩ := hW
  have hA : DataW.TrodAll enc Try.prog W 0 (fun _ => true) true Try.f18.params.toList args.toList ds p := hA0
  rw [Try.params18] at hA hval
  obtain ⟨v0, vs0, d0, ds0, p0, q0, hargs, rfl, rfl, h0, r0⟩ := trodAll_cons hA
  obtain ⟨rfl, rfl, rfl⟩ := trodAll_nil r0
  obtain rfl : args = #[v0] := by cases args; simp_all
  obtain ⟨rfl, rfl⟩ := trodVars_none hV
  have lt0 : ∀ x ∈ p0, x.block < W.heap.size := by obtain ⟨m, hm⟩ := h0; exact DataW.trod_lt m _ _ _ hm
  obtain ⟨A0, len0, cap0, rfl⟩ := okWide_slice Try.underlying31 (hval 0 31 v0 rfl rfl)
  obtain ⟨xs, hC, hl, hcap, hw⟩ := Op.open_row (kd := Fl.k34) mk Try.underlying31 all34 cells34 mk_reads h0
  subst hl
  refine (Fl.FixAll_walk A0 cap0 xs W hC hcap (fun x hx => by obtain ⟨zs, rfl, hz, hzw⟩ := hw x hx; obtain ⟨a, b, c, rfl⟩ := Op.len3 hz; exact ⟨Fl.fits_of_wf (hzw b (by simp)), Fl.fits_of_wf (hzw c (by simp))⟩)).mono fun e W' ⟨he, bel⟩ => ?_
  subst he
  exact ⟨_, rfl, _, _, _, [], _, [], hW', trodAll_mk1 (shut_bool Try.underlying4 _), (trodAll_cons_mk (Below.trod laidOut (by kernel_rfl) (of_decide_eq_true (by kernel_rfl)) h0 bel lt0) trodAll_mk0), rfl, bel.frame _, fun h => by cases h⟩
theorem over : Rows.fixAllRow.holds Try.pinned (OpenSpec.ofChange Rows.fixAllSpec) :=
  OpenClaim.holds_of_wide 18 Try.f18 rfl rfl rfl rfl rfl rfl rfl ⟨rfl, rfl, rfl, rfl, rfl⟩ rfl rfl rfl rfl rfl (by kernel_rfl) Try.func18 (by kernel_rfl)
    (of_decide_eq_true (by kernel_rfl)) (by unfold Func.isWrapper; first | (rw [if_pos (by decide +kernel)]; kernel_rfl) | (rw [if_neg (by decide +kernel)]; exact ⟨rfl, rfl⟩))
    (fun os started H enc _ => lifted os started H enc)
theorem proved : Rows.FixAllSaid := over
#print axioms proved
end Go.Proofs.Ytpjcheenihlagaa.fixAll
namespace Go.Proofs.Ytpjcheenihlagaa
/-- The row, under a short name, for the claim. -/
theorem fixAll_holds : Rows.FixAllSaid := fixAll.proved
end Go.Proofs.Ytpjcheenihlagaa
