/-
  No cell of these rows narrows 'for every input' (looked for: loops, veiled, ifaces, maps, wideKeys, modest, calm, conditions, laid).
  DERIVED. THE GIVEN ROWS OF THIS SEAT. 16 by the template 'for every input the law returns true; each argument reads behind the call as it read before'; 0 by the template 'total and deterministic' (their statements: YtpjcheenihlagaaTotals.lean).
  GIVEN WITH THE SEED: the statements are not yours to turn. If you find one false, say at which input.
  Laid BY PROGRAM, IN A SANDBOX (cutbox-rows.mjs): the forced cells as the released guide's own fill.sh prints them over the translation 03d92dad9ec60861… (all of the seat's roots in one cut). By AI agents, Wed Nov 11 2026. No macro, syntax, notation, axiom, sorry.
-/
import Derived.Test.YtpjcheenihlagaaChecked
import GoSem.Claim
import GoSem.ClaimJoined
import GoSem.ClaimMapViews
import Derived.JoinedTies
import Derived.KernelRfl
namespace Go.Proofs.Ytpjcheenihlagaa
/- THE CELL 'sum', in the pinned program and in every row, IS THE sha256 OF THE DUMP (.gsa) THAT YtpjcheenihlagaaProg.lean LOADS. Nothing in Lean hashes anything: it is a label: what it is worth is what the hold of that sum in a sandbox is worth. -/
noncomputable def Try.pinned : Pinned := { name := "ytpjcheenihlagaa", sum := "03d92dad9ec608610e21f4214ddb9560dfa0323f519ed7a999b8bb8fc241e159", checked := Try.checked }
namespace Rows
def none {H : Type} : Left H := { results := [], args := [] }

/-- 'hearthlaw1.FixBits': WHATEVER THE INPUT: true; the input reads as it did. -/
def fixBitsSpec : ChangeSpec := { name := "fixBits", fn := fun _ => fun
  | [d] => { results := [.lit (.bool true)], args := [d] }
  | _ => none }
def fixBitsRow : OpenClaim := { program := "ytpjcheenihlagaa", sum := "03d92dad9ec608610e21f4214ddb9560dfa0323f519ed7a999b8bb8fc241e159", func := "hearth/hearthlaw1.FixBits", spec := "fixBits", inPlace := ["math.Float64frombits", "math.Float64bits"], apart := false }
def FixBitsSaid : Prop := fixBitsRow.holds Try.pinned (OpenSpec.ofChange fixBitsSpec)

/-- ITS FALSE NEIGHBOUR: 'it returns false'. Refute it at one input. -/
def fixBitsWrong : ChangeSpec := { name := "fixBits", fn := fun _ => fun
  | [d] => { results := [.lit (.bool false)], args := [d] }
  | _ => none }
def FixBitsWrongFalsely : Prop := fixBitsRow.holds Try.pinned (OpenSpec.ofChange fixBitsWrong)

/-- 'hearthlaw1.FixWraps': WHATEVER THE INPUT: true; the input reads as it did. -/
def fixWrapsSpec : ChangeSpec := { name := "fixWraps", fn := fun _ => fun
  | [d] => { results := [.lit (.bool true)], args := [d] }
  | _ => none }
def fixWrapsRow : OpenClaim := { program := "ytpjcheenihlagaa", sum := "03d92dad9ec608610e21f4214ddb9560dfa0323f519ed7a999b8bb8fc241e159", func := "hearth/hearthlaw1.FixWraps", spec := "fixWraps", inPlace := ["math.Float64frombits", "math.Float64bits"], apart := false }
def FixWrapsSaid : Prop := fixWrapsRow.holds Try.pinned (OpenSpec.ofChange fixWrapsSpec)

/-- ITS FALSE NEIGHBOUR: 'it returns false'. Refute it at one input. -/
def fixWrapsWrong : ChangeSpec := { name := "fixWraps", fn := fun _ => fun
  | [d] => { results := [.lit (.bool false)], args := [d] }
  | _ => none }
def FixWrapsWrongFalsely : Prop := fixWrapsRow.holds Try.pinned (OpenSpec.ofChange fixWrapsWrong)

/-- 'hearthlaw1.FixSums': WHATEVER THE INPUT: true; the input reads as it did. -/
def fixSumsSpec : ChangeSpec := { name := "fixSums", fn := fun _ => fun
  | [d1, d2] => { results := [.lit (.bool true)], args := [d1, d2] }
  | _ => none }
def fixSumsRow : OpenClaim := { program := "ytpjcheenihlagaa", sum := "03d92dad9ec608610e21f4214ddb9560dfa0323f519ed7a999b8bb8fc241e159", func := "hearth/hearthlaw1.FixSums", spec := "fixSums", inPlace := ["math.Float64frombits", "math.Float64bits"], apart := false }
def FixSumsSaid : Prop := fixSumsRow.holds Try.pinned (OpenSpec.ofChange fixSumsSpec)

/-- ITS FALSE NEIGHBOUR: 'it returns false'. Refute it at one input. -/
def fixSumsWrong : ChangeSpec := { name := "fixSums", fn := fun _ => fun
  | [d1, d2] => { results := [.lit (.bool false)], args := [d1, d2] }
  | _ => none }
def FixSumsWrongFalsely : Prop := fixSumsRow.holds Try.pinned (OpenSpec.ofChange fixSumsWrong)

/-- 'hearthlaw1.FixLess': WHATEVER THE INPUT: true; the input reads as it did. -/
def fixLessSpec : ChangeSpec := { name := "fixLess", fn := fun _ => fun
  | [d1, d2] => { results := [.lit (.bool true)], args := [d1, d2] }
  | _ => none }
def fixLessRow : OpenClaim := { program := "ytpjcheenihlagaa", sum := "03d92dad9ec608610e21f4214ddb9560dfa0323f519ed7a999b8bb8fc241e159", func := "hearth/hearthlaw1.FixLess", spec := "fixLess", inPlace := ["math.Float64frombits", "math.Float64bits"], apart := false }
def FixLessSaid : Prop := fixLessRow.holds Try.pinned (OpenSpec.ofChange fixLessSpec)

/-- ITS FALSE NEIGHBOUR: 'it returns false'. Refute it at one input. -/
def fixLessWrong : ChangeSpec := { name := "fixLess", fn := fun _ => fun
  | [d1, d2] => { results := [.lit (.bool false)], args := [d1, d2] }
  | _ => none }
def FixLessWrongFalsely : Prop := fixLessRow.holds Try.pinned (OpenSpec.ofChange fixLessWrong)

/-- 'hearthlaw1.FixWrapped': WHATEVER THE INPUT: true; the input reads as it did. -/
def fixWrappedSpec : ChangeSpec := { name := "fixWrapped", fn := fun _ => fun
  | [d1, d2] => { results := [.lit (.bool true)], args := [d1, d2] }
  | _ => none }
def fixWrappedRow : OpenClaim := { program := "ytpjcheenihlagaa", sum := "03d92dad9ec608610e21f4214ddb9560dfa0323f519ed7a999b8bb8fc241e159", func := "hearth/hearthlaw1.FixWrapped", spec := "fixWrapped", inPlace := ["math.Float64frombits", "math.Float64bits"], apart := false }
def FixWrappedSaid : Prop := fixWrappedRow.holds Try.pinned (OpenSpec.ofChange fixWrappedSpec)

/-- ITS FALSE NEIGHBOUR: 'it returns false'. Refute it at one input. -/
def fixWrappedWrong : ChangeSpec := { name := "fixWrapped", fn := fun _ => fun
  | [d1, d2] => { results := [.lit (.bool false)], args := [d1, d2] }
  | _ => none }
def FixWrappedWrongFalsely : Prop := fixWrappedRow.holds Try.pinned (OpenSpec.ofChange fixWrappedWrong)

/-- 'hearthlaw1.FixOrder': WHATEVER THE INPUT: true; the input reads as it did. -/
def fixOrderSpec : ChangeSpec := { name := "fixOrder", fn := fun _ => fun
  | [d1, d2, d3] => { results := [.lit (.bool true)], args := [d1, d2, d3] }
  | _ => none }
def fixOrderRow : OpenClaim := { program := "ytpjcheenihlagaa", sum := "03d92dad9ec608610e21f4214ddb9560dfa0323f519ed7a999b8bb8fc241e159", func := "hearth/hearthlaw1.FixOrder", spec := "fixOrder", inPlace := ["math.Float64frombits", "math.Float64bits"], apart := false }
def FixOrderSaid : Prop := fixOrderRow.holds Try.pinned (OpenSpec.ofChange fixOrderSpec)

/-- ITS FALSE NEIGHBOUR: 'it returns false'. Refute it at one input. -/
def fixOrderWrong : ChangeSpec := { name := "fixOrder", fn := fun _ => fun
  | [d1, d2, d3] => { results := [.lit (.bool false)], args := [d1, d2, d3] }
  | _ => none }
def FixOrderWrongFalsely : Prop := fixOrderRow.holds Try.pinned (OpenSpec.ofChange fixOrderWrong)

/-- 'hearthlaw1.FixProducts': WHATEVER THE INPUT: true; the input reads as it did. -/
def fixProductsSpec : ChangeSpec := { name := "fixProducts", fn := fun _ => fun
  | [d1, d2] => { results := [.lit (.bool true)], args := [d1, d2] }
  | _ => none }
def fixProductsRow : OpenClaim := { program := "ytpjcheenihlagaa", sum := "03d92dad9ec608610e21f4214ddb9560dfa0323f519ed7a999b8bb8fc241e159", func := "hearth/hearthlaw1.FixProducts", spec := "fixProducts", inPlace := ["math.Float64frombits", "math.Float64bits"], apart := false }
def FixProductsSaid : Prop := fixProductsRow.holds Try.pinned (OpenSpec.ofChange fixProductsSpec)

/-- ITS FALSE NEIGHBOUR: 'it returns false'. Refute it at one input. -/
def fixProductsWrong : ChangeSpec := { name := "fixProducts", fn := fun _ => fun
  | [d1, d2] => { results := [.lit (.bool false)], args := [d1, d2] }
  | _ => none }
def FixProductsWrongFalsely : Prop := fixProductsRow.holds Try.pinned (OpenSpec.ofChange fixProductsWrong)

/-- 'hearthlaw1.FixRing': WHATEVER THE INPUT: true; the input reads as it did. -/
def fixRingSpec : ChangeSpec := { name := "fixRing", fn := fun _ => fun
  | [d1, d2, d3] => { results := [.lit (.bool true)], args := [d1, d2, d3] }
  | _ => none }
def fixRingRow : OpenClaim := { program := "ytpjcheenihlagaa", sum := "03d92dad9ec608610e21f4214ddb9560dfa0323f519ed7a999b8bb8fc241e159", func := "hearth/hearthlaw1.FixRing", spec := "fixRing", inPlace := ["math.Float64frombits", "math.Float64bits"], apart := false }
def FixRingSaid : Prop := fixRingRow.holds Try.pinned (OpenSpec.ofChange fixRingSpec)

/-- ITS FALSE NEIGHBOUR: 'it returns false'. Refute it at one input. -/
def fixRingWrong : ChangeSpec := { name := "fixRing", fn := fun _ => fun
  | [d1, d2, d3] => { results := [.lit (.bool false)], args := [d1, d2, d3] }
  | _ => none }
def FixRingWrongFalsely : Prop := fixRingRow.holds Try.pinned (OpenSpec.ofChange fixRingWrong)

/-- 'hearthlaw1.FixSigns': WHATEVER THE INPUT: true; the input reads as it did. -/
def fixSignsSpec : ChangeSpec := { name := "fixSigns", fn := fun _ => fun
  | [d1, d2] => { results := [.lit (.bool true)], args := [d1, d2] }
  | _ => none }
def fixSignsRow : OpenClaim := { program := "ytpjcheenihlagaa", sum := "03d92dad9ec608610e21f4214ddb9560dfa0323f519ed7a999b8bb8fc241e159", func := "hearth/hearthlaw1.FixSigns", spec := "fixSigns", inPlace := ["math.Float64frombits", "math.Float64bits"], apart := false }
def FixSignsSaid : Prop := fixSignsRow.holds Try.pinned (OpenSpec.ofChange fixSignsSpec)

/-- ITS FALSE NEIGHBOUR: 'it returns false'. Refute it at one input. -/
def fixSignsWrong : ChangeSpec := { name := "fixSigns", fn := fun _ => fun
  | [d1, d2] => { results := [.lit (.bool false)], args := [d1, d2] }
  | _ => none }
def FixSignsWrongFalsely : Prop := fixSignsRow.holds Try.pinned (OpenSpec.ofChange fixSignsWrong)

/-- 'hearthlaw1.FixGrows': WHATEVER THE INPUT: true; the input reads as it did. -/
def fixGrowsSpec : ChangeSpec := { name := "fixGrows", fn := fun _ => fun
  | [d1, d2, d3] => { results := [.lit (.bool true)], args := [d1, d2, d3] }
  | _ => none }
def fixGrowsRow : OpenClaim := { program := "ytpjcheenihlagaa", sum := "03d92dad9ec608610e21f4214ddb9560dfa0323f519ed7a999b8bb8fc241e159", func := "hearth/hearthlaw1.FixGrows", spec := "fixGrows", inPlace := ["math.Float64frombits", "math.Float64bits"], apart := false }
def FixGrowsSaid : Prop := fixGrowsRow.holds Try.pinned (OpenSpec.ofChange fixGrowsSpec)

/-- ITS FALSE NEIGHBOUR: 'it returns false'. Refute it at one input. -/
def fixGrowsWrong : ChangeSpec := { name := "fixGrows", fn := fun _ => fun
  | [d1, d2, d3] => { results := [.lit (.bool false)], args := [d1, d2, d3] }
  | _ => none }
def FixGrowsWrongFalsely : Prop := fixGrowsRow.holds Try.pinned (OpenSpec.ofChange fixGrowsWrong)

/-- 'hearthlaw1.FixTurns': WHATEVER THE INPUT: true; the input reads as it did. -/
def fixTurnsSpec : ChangeSpec := { name := "fixTurns", fn := fun _ => fun
  | [d1, d2] => { results := [.lit (.bool true)], args := [d1, d2] }
  | _ => none }
def fixTurnsRow : OpenClaim := { program := "ytpjcheenihlagaa", sum := "03d92dad9ec608610e21f4214ddb9560dfa0323f519ed7a999b8bb8fc241e159", func := "hearth/hearthlaw1.FixTurns", spec := "fixTurns", inPlace := ["math.Float64frombits", "math.Float64bits"], apart := false }
def FixTurnsSaid : Prop := fixTurnsRow.holds Try.pinned (OpenSpec.ofChange fixTurnsSpec)

/-- ITS FALSE NEIGHBOUR: 'it returns false'. Refute it at one input. -/
def fixTurnsWrong : ChangeSpec := { name := "fixTurns", fn := fun _ => fun
  | [d1, d2] => { results := [.lit (.bool false)], args := [d1, d2] }
  | _ => none }
def FixTurnsWrongFalsely : Prop := fixTurnsRow.holds Try.pinned (OpenSpec.ofChange fixTurnsWrong)

/-- 'hearthlaw1.FixNear': WHATEVER THE INPUT: true; the input reads as it did. -/
def fixNearSpec : ChangeSpec := { name := "fixNear", fn := fun _ => fun
  | [d1, d2] => { results := [.lit (.bool true)], args := [d1, d2] }
  | _ => none }
def fixNearRow : OpenClaim := { program := "ytpjcheenihlagaa", sum := "03d92dad9ec608610e21f4214ddb9560dfa0323f519ed7a999b8bb8fc241e159", func := "hearth/hearthlaw1.FixNear", spec := "fixNear", inPlace := ["math.Float64bits", "math.Float64frombits"], apart := false }
def FixNearSaid : Prop := fixNearRow.holds Try.pinned (OpenSpec.ofChange fixNearSpec)

/-- ITS FALSE NEIGHBOUR: 'it returns false'. Refute it at one input. -/
def fixNearWrong : ChangeSpec := { name := "fixNear", fn := fun _ => fun
  | [d1, d2] => { results := [.lit (.bool false)], args := [d1, d2] }
  | _ => none }
def FixNearWrongFalsely : Prop := fixNearRow.holds Try.pinned (OpenSpec.ofChange fixNearWrong)

/-- 'hearthlaw1.FixDivides': WHATEVER THE INPUT: true; the input reads as it did. -/
def fixDividesSpec : ChangeSpec := { name := "fixDivides", fn := fun _ => fun
  | [d1, d2] => { results := [.lit (.bool true)], args := [d1, d2] }
  | _ => none }
def fixDividesRow : OpenClaim := { program := "ytpjcheenihlagaa", sum := "03d92dad9ec608610e21f4214ddb9560dfa0323f519ed7a999b8bb8fc241e159", func := "hearth/hearthlaw1.FixDivides", spec := "fixDivides", inPlace := ["math.Float64frombits", "math.Float64bits"], apart := false }
def FixDividesSaid : Prop := fixDividesRow.holds Try.pinned (OpenSpec.ofChange fixDividesSpec)

/-- ITS FALSE NEIGHBOUR: 'it returns false'. Refute it at one input. -/
def fixDividesWrong : ChangeSpec := { name := "fixDivides", fn := fun _ => fun
  | [d1, d2] => { results := [.lit (.bool false)], args := [d1, d2] }
  | _ => none }
def FixDividesWrongFalsely : Prop := fixDividesRow.holds Try.pinned (OpenSpec.ofChange fixDividesWrong)

/-- 'hearthlaw1.FixCuts': WHATEVER THE INPUT: true; the input reads as it did. -/
def fixCutsSpec : ChangeSpec := { name := "fixCuts", fn := fun _ => fun
  | [d] => { results := [.lit (.bool true)], args := [d] }
  | _ => none }
def fixCutsRow : OpenClaim := { program := "ytpjcheenihlagaa", sum := "03d92dad9ec608610e21f4214ddb9560dfa0323f519ed7a999b8bb8fc241e159", func := "hearth/hearthlaw1.FixCuts", spec := "fixCuts", inPlace := ["math.Float64frombits", "math.Float64bits"], apart := false }
def FixCutsSaid : Prop := fixCutsRow.holds Try.pinned (OpenSpec.ofChange fixCutsSpec)

/-- ITS FALSE NEIGHBOUR: 'it returns false'. Refute it at one input. -/
def fixCutsWrong : ChangeSpec := { name := "fixCuts", fn := fun _ => fun
  | [d] => { results := [.lit (.bool false)], args := [d] }
  | _ => none }
def FixCutsWrongFalsely : Prop := fixCutsRow.holds Try.pinned (OpenSpec.ofChange fixCutsWrong)

/-- 'hearthlaw1.FixWhole': WHATEVER THE INPUT: true; the input reads as it did. -/
def fixWholeSpec : ChangeSpec := { name := "fixWhole", fn := fun _ => fun
  | [d1, d2] => { results := [.lit (.bool true)], args := [d1, d2] }
  | _ => none }
def fixWholeRow : OpenClaim := { program := "ytpjcheenihlagaa", sum := "03d92dad9ec608610e21f4214ddb9560dfa0323f519ed7a999b8bb8fc241e159", func := "hearth/hearthlaw1.FixWhole", spec := "fixWhole", inPlace := ["math.Float64frombits", "math.Float64bits"], apart := false }
def FixWholeSaid : Prop := fixWholeRow.holds Try.pinned (OpenSpec.ofChange fixWholeSpec)

/-- ITS FALSE NEIGHBOUR: 'it returns false'. Refute it at one input. -/
def fixWholeWrong : ChangeSpec := { name := "fixWhole", fn := fun _ => fun
  | [d1, d2] => { results := [.lit (.bool false)], args := [d1, d2] }
  | _ => none }
def FixWholeWrongFalsely : Prop := fixWholeRow.holds Try.pinned (OpenSpec.ofChange fixWholeWrong)

/-- 'hearthlaw1.FixAll': WHATEVER THE INPUT: true; the input reads as it did. -/
def fixAllSpec : ChangeSpec := { name := "fixAll", fn := fun _ => fun
  | [d] => { results := [.lit (.bool true)], args := [d] }
  | _ => none }
def fixAllRow : OpenClaim := { program := "ytpjcheenihlagaa", sum := "03d92dad9ec608610e21f4214ddb9560dfa0323f519ed7a999b8bb8fc241e159", func := "hearth/hearthlaw1.FixAll", spec := "fixAll", inPlace := ["math.Float64frombits", "math.Float64bits"], apart := false }
def FixAllSaid : Prop := fixAllRow.holds Try.pinned (OpenSpec.ofChange fixAllSpec)

/-- ITS FALSE NEIGHBOUR: 'it returns false'. Refute it at one input. -/
def fixAllWrong : ChangeSpec := { name := "fixAll", fn := fun _ => fun
  | [d] => { results := [.lit (.bool false)], args := [d] }
  | _ => none }
def FixAllWrongFalsely : Prop := fixAllRow.holds Try.pinned (OpenSpec.ofChange fixAllWrong)

/- THE SECOND FORM. 'bulk': how many values and letters a reading holds, each counted each time it is reached (what is shared counts as often as it is met; a slice's spare places count too). A statement '..UptoSaid' is the law's where the arguments, and the package variables that the reading takes, are together of bulk at most 1048576: NARROWER than '..Said'. Prove '..Said' where nothing that the law and all that it calls make is longer than what came in: it says more and counts as full. Else prove '..UptoSaid'. A law counts once. -/
mutual
def uptoBulk {H : Type} : DataW H → Nat
  | .lit (.string bytes) => bytes.length + 1
  | .lit _ => 1
  | .nil => 1
  | .ptr d => uptoBulk d + 1
  | .slice elems spare => uptoBulkAll elems + uptoBulkAll spare + 1
  | .agg parts => uptoBulkAll parts + 1
  | .iface _ d => uptoBulk d + 1
  | .map entries => uptoBulkEntries entries + 1
  | .held _ => 1
def uptoBulkAll {H : Type} : List (DataW H) → Nat
  | [] => 0
  | d :: r => uptoBulk d + uptoBulkAll r
def uptoBulkEntries {H : Type} : List (Lit × DataW H) → Nat
  | [] => 0
  | x :: r => uptoBulkEntry x + uptoBulkEntries r
def uptoBulkEntry {H : Type} : Lit × DataW H → Nat
  | (.string bytes, d) => bytes.length + uptoBulk d + 1
  | (_, d) => uptoBulk d + 1
 end
def uptoSmall : (H : Type) → List (DataW H) → Bool := fun _ ds => decide (uptoBulkAll ds ≤ 1048576)
def OpenSpec.upto (s : _root_.Go.ChangeSpec) : _root_.Go.OpenSpec := { _root_.Go.OpenSpec.ofChange s with cond := some uptoSmall }

/-- 'hearthlaw1.FixBits', WHERE WHAT IT READS IS OF BULK AT MOST 1048576: true; the input reads as it did. -/
def fixBitsUptoRow : OpenClaim := { program := "ytpjcheenihlagaa", sum := "03d92dad9ec608610e21f4214ddb9560dfa0323f519ed7a999b8bb8fc241e159", func := "hearth/hearthlaw1.FixBits", spec := "fixBits", inPlace := ["math.Float64frombits", "math.Float64bits"], apart := false, narrowed := true }
def FixBitsUptoSaid : Prop := fixBitsUptoRow.holds Try.pinned (OpenSpec.upto fixBitsSpec)

/-- 'hearthlaw1.FixWraps', WHERE WHAT IT READS IS OF BULK AT MOST 1048576: true; the input reads as it did. -/
def fixWrapsUptoRow : OpenClaim := { program := "ytpjcheenihlagaa", sum := "03d92dad9ec608610e21f4214ddb9560dfa0323f519ed7a999b8bb8fc241e159", func := "hearth/hearthlaw1.FixWraps", spec := "fixWraps", inPlace := ["math.Float64frombits", "math.Float64bits"], apart := false, narrowed := true }
def FixWrapsUptoSaid : Prop := fixWrapsUptoRow.holds Try.pinned (OpenSpec.upto fixWrapsSpec)

/-- 'hearthlaw1.FixSums', WHERE WHAT IT READS IS OF BULK AT MOST 1048576: true; the input reads as it did. -/
def fixSumsUptoRow : OpenClaim := { program := "ytpjcheenihlagaa", sum := "03d92dad9ec608610e21f4214ddb9560dfa0323f519ed7a999b8bb8fc241e159", func := "hearth/hearthlaw1.FixSums", spec := "fixSums", inPlace := ["math.Float64frombits", "math.Float64bits"], apart := false, narrowed := true }
def FixSumsUptoSaid : Prop := fixSumsUptoRow.holds Try.pinned (OpenSpec.upto fixSumsSpec)

/-- 'hearthlaw1.FixLess', WHERE WHAT IT READS IS OF BULK AT MOST 1048576: true; the input reads as it did. -/
def fixLessUptoRow : OpenClaim := { program := "ytpjcheenihlagaa", sum := "03d92dad9ec608610e21f4214ddb9560dfa0323f519ed7a999b8bb8fc241e159", func := "hearth/hearthlaw1.FixLess", spec := "fixLess", inPlace := ["math.Float64frombits", "math.Float64bits"], apart := false, narrowed := true }
def FixLessUptoSaid : Prop := fixLessUptoRow.holds Try.pinned (OpenSpec.upto fixLessSpec)

/-- 'hearthlaw1.FixWrapped', WHERE WHAT IT READS IS OF BULK AT MOST 1048576: true; the input reads as it did. -/
def fixWrappedUptoRow : OpenClaim := { program := "ytpjcheenihlagaa", sum := "03d92dad9ec608610e21f4214ddb9560dfa0323f519ed7a999b8bb8fc241e159", func := "hearth/hearthlaw1.FixWrapped", spec := "fixWrapped", inPlace := ["math.Float64frombits", "math.Float64bits"], apart := false, narrowed := true }
def FixWrappedUptoSaid : Prop := fixWrappedUptoRow.holds Try.pinned (OpenSpec.upto fixWrappedSpec)

/-- 'hearthlaw1.FixOrder', WHERE WHAT IT READS IS OF BULK AT MOST 1048576: true; the input reads as it did. -/
def fixOrderUptoRow : OpenClaim := { program := "ytpjcheenihlagaa", sum := "03d92dad9ec608610e21f4214ddb9560dfa0323f519ed7a999b8bb8fc241e159", func := "hearth/hearthlaw1.FixOrder", spec := "fixOrder", inPlace := ["math.Float64frombits", "math.Float64bits"], apart := false, narrowed := true }
def FixOrderUptoSaid : Prop := fixOrderUptoRow.holds Try.pinned (OpenSpec.upto fixOrderSpec)

/-- 'hearthlaw1.FixProducts', WHERE WHAT IT READS IS OF BULK AT MOST 1048576: true; the input reads as it did. -/
def fixProductsUptoRow : OpenClaim := { program := "ytpjcheenihlagaa", sum := "03d92dad9ec608610e21f4214ddb9560dfa0323f519ed7a999b8bb8fc241e159", func := "hearth/hearthlaw1.FixProducts", spec := "fixProducts", inPlace := ["math.Float64frombits", "math.Float64bits"], apart := false, narrowed := true }
def FixProductsUptoSaid : Prop := fixProductsUptoRow.holds Try.pinned (OpenSpec.upto fixProductsSpec)

/-- 'hearthlaw1.FixRing', WHERE WHAT IT READS IS OF BULK AT MOST 1048576: true; the input reads as it did. -/
def fixRingUptoRow : OpenClaim := { program := "ytpjcheenihlagaa", sum := "03d92dad9ec608610e21f4214ddb9560dfa0323f519ed7a999b8bb8fc241e159", func := "hearth/hearthlaw1.FixRing", spec := "fixRing", inPlace := ["math.Float64frombits", "math.Float64bits"], apart := false, narrowed := true }
def FixRingUptoSaid : Prop := fixRingUptoRow.holds Try.pinned (OpenSpec.upto fixRingSpec)

/-- 'hearthlaw1.FixSigns', WHERE WHAT IT READS IS OF BULK AT MOST 1048576: true; the input reads as it did. -/
def fixSignsUptoRow : OpenClaim := { program := "ytpjcheenihlagaa", sum := "03d92dad9ec608610e21f4214ddb9560dfa0323f519ed7a999b8bb8fc241e159", func := "hearth/hearthlaw1.FixSigns", spec := "fixSigns", inPlace := ["math.Float64frombits", "math.Float64bits"], apart := false, narrowed := true }
def FixSignsUptoSaid : Prop := fixSignsUptoRow.holds Try.pinned (OpenSpec.upto fixSignsSpec)

/-- 'hearthlaw1.FixGrows', WHERE WHAT IT READS IS OF BULK AT MOST 1048576: true; the input reads as it did. -/
def fixGrowsUptoRow : OpenClaim := { program := "ytpjcheenihlagaa", sum := "03d92dad9ec608610e21f4214ddb9560dfa0323f519ed7a999b8bb8fc241e159", func := "hearth/hearthlaw1.FixGrows", spec := "fixGrows", inPlace := ["math.Float64frombits", "math.Float64bits"], apart := false, narrowed := true }
def FixGrowsUptoSaid : Prop := fixGrowsUptoRow.holds Try.pinned (OpenSpec.upto fixGrowsSpec)

/-- 'hearthlaw1.FixTurns', WHERE WHAT IT READS IS OF BULK AT MOST 1048576: true; the input reads as it did. -/
def fixTurnsUptoRow : OpenClaim := { program := "ytpjcheenihlagaa", sum := "03d92dad9ec608610e21f4214ddb9560dfa0323f519ed7a999b8bb8fc241e159", func := "hearth/hearthlaw1.FixTurns", spec := "fixTurns", inPlace := ["math.Float64frombits", "math.Float64bits"], apart := false, narrowed := true }
def FixTurnsUptoSaid : Prop := fixTurnsUptoRow.holds Try.pinned (OpenSpec.upto fixTurnsSpec)

/-- 'hearthlaw1.FixNear', WHERE WHAT IT READS IS OF BULK AT MOST 1048576: true; the input reads as it did. -/
def fixNearUptoRow : OpenClaim := { program := "ytpjcheenihlagaa", sum := "03d92dad9ec608610e21f4214ddb9560dfa0323f519ed7a999b8bb8fc241e159", func := "hearth/hearthlaw1.FixNear", spec := "fixNear", inPlace := ["math.Float64bits", "math.Float64frombits"], apart := false, narrowed := true }
def FixNearUptoSaid : Prop := fixNearUptoRow.holds Try.pinned (OpenSpec.upto fixNearSpec)

/-- 'hearthlaw1.FixDivides', WHERE WHAT IT READS IS OF BULK AT MOST 1048576: true; the input reads as it did. -/
def fixDividesUptoRow : OpenClaim := { program := "ytpjcheenihlagaa", sum := "03d92dad9ec608610e21f4214ddb9560dfa0323f519ed7a999b8bb8fc241e159", func := "hearth/hearthlaw1.FixDivides", spec := "fixDivides", inPlace := ["math.Float64frombits", "math.Float64bits"], apart := false, narrowed := true }
def FixDividesUptoSaid : Prop := fixDividesUptoRow.holds Try.pinned (OpenSpec.upto fixDividesSpec)

/-- 'hearthlaw1.FixCuts', WHERE WHAT IT READS IS OF BULK AT MOST 1048576: true; the input reads as it did. -/
def fixCutsUptoRow : OpenClaim := { program := "ytpjcheenihlagaa", sum := "03d92dad9ec608610e21f4214ddb9560dfa0323f519ed7a999b8bb8fc241e159", func := "hearth/hearthlaw1.FixCuts", spec := "fixCuts", inPlace := ["math.Float64frombits", "math.Float64bits"], apart := false, narrowed := true }
def FixCutsUptoSaid : Prop := fixCutsUptoRow.holds Try.pinned (OpenSpec.upto fixCutsSpec)

/-- 'hearthlaw1.FixWhole', WHERE WHAT IT READS IS OF BULK AT MOST 1048576: true; the input reads as it did. -/
def fixWholeUptoRow : OpenClaim := { program := "ytpjcheenihlagaa", sum := "03d92dad9ec608610e21f4214ddb9560dfa0323f519ed7a999b8bb8fc241e159", func := "hearth/hearthlaw1.FixWhole", spec := "fixWhole", inPlace := ["math.Float64frombits", "math.Float64bits"], apart := false, narrowed := true }
def FixWholeUptoSaid : Prop := fixWholeUptoRow.holds Try.pinned (OpenSpec.upto fixWholeSpec)

/-- 'hearthlaw1.FixAll', WHERE WHAT IT READS IS OF BULK AT MOST 1048576: true; the input reads as it did. -/
def fixAllUptoRow : OpenClaim := { program := "ytpjcheenihlagaa", sum := "03d92dad9ec608610e21f4214ddb9560dfa0323f519ed7a999b8bb8fc241e159", func := "hearth/hearthlaw1.FixAll", spec := "fixAll", inPlace := ["math.Float64frombits", "math.Float64bits"], apart := false, narrowed := true }
def FixAllUptoSaid : Prop := fixAllUptoRow.holds Try.pinned (OpenSpec.upto fixAllSpec)

end Rows
end Go.Proofs.Ytpjcheenihlagaa
