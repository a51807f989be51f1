/-
  No cell of these rows narrows 'for every input' (looked for: loops, veiled, ifaces, maps, wideKeys, modest, calm, conditions, laid).
  DERIVED. THE GIVEN ROWS OF THIS SEAT. 20 by the template 'for every input the law returns true; each argument reads behind the call as it read before'; 0 by the template 'total and deterministic' (their statements: YtmnhhcjonephkaaTotals.lean).
  GIVEN WITH THE SEED: the statements are not yours to turn. If you find one false, say at which input.
  Laid BY PROGRAM, IN A SANDBOX (cutbox-rows.mjs): the forced cells as the released guide's own fill.sh prints them over the translation 0f283356a00c584c… (all of the seat's roots in one cut). By AI agents, Wed Nov 11 2026. No macro, syntax, notation, axiom, sorry.
-/
import Derived.Test.YtmnhhcjonephkaaChecked
import GoSem.Claim
import GoSem.ClaimJoined
import GoSem.ClaimMapViews
import Derived.JoinedTies
import Derived.KernelRfl
namespace Go.Proofs.Ytmnhhcjonephkaa
/- THE CELL 'sum', in the pinned program and in every row, IS THE sha256 OF THE DUMP (.gsa) THAT YtmnhhcjonephkaaProg.lean LOADS. Nothing in Lean hashes anything: it is a label: what it is worth is what the hold of that sum in a sandbox is worth. -/
noncomputable def Try.pinned : Pinned := { name := "ytmnhhcjonephkaa", sum := "0f283356a00c584cc48caca377f420486b66324015a0666d06481d8f7c8dd0bd", checked := Try.checked }
namespace Rows
def none {H : Type} : Left H := { results := [], args := [] }

/-- 'hearthlaw5.HeaderMakes': WHATEVER THE INPUT: true; the input reads as it did. -/
def headerMakesSpec : ChangeSpec := { name := "headerMakes", fn := fun _ => fun
  | [d1, d2, d3] => { results := [.lit (.bool true)], args := [d1, d2, d3] }
  | _ => none }
def headerMakesRow : OpenClaim := { program := "ytmnhhcjonephkaa", sum := "0f283356a00c584cc48caca377f420486b66324015a0666d06481d8f7c8dd0bd", func := "hearth/hearthlaw5.HeaderMakes", spec := "headerMakes", apart := false }
def HeaderMakesSaid : Prop := headerMakesRow.holds Try.pinned (OpenSpec.ofChange headerMakesSpec)

/-- ITS FALSE NEIGHBOUR: 'it returns false'. Refute it at one input. -/
def headerMakesWrong : ChangeSpec := { name := "headerMakes", fn := fun _ => fun
  | [d1, d2, d3] => { results := [.lit (.bool false)], args := [d1, d2, d3] }
  | _ => none }
def HeaderMakesWrongFalsely : Prop := headerMakesRow.holds Try.pinned (OpenSpec.ofChange headerMakesWrong)

/-- 'hearthlaw5.HeaderReads': WHATEVER THE INPUT: true; the input reads as it did. -/
def headerReadsSpec : ChangeSpec := { name := "headerReads", fn := fun _ => fun
  | [d1, d2, d3, d4] => { results := [.lit (.bool true)], args := [d1, d2, d3, d4] }
  | _ => none }
def headerReadsRow : OpenClaim := { program := "ytmnhhcjonephkaa", sum := "0f283356a00c584cc48caca377f420486b66324015a0666d06481d8f7c8dd0bd", func := "hearth/hearthlaw5.HeaderReads", spec := "headerReads", apart := false }
def HeaderReadsSaid : Prop := headerReadsRow.holds Try.pinned (OpenSpec.ofChange headerReadsSpec)

/-- ITS FALSE NEIGHBOUR: 'it returns false'. Refute it at one input. -/
def headerReadsWrong : ChangeSpec := { name := "headerReads", fn := fun _ => fun
  | [d1, d2, d3, d4] => { results := [.lit (.bool false)], args := [d1, d2, d3, d4] }
  | _ => none }
def HeaderReadsWrongFalsely : Prop := headerReadsRow.holds Try.pinned (OpenSpec.ofChange headerReadsWrong)

/-- 'hearthlaw5.HeaderAll': WHATEVER THE INPUT: true; the input reads as it did. -/
def headerAllSpec : ChangeSpec := { name := "headerAll", fn := fun _ => fun
  | [d] => { results := [.lit (.bool true)], args := [d] }
  | _ => none }
def headerAllRow : OpenClaim := { program := "ytmnhhcjonephkaa", sum := "0f283356a00c584cc48caca377f420486b66324015a0666d06481d8f7c8dd0bd", func := "hearth/hearthlaw5.HeaderAll", spec := "headerAll", apart := false }
def HeaderAllSaid : Prop := headerAllRow.holds Try.pinned (OpenSpec.ofChange headerAllSpec)

/-- ITS FALSE NEIGHBOUR: 'it returns false'. Refute it at one input. -/
def headerAllWrong : ChangeSpec := { name := "headerAll", fn := fun _ => fun
  | [d] => { results := [.lit (.bool false)], args := [d] }
  | _ => none }
def HeaderAllWrongFalsely : Prop := headerAllRow.holds Try.pinned (OpenSpec.ofChange headerAllWrong)

/-- 'hearthlaw5.HeaderBack': WHATEVER THE INPUT: true; the input reads as it did. -/
def headerBackSpec : ChangeSpec := { name := "headerBack", fn := fun _ => fun
  | [d1, d2, d3, d4] => { results := [.lit (.bool true)], args := [d1, d2, d3, d4] }
  | _ => none }
def headerBackRow : OpenClaim := { program := "ytmnhhcjonephkaa", sum := "0f283356a00c584cc48caca377f420486b66324015a0666d06481d8f7c8dd0bd", func := "hearth/hearthlaw5.HeaderBack", spec := "headerBack", apart := false }
def HeaderBackSaid : Prop := headerBackRow.holds Try.pinned (OpenSpec.ofChange headerBackSpec)

/-- ITS FALSE NEIGHBOUR: 'it returns false'. Refute it at one input. -/
def headerBackWrong : ChangeSpec := { name := "headerBack", fn := fun _ => fun
  | [d1, d2, d3, d4] => { results := [.lit (.bool false)], args := [d1, d2, d3, d4] }
  | _ => none }
def HeaderBackWrongFalsely : Prop := headerBackRow.holds Try.pinned (OpenSpec.ofChange headerBackWrong)

/-- 'hearthlaw5.HeaderUnlike': WHATEVER THE INPUT: true; the input reads as it did. -/
def headerUnlikeSpec : ChangeSpec := { name := "headerUnlike", fn := fun _ => fun
  | [d1, d2, d3, d4, d5, d6] => { results := [.lit (.bool true)], args := [d1, d2, d3, d4, d5, d6] }
  | _ => none }
def headerUnlikeRow : OpenClaim := { program := "ytmnhhcjonephkaa", sum := "0f283356a00c584cc48caca377f420486b66324015a0666d06481d8f7c8dd0bd", func := "hearth/hearthlaw5.HeaderUnlike", spec := "headerUnlike", apart := false }
def HeaderUnlikeSaid : Prop := headerUnlikeRow.holds Try.pinned (OpenSpec.ofChange headerUnlikeSpec)

/-- ITS FALSE NEIGHBOUR: 'it returns false'. Refute it at one input. -/
def headerUnlikeWrong : ChangeSpec := { name := "headerUnlike", fn := fun _ => fun
  | [d1, d2, d3, d4, d5, d6] => { results := [.lit (.bool false)], args := [d1, d2, d3, d4, d5, d6] }
  | _ => none }
def HeaderUnlikeWrongFalsely : Prop := headerUnlikeRow.holds Try.pinned (OpenSpec.ofChange headerUnlikeWrong)

/-- 'hearthlaw5.HeaderTurned': WHATEVER THE INPUT: true; the input reads as it did. -/
def headerTurnedSpec : ChangeSpec := { name := "headerTurned", fn := fun _ => fun
  | [d1, d2, d3, d4] => { results := [.lit (.bool true)], args := [d1, d2, d3, d4] }
  | _ => none }
def headerTurnedRow : OpenClaim := { program := "ytmnhhcjonephkaa", sum := "0f283356a00c584cc48caca377f420486b66324015a0666d06481d8f7c8dd0bd", func := "hearth/hearthlaw5.HeaderTurned", spec := "headerTurned", apart := false }
def HeaderTurnedSaid : Prop := headerTurnedRow.holds Try.pinned (OpenSpec.ofChange headerTurnedSpec)

/-- ITS FALSE NEIGHBOUR: 'it returns false'. Refute it at one input. -/
def headerTurnedWrong : ChangeSpec := { name := "headerTurned", fn := fun _ => fun
  | [d1, d2, d3, d4] => { results := [.lit (.bool false)], args := [d1, d2, d3, d4] }
  | _ => none }
def HeaderTurnedWrongFalsely : Prop := headerTurnedRow.holds Try.pinned (OpenSpec.ofChange headerTurnedWrong)

/-- 'hearthlaw11.HashOf': WHATEVER THE INPUT: true; the input reads as it did. -/
def hashOfSpec : ChangeSpec := { name := "hashOf", fn := fun _ => fun
  | [d] => { results := [.lit (.bool true)], args := [d] }
  | _ => none }
def hashOfRow : OpenClaim := { program := "ytmnhhcjonephkaa", sum := "0f283356a00c584cc48caca377f420486b66324015a0666d06481d8f7c8dd0bd", func := "hearth/hearthlaw11.HashOf", spec := "hashOf", apart := false }
def HashOfSaid : Prop := hashOfRow.holds Try.pinned (OpenSpec.ofChange hashOfSpec)

/-- ITS FALSE NEIGHBOUR: 'it returns false'. Refute it at one input. -/
def hashOfWrong : ChangeSpec := { name := "hashOf", fn := fun _ => fun
  | [d] => { results := [.lit (.bool false)], args := [d] }
  | _ => none }
def HashOfWrongFalsely : Prop := hashOfRow.holds Try.pinned (OpenSpec.ofChange hashOfWrong)

/-- 'hearthlaw11.HashSlots': WHATEVER THE INPUT: true; the input reads as it did. -/
def hashSlotsSpec : ChangeSpec := { name := "hashSlots", fn := fun _ => fun
  | [d] => { results := [.lit (.bool true)], args := [d] }
  | _ => none }
def hashSlotsRow : OpenClaim := { program := "ytmnhhcjonephkaa", sum := "0f283356a00c584cc48caca377f420486b66324015a0666d06481d8f7c8dd0bd", func := "hearth/hearthlaw11.HashSlots", spec := "hashSlots", apart := false }
def HashSlotsSaid : Prop := hashSlotsRow.holds Try.pinned (OpenSpec.ofChange hashSlotsSpec)

/-- ITS FALSE NEIGHBOUR: 'it returns false'. Refute it at one input. -/
def hashSlotsWrong : ChangeSpec := { name := "hashSlots", fn := fun _ => fun
  | [d] => { results := [.lit (.bool false)], args := [d] }
  | _ => none }
def HashSlotsWrongFalsely : Prop := hashSlotsRow.holds Try.pinned (OpenSpec.ofChange hashSlotsWrong)

/-- 'hearthlaw11.HashGrows': WHATEVER THE INPUT: true; the input reads as it did. -/
def hashGrowsSpec : ChangeSpec := { name := "hashGrows", fn := fun _ => fun
  | [d] => { results := [.lit (.bool true)], args := [d] }
  | _ => none }
def hashGrowsRow : OpenClaim := { program := "ytmnhhcjonephkaa", sum := "0f283356a00c584cc48caca377f420486b66324015a0666d06481d8f7c8dd0bd", func := "hearth/hearthlaw11.HashGrows", spec := "hashGrows", apart := false }
def HashGrowsSaid : Prop := hashGrowsRow.holds Try.pinned (OpenSpec.ofChange hashGrowsSpec)

/-- ITS FALSE NEIGHBOUR: 'it returns false'. Refute it at one input. -/
def hashGrowsWrong : ChangeSpec := { name := "hashGrows", fn := fun _ => fun
  | [d] => { results := [.lit (.bool false)], args := [d] }
  | _ => none }
def HashGrowsWrongFalsely : Prop := hashGrowsRow.holds Try.pinned (OpenSpec.ofChange hashGrowsWrong)

/-- 'hearthlaw11.HashDoubles': WHATEVER THE INPUT: true; the input reads as it did. -/
def hashDoublesSpec : ChangeSpec := { name := "hashDoubles", fn := fun _ => fun
  | [d] => { results := [.lit (.bool true)], args := [d] }
  | _ => none }
def hashDoublesRow : OpenClaim := { program := "ytmnhhcjonephkaa", sum := "0f283356a00c584cc48caca377f420486b66324015a0666d06481d8f7c8dd0bd", func := "hearth/hearthlaw11.HashDoubles", spec := "hashDoubles", apart := false }
def HashDoublesSaid : Prop := hashDoublesRow.holds Try.pinned (OpenSpec.ofChange hashDoublesSpec)

/-- ITS FALSE NEIGHBOUR: 'it returns false'. Refute it at one input. -/
def hashDoublesWrong : ChangeSpec := { name := "hashDoubles", fn := fun _ => fun
  | [d] => { results := [.lit (.bool false)], args := [d] }
  | _ => none }
def HashDoublesWrongFalsely : Prop := hashDoublesRow.holds Try.pinned (OpenSpec.ofChange hashDoublesWrong)

/-- 'hearthlaw11.HashAll': WHATEVER THE INPUT: true; the input reads as it did. -/
def hashAllSpec : ChangeSpec := { name := "hashAll", fn := fun _ => fun
  | [d] => { results := [.lit (.bool true)], args := [d] }
  | _ => none }
def hashAllRow : OpenClaim := { program := "ytmnhhcjonephkaa", sum := "0f283356a00c584cc48caca377f420486b66324015a0666d06481d8f7c8dd0bd", func := "hearth/hearthlaw11.HashAll", spec := "hashAll", apart := false }
def HashAllSaid : Prop := hashAllRow.holds Try.pinned (OpenSpec.ofChange hashAllSpec)

/-- ITS FALSE NEIGHBOUR: 'it returns false'. Refute it at one input. -/
def hashAllWrong : ChangeSpec := { name := "hashAll", fn := fun _ => fun
  | [d] => { results := [.lit (.bool false)], args := [d] }
  | _ => none }
def HashAllWrongFalsely : Prop := hashAllRow.holds Try.pinned (OpenSpec.ofChange hashAllWrong)

/-- 'hearthlaw2.ValueWords': WHATEVER THE INPUT: true; the input reads as it did. -/
def valueWordsSpec : ChangeSpec := { name := "valueWords", fn := fun _ => fun
  | [d] => { results := [.lit (.bool true)], args := [d] }
  | _ => none }
def valueWordsRow : OpenClaim := { program := "ytmnhhcjonephkaa", sum := "0f283356a00c584cc48caca377f420486b66324015a0666d06481d8f7c8dd0bd", func := "hearth/hearthlaw2.ValueWords", spec := "valueWords", apart := false }
def ValueWordsSaid : Prop := valueWordsRow.holds Try.pinned (OpenSpec.ofChange valueWordsSpec)

/-- ITS FALSE NEIGHBOUR: 'it returns false'. Refute it at one input. -/
def valueWordsWrong : ChangeSpec := { name := "valueWords", fn := fun _ => fun
  | [d] => { results := [.lit (.bool false)], args := [d] }
  | _ => none }
def ValueWordsWrongFalsely : Prop := valueWordsRow.holds Try.pinned (OpenSpec.ofChange valueWordsWrong)

/-- 'hearthlaw2.ValueBack': WHATEVER THE INPUT: true; the input reads as it did. -/
def valueBackSpec : ChangeSpec := { name := "valueBack", fn := fun _ => fun
  | [d1, d2, d3] => { results := [.lit (.bool true)], args := [d1, d2, d3] }
  | _ => none }
def valueBackRow : OpenClaim := { program := "ytmnhhcjonephkaa", sum := "0f283356a00c584cc48caca377f420486b66324015a0666d06481d8f7c8dd0bd", func := "hearth/hearthlaw2.ValueBack", spec := "valueBack", apart := false }
def ValueBackSaid : Prop := valueBackRow.holds Try.pinned (OpenSpec.ofChange valueBackSpec)

/-- ITS FALSE NEIGHBOUR: 'it returns false'. Refute it at one input. -/
def valueBackWrong : ChangeSpec := { name := "valueBack", fn := fun _ => fun
  | [d1, d2, d3] => { results := [.lit (.bool false)], args := [d1, d2, d3] }
  | _ => none }
def ValueBackWrongFalsely : Prop := valueBackRow.holds Try.pinned (OpenSpec.ofChange valueBackWrong)

/-- 'hearthlaw2.ValueMakes': WHATEVER THE INPUT: true; the input reads as it did. -/
def valueMakesSpec : ChangeSpec := { name := "valueMakes", fn := fun _ => fun
  | [d] => { results := [.lit (.bool true)], args := [d] }
  | _ => none }
def valueMakesRow : OpenClaim := { program := "ytmnhhcjonephkaa", sum := "0f283356a00c584cc48caca377f420486b66324015a0666d06481d8f7c8dd0bd", func := "hearth/hearthlaw2.ValueMakes", spec := "valueMakes", apart := false }
def ValueMakesSaid : Prop := valueMakesRow.holds Try.pinned (OpenSpec.ofChange valueMakesSpec)

/-- ITS FALSE NEIGHBOUR: 'it returns false'. Refute it at one input. -/
def valueMakesWrong : ChangeSpec := { name := "valueMakes", fn := fun _ => fun
  | [d] => { results := [.lit (.bool false)], args := [d] }
  | _ => none }
def ValueMakesWrongFalsely : Prop := valueMakesRow.holds Try.pinned (OpenSpec.ofChange valueMakesWrong)

/-- 'hearthlaw2.ValueLess': WHATEVER THE INPUT: true; the input reads as it did. -/
def valueLessSpec : ChangeSpec := { name := "valueLess", fn := fun _ => fun
  | [d1, d2] => { results := [.lit (.bool true)], args := [d1, d2] }
  | _ => none }
def valueLessRow : OpenClaim := { program := "ytmnhhcjonephkaa", sum := "0f283356a00c584cc48caca377f420486b66324015a0666d06481d8f7c8dd0bd", func := "hearth/hearthlaw2.ValueLess", spec := "valueLess", apart := false }
def ValueLessSaid : Prop := valueLessRow.holds Try.pinned (OpenSpec.ofChange valueLessSpec)

/-- ITS FALSE NEIGHBOUR: 'it returns false'. Refute it at one input. -/
def valueLessWrong : ChangeSpec := { name := "valueLess", fn := fun _ => fun
  | [d1, d2] => { results := [.lit (.bool false)], args := [d1, d2] }
  | _ => none }
def ValueLessWrongFalsely : Prop := valueLessRow.holds Try.pinned (OpenSpec.ofChange valueLessWrong)

/-- 'hearthlaw2.ValueOrder': WHATEVER THE INPUT: true; the input reads as it did. -/
def valueOrderSpec : ChangeSpec := { name := "valueOrder", fn := fun _ => fun
  | [d1, d2, d3] => { results := [.lit (.bool true)], args := [d1, d2, d3] }
  | _ => none }
def valueOrderRow : OpenClaim := { program := "ytmnhhcjonephkaa", sum := "0f283356a00c584cc48caca377f420486b66324015a0666d06481d8f7c8dd0bd", func := "hearth/hearthlaw2.ValueOrder", spec := "valueOrder", apart := false }
def ValueOrderSaid : Prop := valueOrderRow.holds Try.pinned (OpenSpec.ofChange valueOrderSpec)

/-- ITS FALSE NEIGHBOUR: 'it returns false'. Refute it at one input. -/
def valueOrderWrong : ChangeSpec := { name := "valueOrder", fn := fun _ => fun
  | [d1, d2, d3] => { results := [.lit (.bool false)], args := [d1, d2, d3] }
  | _ => none }
def ValueOrderWrongFalsely : Prop := valueOrderRow.holds Try.pinned (OpenSpec.ofChange valueOrderWrong)

/-- 'hearthlaw2.ValueReads': WHATEVER THE INPUT: true; the input reads as it did. -/
def valueReadsSpec : ChangeSpec := { name := "valueReads", fn := fun _ => fun
  | [d] => { results := [.lit (.bool true)], args := [d] }
  | _ => none }
def valueReadsRow : OpenClaim := { program := "ytmnhhcjonephkaa", sum := "0f283356a00c584cc48caca377f420486b66324015a0666d06481d8f7c8dd0bd", func := "hearth/hearthlaw2.ValueReads", spec := "valueReads", apart := false }
def ValueReadsSaid : Prop := valueReadsRow.holds Try.pinned (OpenSpec.ofChange valueReadsSpec)

/-- ITS FALSE NEIGHBOUR: 'it returns false'. Refute it at one input. -/
def valueReadsWrong : ChangeSpec := { name := "valueReads", fn := fun _ => fun
  | [d] => { results := [.lit (.bool false)], args := [d] }
  | _ => none }
def ValueReadsWrongFalsely : Prop := valueReadsRow.holds Try.pinned (OpenSpec.ofChange valueReadsWrong)

/-- 'hearthlaw2.ValueLinks': WHATEVER THE INPUT: true; the input reads as it did. -/
def valueLinksSpec : ChangeSpec := { name := "valueLinks", fn := fun _ => fun
  | [d] => { results := [.lit (.bool true)], args := [d] }
  | _ => none }
def valueLinksRow : OpenClaim := { program := "ytmnhhcjonephkaa", sum := "0f283356a00c584cc48caca377f420486b66324015a0666d06481d8f7c8dd0bd", func := "hearth/hearthlaw2.ValueLinks", spec := "valueLinks", apart := false }
def ValueLinksSaid : Prop := valueLinksRow.holds Try.pinned (OpenSpec.ofChange valueLinksSpec)

/-- ITS FALSE NEIGHBOUR: 'it returns false'. Refute it at one input. -/
def valueLinksWrong : ChangeSpec := { name := "valueLinks", fn := fun _ => fun
  | [d] => { results := [.lit (.bool false)], args := [d] }
  | _ => none }
def ValueLinksWrongFalsely : Prop := valueLinksRow.holds Try.pinned (OpenSpec.ofChange valueLinksWrong)

/-- 'hearthlaw2.ValueSorts': WHATEVER THE INPUT: true; the input reads as it did. -/
def valueSortsSpec : ChangeSpec := { name := "valueSorts", fn := fun _ => fun
  | [d] => { results := [.lit (.bool true)], args := [d] }
  | _ => none }
def valueSortsRow : OpenClaim := { program := "ytmnhhcjonephkaa", sum := "0f283356a00c584cc48caca377f420486b66324015a0666d06481d8f7c8dd0bd", func := "hearth/hearthlaw2.ValueSorts", spec := "valueSorts", apart := false }
def ValueSortsSaid : Prop := valueSortsRow.holds Try.pinned (OpenSpec.ofChange valueSortsSpec)

/-- ITS FALSE NEIGHBOUR: 'it returns false'. Refute it at one input. -/
def valueSortsWrong : ChangeSpec := { name := "valueSorts", fn := fun _ => fun
  | [d] => { results := [.lit (.bool false)], args := [d] }
  | _ => none }
def ValueSortsWrongFalsely : Prop := valueSortsRow.holds Try.pinned (OpenSpec.ofChange valueSortsWrong)

/-- 'hearthlaw2.ValueAll': WHATEVER THE INPUT: true; the input reads as it did. -/
def valueAllSpec : ChangeSpec := { name := "valueAll", fn := fun _ => fun
  | [d] => { results := [.lit (.bool true)], args := [d] }
  | _ => none }
def valueAllRow : OpenClaim := { program := "ytmnhhcjonephkaa", sum := "0f283356a00c584cc48caca377f420486b66324015a0666d06481d8f7c8dd0bd", func := "hearth/hearthlaw2.ValueAll", spec := "valueAll", apart := false }
def ValueAllSaid : Prop := valueAllRow.holds Try.pinned (OpenSpec.ofChange valueAllSpec)

/-- ITS FALSE NEIGHBOUR: 'it returns false'. Refute it at one input. -/
def valueAllWrong : ChangeSpec := { name := "valueAll", fn := fun _ => fun
  | [d] => { results := [.lit (.bool false)], args := [d] }
  | _ => none }
def ValueAllWrongFalsely : Prop := valueAllRow.holds Try.pinned (OpenSpec.ofChange valueAllWrong)

/- THE SECOND FORM. 'bulk': how many values and letters a reading holds, each counted each time it is reached (what is shared counts as often as it is met; a slice's spare places count too). A statement '..UptoSaid' is the law's where the arguments, and the package variables that the reading takes, are together of bulk at most 1048576: NARROWER than '..Said'. Prove '..Said' where nothing that the law and all that it calls make is longer than what came in: it says more and counts as full. Else prove '..UptoSaid'. A law counts once. -/
mutual
def uptoBulk {H : Type} : DataW H → Nat
  | .lit (.string bytes) => bytes.length + 1
  | .lit _ => 1
  | .nil => 1
  | .ptr d => uptoBulk d + 1
  | .slice elems spare => uptoBulkAll elems + uptoBulkAll spare + 1
  | .agg parts => uptoBulkAll parts + 1
  | .iface _ d => uptoBulk d + 1
  | .map entries => uptoBulkEntries entries + 1
  | .held _ => 1
def uptoBulkAll {H : Type} : List (DataW H) → Nat
  | [] => 0
  | d :: r => uptoBulk d + uptoBulkAll r
def uptoBulkEntries {H : Type} : List (Lit × DataW H) → Nat
  | [] => 0
  | x :: r => uptoBulkEntry x + uptoBulkEntries r
def uptoBulkEntry {H : Type} : Lit × DataW H → Nat
  | (.string bytes, d) => bytes.length + uptoBulk d + 1
  | (_, d) => uptoBulk d + 1
 end
def uptoSmall : (H : Type) → List (DataW H) → Bool := fun _ ds => decide (uptoBulkAll ds ≤ 1048576)
def OpenSpec.upto (s : _root_.Go.ChangeSpec) : _root_.Go.OpenSpec := { _root_.Go.OpenSpec.ofChange s with cond := some uptoSmall }

/-- 'hearthlaw5.HeaderMakes', WHERE WHAT IT READS IS OF BULK AT MOST 1048576: true; the input reads as it did. -/
def headerMakesUptoRow : OpenClaim := { program := "ytmnhhcjonephkaa", sum := "0f283356a00c584cc48caca377f420486b66324015a0666d06481d8f7c8dd0bd", func := "hearth/hearthlaw5.HeaderMakes", spec := "headerMakes", apart := false, narrowed := true }
def HeaderMakesUptoSaid : Prop := headerMakesUptoRow.holds Try.pinned (OpenSpec.upto headerMakesSpec)

/-- 'hearthlaw5.HeaderReads', WHERE WHAT IT READS IS OF BULK AT MOST 1048576: true; the input reads as it did. -/
def headerReadsUptoRow : OpenClaim := { program := "ytmnhhcjonephkaa", sum := "0f283356a00c584cc48caca377f420486b66324015a0666d06481d8f7c8dd0bd", func := "hearth/hearthlaw5.HeaderReads", spec := "headerReads", apart := false, narrowed := true }
def HeaderReadsUptoSaid : Prop := headerReadsUptoRow.holds Try.pinned (OpenSpec.upto headerReadsSpec)

/-- 'hearthlaw5.HeaderAll', WHERE WHAT IT READS IS OF BULK AT MOST 1048576: true; the input reads as it did. -/
def headerAllUptoRow : OpenClaim := { program := "ytmnhhcjonephkaa", sum := "0f283356a00c584cc48caca377f420486b66324015a0666d06481d8f7c8dd0bd", func := "hearth/hearthlaw5.HeaderAll", spec := "headerAll", apart := false, narrowed := true }
def HeaderAllUptoSaid : Prop := headerAllUptoRow.holds Try.pinned (OpenSpec.upto headerAllSpec)

/-- 'hearthlaw5.HeaderBack', WHERE WHAT IT READS IS OF BULK AT MOST 1048576: true; the input reads as it did. -/
def headerBackUptoRow : OpenClaim := { program := "ytmnhhcjonephkaa", sum := "0f283356a00c584cc48caca377f420486b66324015a0666d06481d8f7c8dd0bd", func := "hearth/hearthlaw5.HeaderBack", spec := "headerBack", apart := false, narrowed := true }
def HeaderBackUptoSaid : Prop := headerBackUptoRow.holds Try.pinned (OpenSpec.upto headerBackSpec)

/-- 'hearthlaw5.HeaderUnlike', WHERE WHAT IT READS IS OF BULK AT MOST 1048576: true; the input reads as it did. -/
def headerUnlikeUptoRow : OpenClaim := { program := "ytmnhhcjonephkaa", sum := "0f283356a00c584cc48caca377f420486b66324015a0666d06481d8f7c8dd0bd", func := "hearth/hearthlaw5.HeaderUnlike", spec := "headerUnlike", apart := false, narrowed := true }
def HeaderUnlikeUptoSaid : Prop := headerUnlikeUptoRow.holds Try.pinned (OpenSpec.upto headerUnlikeSpec)

/-- 'hearthlaw5.HeaderTurned', WHERE WHAT IT READS IS OF BULK AT MOST 1048576: true; the input reads as it did. -/
def headerTurnedUptoRow : OpenClaim := { program := "ytmnhhcjonephkaa", sum := "0f283356a00c584cc48caca377f420486b66324015a0666d06481d8f7c8dd0bd", func := "hearth/hearthlaw5.HeaderTurned", spec := "headerTurned", apart := false, narrowed := true }
def HeaderTurnedUptoSaid : Prop := headerTurnedUptoRow.holds Try.pinned (OpenSpec.upto headerTurnedSpec)

/-- 'hearthlaw11.HashOf', WHERE WHAT IT READS IS OF BULK AT MOST 1048576: true; the input reads as it did. -/
def hashOfUptoRow : OpenClaim := { program := "ytmnhhcjonephkaa", sum := "0f283356a00c584cc48caca377f420486b66324015a0666d06481d8f7c8dd0bd", func := "hearth/hearthlaw11.HashOf", spec := "hashOf", apart := false, narrowed := true }
def HashOfUptoSaid : Prop := hashOfUptoRow.holds Try.pinned (OpenSpec.upto hashOfSpec)

/-- 'hearthlaw11.HashSlots', WHERE WHAT IT READS IS OF BULK AT MOST 1048576: true; the input reads as it did. -/
def hashSlotsUptoRow : OpenClaim := { program := "ytmnhhcjonephkaa", sum := "0f283356a00c584cc48caca377f420486b66324015a0666d06481d8f7c8dd0bd", func := "hearth/hearthlaw11.HashSlots", spec := "hashSlots", apart := false, narrowed := true }
def HashSlotsUptoSaid : Prop := hashSlotsUptoRow.holds Try.pinned (OpenSpec.upto hashSlotsSpec)

/-- 'hearthlaw11.HashGrows', WHERE WHAT IT READS IS OF BULK AT MOST 1048576: true; the input reads as it did. -/
def hashGrowsUptoRow : OpenClaim := { program := "ytmnhhcjonephkaa", sum := "0f283356a00c584cc48caca377f420486b66324015a0666d06481d8f7c8dd0bd", func := "hearth/hearthlaw11.HashGrows", spec := "hashGrows", apart := false, narrowed := true }
def HashGrowsUptoSaid : Prop := hashGrowsUptoRow.holds Try.pinned (OpenSpec.upto hashGrowsSpec)

/-- 'hearthlaw11.HashDoubles', WHERE WHAT IT READS IS OF BULK AT MOST 1048576: true; the input reads as it did. -/
def hashDoublesUptoRow : OpenClaim := { program := "ytmnhhcjonephkaa", sum := "0f283356a00c584cc48caca377f420486b66324015a0666d06481d8f7c8dd0bd", func := "hearth/hearthlaw11.HashDoubles", spec := "hashDoubles", apart := false, narrowed := true }
def HashDoublesUptoSaid : Prop := hashDoublesUptoRow.holds Try.pinned (OpenSpec.upto hashDoublesSpec)

/-- 'hearthlaw11.HashAll', WHERE WHAT IT READS IS OF BULK AT MOST 1048576: true; the input reads as it did. -/
def hashAllUptoRow : OpenClaim := { program := "ytmnhhcjonephkaa", sum := "0f283356a00c584cc48caca377f420486b66324015a0666d06481d8f7c8dd0bd", func := "hearth/hearthlaw11.HashAll", spec := "hashAll", apart := false, narrowed := true }
def HashAllUptoSaid : Prop := hashAllUptoRow.holds Try.pinned (OpenSpec.upto hashAllSpec)

/-- 'hearthlaw2.ValueWords', WHERE WHAT IT READS IS OF BULK AT MOST 1048576: true; the input reads as it did. -/
def valueWordsUptoRow : OpenClaim := { program := "ytmnhhcjonephkaa", sum := "0f283356a00c584cc48caca377f420486b66324015a0666d06481d8f7c8dd0bd", func := "hearth/hearthlaw2.ValueWords", spec := "valueWords", apart := false, narrowed := true }
def ValueWordsUptoSaid : Prop := valueWordsUptoRow.holds Try.pinned (OpenSpec.upto valueWordsSpec)

/-- 'hearthlaw2.ValueBack', WHERE WHAT IT READS IS OF BULK AT MOST 1048576: true; the input reads as it did. -/
def valueBackUptoRow : OpenClaim := { program := "ytmnhhcjonephkaa", sum := "0f283356a00c584cc48caca377f420486b66324015a0666d06481d8f7c8dd0bd", func := "hearth/hearthlaw2.ValueBack", spec := "valueBack", apart := false, narrowed := true }
def ValueBackUptoSaid : Prop := valueBackUptoRow.holds Try.pinned (OpenSpec.upto valueBackSpec)

/-- 'hearthlaw2.ValueMakes', WHERE WHAT IT READS IS OF BULK AT MOST 1048576: true; the input reads as it did. -/
def valueMakesUptoRow : OpenClaim := { program := "ytmnhhcjonephkaa", sum := "0f283356a00c584cc48caca377f420486b66324015a0666d06481d8f7c8dd0bd", func := "hearth/hearthlaw2.ValueMakes", spec := "valueMakes", apart := false, narrowed := true }
def ValueMakesUptoSaid : Prop := valueMakesUptoRow.holds Try.pinned (OpenSpec.upto valueMakesSpec)

/-- 'hearthlaw2.ValueLess', WHERE WHAT IT READS IS OF BULK AT MOST 1048576: true; the input reads as it did. -/
def valueLessUptoRow : OpenClaim := { program := "ytmnhhcjonephkaa", sum := "0f283356a00c584cc48caca377f420486b66324015a0666d06481d8f7c8dd0bd", func := "hearth/hearthlaw2.ValueLess", spec := "valueLess", apart := false, narrowed := true }
def ValueLessUptoSaid : Prop := valueLessUptoRow.holds Try.pinned (OpenSpec.upto valueLessSpec)

/-- 'hearthlaw2.ValueOrder', WHERE WHAT IT READS IS OF BULK AT MOST 1048576: true; the input reads as it did. -/
def valueOrderUptoRow : OpenClaim := { program := "ytmnhhcjonephkaa", sum := "0f283356a00c584cc48caca377f420486b66324015a0666d06481d8f7c8dd0bd", func := "hearth/hearthlaw2.ValueOrder", spec := "valueOrder", apart := false, narrowed := true }
def ValueOrderUptoSaid : Prop := valueOrderUptoRow.holds Try.pinned (OpenSpec.upto valueOrderSpec)

/-- 'hearthlaw2.ValueReads', WHERE WHAT IT READS IS OF BULK AT MOST 1048576: true; the input reads as it did. -/
def valueReadsUptoRow : OpenClaim := { program := "ytmnhhcjonephkaa", sum := "0f283356a00c584cc48caca377f420486b66324015a0666d06481d8f7c8dd0bd", func := "hearth/hearthlaw2.ValueReads", spec := "valueReads", apart := false, narrowed := true }
def ValueReadsUptoSaid : Prop := valueReadsUptoRow.holds Try.pinned (OpenSpec.upto valueReadsSpec)

/-- 'hearthlaw2.ValueLinks', WHERE WHAT IT READS IS OF BULK AT MOST 1048576: true; the input reads as it did. -/
def valueLinksUptoRow : OpenClaim := { program := "ytmnhhcjonephkaa", sum := "0f283356a00c584cc48caca377f420486b66324015a0666d06481d8f7c8dd0bd", func := "hearth/hearthlaw2.ValueLinks", spec := "valueLinks", apart := false, narrowed := true }
def ValueLinksUptoSaid : Prop := valueLinksUptoRow.holds Try.pinned (OpenSpec.upto valueLinksSpec)

/-- 'hearthlaw2.ValueSorts', WHERE WHAT IT READS IS OF BULK AT MOST 1048576: true; the input reads as it did. -/
def valueSortsUptoRow : OpenClaim := { program := "ytmnhhcjonephkaa", sum := "0f283356a00c584cc48caca377f420486b66324015a0666d06481d8f7c8dd0bd", func := "hearth/hearthlaw2.ValueSorts", spec := "valueSorts", apart := false, narrowed := true }
def ValueSortsUptoSaid : Prop := valueSortsUptoRow.holds Try.pinned (OpenSpec.upto valueSortsSpec)

/-- 'hearthlaw2.ValueAll', WHERE WHAT IT READS IS OF BULK AT MOST 1048576: true; the input reads as it did. -/
def valueAllUptoRow : OpenClaim := { program := "ytmnhhcjonephkaa", sum := "0f283356a00c584cc48caca377f420486b66324015a0666d06481d8f7c8dd0bd", func := "hearth/hearthlaw2.ValueAll", spec := "valueAll", apart := false, narrowed := true }
def ValueAllUptoSaid : Prop := valueAllUptoRow.holds Try.pinned (OpenSpec.upto valueAllSpec)

end Rows
end Go.Proofs.Ytmnhhcjonephkaa
