/-
  No cell of these rows narrows 'for every input' (looked for: loops, veiled, ifaces, maps, wideKeys, modest, calm, conditions, laid).
  DERIVED. THE GIVEN ROWS OF THIS SEAT. 11 by the template 'for every input the law returns true; each argument reads behind the call as it read before'; 0 by the template 'total and deterministic' (their statements: YtohmipmioaceeaaTotals.lean).
  GIVEN WITH THE SEED: the statements are not yours to turn. If you find one false, say at which input.
  Laid BY PROGRAM, IN A SANDBOX (cutbox-rows.mjs): the forced cells as the released guide's own fill.sh prints them over the translation 8c70b8b35b5b3451… (all of the seat's roots in one cut). By AI agents, Wed Nov 11 2026. No macro, syntax, notation, axiom, sorry.
-/
import Derived.Test.YtohmipmioaceeaaChecked
import GoSem.Claim
import GoSem.ClaimJoined
import GoSem.ClaimMapViews
import Derived.JoinedTies
import Derived.KernelRfl
namespace Go.Proofs.Ytohmipmioaceeaa
/- THE CELL 'sum', in the pinned program and in every row, IS THE sha256 OF THE DUMP (.gsa) THAT YtohmipmioaceeaaProg.lean LOADS. Nothing in Lean hashes anything: it is a label: what it is worth is what the hold of that sum in a sandbox is worth. -/
noncomputable def Try.pinned : Pinned := { name := "ytohmipmioaceeaa", sum := "8c70b8b35b5b34514effff7a49858c72389a6b2dcce8673af47837e73e66642a", checked := Try.checked }
namespace Rows
def none {H : Type} : Left H := { results := [], args := [] }

/-- 'grottolaw13.FindFirst': WHATEVER THE INPUT: true; the input reads as it did. -/
def findFirstSpec : ChangeSpec := { name := "findFirst", fn := fun _ => fun
  | [d1, d2, d3] => { results := [.lit (.bool true)], args := [d1, d2, d3] }
  | _ => none }
def findFirstRow : OpenClaim := { program := "ytohmipmioaceeaa", sum := "8c70b8b35b5b34514effff7a49858c72389a6b2dcce8673af47837e73e66642a", func := "grotto/grottolaw13.FindFirst", spec := "findFirst", inPlace := ["internal/bytealg.Compare"], unfollowed := true, recurses := true, apart := false }
def FindFirstSaid : Prop := findFirstRow.holds Try.pinned (OpenSpec.ofChange findFirstSpec)

/-- ITS FALSE NEIGHBOUR: 'it returns false'. Refute it at one input. -/
def findFirstWrong : ChangeSpec := { name := "findFirst", fn := fun _ => fun
  | [d1, d2, d3] => { results := [.lit (.bool false)], args := [d1, d2, d3] }
  | _ => none }
def FindFirstWrongFalsely : Prop := findFirstRow.holds Try.pinned (OpenSpec.ofChange findFirstWrong)

/-- 'grottolaw13.FindHalves': WHATEVER THE INPUT: true; the input reads as it did. -/
def findHalvesSpec : ChangeSpec := { name := "findHalves", fn := fun _ => fun
  | [d1, d2, d3] => { results := [.lit (.bool true)], args := [d1, d2, d3] }
  | _ => none }
def findHalvesRow : OpenClaim := { program := "ytohmipmioaceeaa", sum := "8c70b8b35b5b34514effff7a49858c72389a6b2dcce8673af47837e73e66642a", func := "grotto/grottolaw13.FindHalves", spec := "findHalves", inPlace := ["internal/bytealg.Compare"], unfollowed := true, recurses := true, apart := false }
def FindHalvesSaid : Prop := findHalvesRow.holds Try.pinned (OpenSpec.ofChange findHalvesSpec)

/-- ITS FALSE NEIGHBOUR: 'it returns false'. Refute it at one input. -/
def findHalvesWrong : ChangeSpec := { name := "findHalves", fn := fun _ => fun
  | [d1, d2, d3] => { results := [.lit (.bool false)], args := [d1, d2, d3] }
  | _ => none }
def FindHalvesWrongFalsely : Prop := findHalvesRow.holds Try.pinned (OpenSpec.ofChange findHalvesWrong)

/-- 'grottolaw13.FindLinks': WHATEVER THE INPUT: true; the input reads as it did. -/
def findLinksSpec : ChangeSpec := { name := "findLinks", fn := fun _ => fun
  | [d1, d2, d3] => { results := [.lit (.bool true)], args := [d1, d2, d3] }
  | _ => none }
def findLinksRow : OpenClaim := { program := "ytohmipmioaceeaa", sum := "8c70b8b35b5b34514effff7a49858c72389a6b2dcce8673af47837e73e66642a", func := "grotto/grottolaw13.FindLinks", spec := "findLinks", inPlace := ["internal/bytealg.Compare"], unfollowed := true, recurses := true, apart := false }
def FindLinksSaid : Prop := findLinksRow.holds Try.pinned (OpenSpec.ofChange findLinksSpec)

/-- ITS FALSE NEIGHBOUR: 'it returns false'. Refute it at one input. -/
def findLinksWrong : ChangeSpec := { name := "findLinks", fn := fun _ => fun
  | [d1, d2, d3] => { results := [.lit (.bool false)], args := [d1, d2, d3] }
  | _ => none }
def FindLinksWrongFalsely : Prop := findLinksRow.holds Try.pinned (OpenSpec.ofChange findLinksWrong)

/-- 'grottolaw13.FindRings': WHATEVER THE INPUT: true; the input reads as it did. -/
def findRingsSpec : ChangeSpec := { name := "findRings", fn := fun _ => fun
  | [d1, d2, d3] => { results := [.lit (.bool true)], args := [d1, d2, d3] }
  | _ => none }
def findRingsRow : OpenClaim := { program := "ytohmipmioaceeaa", sum := "8c70b8b35b5b34514effff7a49858c72389a6b2dcce8673af47837e73e66642a", func := "grotto/grottolaw13.FindRings", spec := "findRings", inPlace := ["internal/bytealg.Compare"], unfollowed := true, recurses := true, apart := false }
def FindRingsSaid : Prop := findRingsRow.holds Try.pinned (OpenSpec.ofChange findRingsSpec)

/-- ITS FALSE NEIGHBOUR: 'it returns false'. Refute it at one input. -/
def findRingsWrong : ChangeSpec := { name := "findRings", fn := fun _ => fun
  | [d1, d2, d3] => { results := [.lit (.bool false)], args := [d1, d2, d3] }
  | _ => none }
def FindRingsWrongFalsely : Prop := findRingsRow.holds Try.pinned (OpenSpec.ofChange findRingsWrong)

/-- 'grottolaw13.FindSpans': WHATEVER THE INPUT: true; the input reads as it did. -/
def findSpansSpec : ChangeSpec := { name := "findSpans", fn := fun _ => fun
  | [d1, d2, d3, d4] => { results := [.lit (.bool true)], args := [d1, d2, d3, d4] }
  | _ => none }
def findSpansRow : OpenClaim := { program := "ytohmipmioaceeaa", sum := "8c70b8b35b5b34514effff7a49858c72389a6b2dcce8673af47837e73e66642a", func := "grotto/grottolaw13.FindSpans", spec := "findSpans", inPlace := ["internal/bytealg.Compare"], unfollowed := true, recurses := true, apart := false }
def FindSpansSaid : Prop := findSpansRow.holds Try.pinned (OpenSpec.ofChange findSpansSpec)

/-- ITS FALSE NEIGHBOUR: 'it returns false'. Refute it at one input. -/
def findSpansWrong : ChangeSpec := { name := "findSpans", fn := fun _ => fun
  | [d1, d2, d3, d4] => { results := [.lit (.bool false)], args := [d1, d2, d3, d4] }
  | _ => none }
def FindSpansWrongFalsely : Prop := findSpansRow.holds Try.pinned (OpenSpec.ofChange findSpansWrong)

/-- 'grottolaw13.FindNil': WHATEVER THE INPUT: true; the input reads as it did. -/
def findNilSpec : ChangeSpec := { name := "findNil", fn := fun _ => fun
  | [d] => { results := [.lit (.bool true)], args := [d] }
  | _ => none }
def findNilRow : OpenClaim := { program := "ytohmipmioaceeaa", sum := "8c70b8b35b5b34514effff7a49858c72389a6b2dcce8673af47837e73e66642a", func := "grotto/grottolaw13.FindNil", spec := "findNil", inPlace := ["internal/bytealg.Compare"], unfollowed := true, recurses := true, apart := false }
def FindNilSaid : Prop := findNilRow.holds Try.pinned (OpenSpec.ofChange findNilSpec)

/-- ITS FALSE NEIGHBOUR: 'it returns false'. Refute it at one input. -/
def findNilWrong : ChangeSpec := { name := "findNil", fn := fun _ => fun
  | [d] => { results := [.lit (.bool false)], args := [d] }
  | _ => none }
def FindNilWrongFalsely : Prop := findNilRow.holds Try.pinned (OpenSpec.ofChange findNilWrong)

/-- 'grottolaw13.FindSteps': WHATEVER THE INPUT: true; the input reads as it did. -/
def findStepsSpec : ChangeSpec := { name := "findSteps", fn := fun _ => fun
  | [d1, d2, d3, d4] => { results := [.lit (.bool true)], args := [d1, d2, d3, d4] }
  | _ => none }
def findStepsRow : OpenClaim := { program := "ytohmipmioaceeaa", sum := "8c70b8b35b5b34514effff7a49858c72389a6b2dcce8673af47837e73e66642a", func := "grotto/grottolaw13.FindSteps", spec := "findSteps", inPlace := ["internal/bytealg.Compare"], unfollowed := true, recurses := true, apart := false }
def FindStepsSaid : Prop := findStepsRow.holds Try.pinned (OpenSpec.ofChange findStepsSpec)

/-- ITS FALSE NEIGHBOUR: 'it returns false'. Refute it at one input. -/
def findStepsWrong : ChangeSpec := { name := "findSteps", fn := fun _ => fun
  | [d1, d2, d3, d4] => { results := [.lit (.bool false)], args := [d1, d2, d3, d4] }
  | _ => none }
def FindStepsWrongFalsely : Prop := findStepsRow.holds Try.pinned (OpenSpec.ofChange findStepsWrong)

/-- 'grottolaw13.FindKeys': WHATEVER THE INPUT: true; the input reads as it did. -/
def findKeysSpec : ChangeSpec := { name := "findKeys", fn := fun _ => fun
  | [d1, d2] => { results := [.lit (.bool true)], args := [d1, d2] }
  | _ => none }
def findKeysRow : OpenClaim := { program := "ytohmipmioaceeaa", sum := "8c70b8b35b5b34514effff7a49858c72389a6b2dcce8673af47837e73e66642a", func := "grotto/grottolaw13.FindKeys", spec := "findKeys", inPlace := ["internal/bytealg.Compare"], unfollowed := true, recurses := true, apart := false }
def FindKeysSaid : Prop := findKeysRow.holds Try.pinned (OpenSpec.ofChange findKeysSpec)

/-- ITS FALSE NEIGHBOUR: 'it returns false'. Refute it at one input. -/
def findKeysWrong : ChangeSpec := { name := "findKeys", fn := fun _ => fun
  | [d1, d2] => { results := [.lit (.bool false)], args := [d1, d2] }
  | _ => none }
def FindKeysWrongFalsely : Prop := findKeysRow.holds Try.pinned (OpenSpec.ofChange findKeysWrong)

/-- 'grottolaw13.FindRows': WHATEVER THE INPUT: true; the input reads as it did. -/
def findRowsSpec : ChangeSpec := { name := "findRows", fn := fun _ => fun
  | [d1, d2] => { results := [.lit (.bool true)], args := [d1, d2] }
  | _ => none }
def findRowsRow : OpenClaim := { program := "ytohmipmioaceeaa", sum := "8c70b8b35b5b34514effff7a49858c72389a6b2dcce8673af47837e73e66642a", func := "grotto/grottolaw13.FindRows", spec := "findRows", inPlace := ["internal/bytealg.Compare"], unfollowed := true, recurses := true, apart := false }
def FindRowsSaid : Prop := findRowsRow.holds Try.pinned (OpenSpec.ofChange findRowsSpec)

/-- ITS FALSE NEIGHBOUR: 'it returns false'. Refute it at one input. -/
def findRowsWrong : ChangeSpec := { name := "findRows", fn := fun _ => fun
  | [d1, d2] => { results := [.lit (.bool false)], args := [d1, d2] }
  | _ => none }
def FindRowsWrongFalsely : Prop := findRowsRow.holds Try.pinned (OpenSpec.ofChange findRowsWrong)

/-- 'grottolaw13.FindSorts': WHATEVER THE INPUT: true; the input reads as it did. -/
def findSortsSpec : ChangeSpec := { name := "findSorts", fn := fun _ => fun
  | [d1, d2] => { results := [.lit (.bool true)], args := [d1, d2] }
  | _ => none }
def findSortsRow : OpenClaim := { program := "ytohmipmioaceeaa", sum := "8c70b8b35b5b34514effff7a49858c72389a6b2dcce8673af47837e73e66642a", func := "grotto/grottolaw13.FindSorts", spec := "findSorts", inPlace := ["internal/bytealg.Compare"], unfollowed := true, recurses := true, apart := false }
def FindSortsSaid : Prop := findSortsRow.holds Try.pinned (OpenSpec.ofChange findSortsSpec)

/-- ITS FALSE NEIGHBOUR: 'it returns false'. Refute it at one input. -/
def findSortsWrong : ChangeSpec := { name := "findSorts", fn := fun _ => fun
  | [d1, d2] => { results := [.lit (.bool false)], args := [d1, d2] }
  | _ => none }
def FindSortsWrongFalsely : Prop := findSortsRow.holds Try.pinned (OpenSpec.ofChange findSortsWrong)

/-- 'grottolaw13.FindChains': WHATEVER THE INPUT: true; the input reads as it did. -/
def findChainsSpec : ChangeSpec := { name := "findChains", fn := fun _ => fun
  | [d1, d2] => { results := [.lit (.bool true)], args := [d1, d2] }
  | _ => none }
def findChainsRow : OpenClaim := { program := "ytohmipmioaceeaa", sum := "8c70b8b35b5b34514effff7a49858c72389a6b2dcce8673af47837e73e66642a", func := "grotto/grottolaw13.FindChains", spec := "findChains", inPlace := ["internal/bytealg.Compare"], unfollowed := true, recurses := true, apart := false }
def FindChainsSaid : Prop := findChainsRow.holds Try.pinned (OpenSpec.ofChange findChainsSpec)

/-- ITS FALSE NEIGHBOUR: 'it returns false'. Refute it at one input. -/
def findChainsWrong : ChangeSpec := { name := "findChains", fn := fun _ => fun
  | [d1, d2] => { results := [.lit (.bool false)], args := [d1, d2] }
  | _ => none }
def FindChainsWrongFalsely : Prop := findChainsRow.holds Try.pinned (OpenSpec.ofChange findChainsWrong)

/- THE SECOND FORM. 'bulk': how many values and letters a reading holds, each counted each time it is reached (what is shared counts as often as it is met; a slice's spare places count too). A statement '..UptoSaid' is the law's where the arguments, and the package variables that the reading takes, are together of bulk at most 1048576: NARROWER than '..Said'. Prove '..Said' where nothing that the law and all that it calls make is longer than what came in: it says more and counts as full. Else prove '..UptoSaid'. A law counts once. -/
mutual
def uptoBulk {H : Type} : DataW H → Nat
  | .lit (.string bytes) => bytes.length + 1
  | .lit _ => 1
  | .nil => 1
  | .ptr d => uptoBulk d + 1
  | .slice elems spare => uptoBulkAll elems + uptoBulkAll spare + 1
  | .agg parts => uptoBulkAll parts + 1
  | .iface _ d => uptoBulk d + 1
  | .map entries => uptoBulkEntries entries + 1
  | .held _ => 1
def uptoBulkAll {H : Type} : List (DataW H) → Nat
  | [] => 0
  | d :: r => uptoBulk d + uptoBulkAll r
def uptoBulkEntries {H : Type} : List (Lit × DataW H) → Nat
  | [] => 0
  | x :: r => uptoBulkEntry x + uptoBulkEntries r
def uptoBulkEntry {H : Type} : Lit × DataW H → Nat
  | (.string bytes, d) => bytes.length + uptoBulk d + 1
  | (_, d) => uptoBulk d + 1
 end
def uptoSmall : (H : Type) → List (DataW H) → Bool := fun _ ds => decide (uptoBulkAll ds ≤ 1048576)
def OpenSpec.upto (s : _root_.Go.ChangeSpec) : _root_.Go.OpenSpec := { _root_.Go.OpenSpec.ofChange s with cond := some uptoSmall }

/-- 'grottolaw13.FindFirst', WHERE WHAT IT READS IS OF BULK AT MOST 1048576: true; the input reads as it did. -/
def findFirstUptoRow : OpenClaim := { program := "ytohmipmioaceeaa", sum := "8c70b8b35b5b34514effff7a49858c72389a6b2dcce8673af47837e73e66642a", func := "grotto/grottolaw13.FindFirst", spec := "findFirst", inPlace := ["internal/bytealg.Compare"], unfollowed := true, recurses := true, apart := false, narrowed := true }
def FindFirstUptoSaid : Prop := findFirstUptoRow.holds Try.pinned (OpenSpec.upto findFirstSpec)

/-- 'grottolaw13.FindHalves', WHERE WHAT IT READS IS OF BULK AT MOST 1048576: true; the input reads as it did. -/
def findHalvesUptoRow : OpenClaim := { program := "ytohmipmioaceeaa", sum := "8c70b8b35b5b34514effff7a49858c72389a6b2dcce8673af47837e73e66642a", func := "grotto/grottolaw13.FindHalves", spec := "findHalves", inPlace := ["internal/bytealg.Compare"], unfollowed := true, recurses := true, apart := false, narrowed := true }
def FindHalvesUptoSaid : Prop := findHalvesUptoRow.holds Try.pinned (OpenSpec.upto findHalvesSpec)

/-- 'grottolaw13.FindLinks', WHERE WHAT IT READS IS OF BULK AT MOST 1048576: true; the input reads as it did. -/
def findLinksUptoRow : OpenClaim := { program := "ytohmipmioaceeaa", sum := "8c70b8b35b5b34514effff7a49858c72389a6b2dcce8673af47837e73e66642a", func := "grotto/grottolaw13.FindLinks", spec := "findLinks", inPlace := ["internal/bytealg.Compare"], unfollowed := true, recurses := true, apart := false, narrowed := true }
def FindLinksUptoSaid : Prop := findLinksUptoRow.holds Try.pinned (OpenSpec.upto findLinksSpec)

/-- 'grottolaw13.FindRings', WHERE WHAT IT READS IS OF BULK AT MOST 1048576: true; the input reads as it did. -/
def findRingsUptoRow : OpenClaim := { program := "ytohmipmioaceeaa", sum := "8c70b8b35b5b34514effff7a49858c72389a6b2dcce8673af47837e73e66642a", func := "grotto/grottolaw13.FindRings", spec := "findRings", inPlace := ["internal/bytealg.Compare"], unfollowed := true, recurses := true, apart := false, narrowed := true }
def FindRingsUptoSaid : Prop := findRingsUptoRow.holds Try.pinned (OpenSpec.upto findRingsSpec)

/-- 'grottolaw13.FindSpans', WHERE WHAT IT READS IS OF BULK AT MOST 1048576: true; the input reads as it did. -/
def findSpansUptoRow : OpenClaim := { program := "ytohmipmioaceeaa", sum := "8c70b8b35b5b34514effff7a49858c72389a6b2dcce8673af47837e73e66642a", func := "grotto/grottolaw13.FindSpans", spec := "findSpans", inPlace := ["internal/bytealg.Compare"], unfollowed := true, recurses := true, apart := false, narrowed := true }
def FindSpansUptoSaid : Prop := findSpansUptoRow.holds Try.pinned (OpenSpec.upto findSpansSpec)

/-- 'grottolaw13.FindNil', WHERE WHAT IT READS IS OF BULK AT MOST 1048576: true; the input reads as it did. -/
def findNilUptoRow : OpenClaim := { program := "ytohmipmioaceeaa", sum := "8c70b8b35b5b34514effff7a49858c72389a6b2dcce8673af47837e73e66642a", func := "grotto/grottolaw13.FindNil", spec := "findNil", inPlace := ["internal/bytealg.Compare"], unfollowed := true, recurses := true, apart := false, narrowed := true }
def FindNilUptoSaid : Prop := findNilUptoRow.holds Try.pinned (OpenSpec.upto findNilSpec)

/-- 'grottolaw13.FindSteps', WHERE WHAT IT READS IS OF BULK AT MOST 1048576: true; the input reads as it did. -/
def findStepsUptoRow : OpenClaim := { program := "ytohmipmioaceeaa", sum := "8c70b8b35b5b34514effff7a49858c72389a6b2dcce8673af47837e73e66642a", func := "grotto/grottolaw13.FindSteps", spec := "findSteps", inPlace := ["internal/bytealg.Compare"], unfollowed := true, recurses := true, apart := false, narrowed := true }
def FindStepsUptoSaid : Prop := findStepsUptoRow.holds Try.pinned (OpenSpec.upto findStepsSpec)

/-- 'grottolaw13.FindKeys', WHERE WHAT IT READS IS OF BULK AT MOST 1048576: true; the input reads as it did. -/
def findKeysUptoRow : OpenClaim := { program := "ytohmipmioaceeaa", sum := "8c70b8b35b5b34514effff7a49858c72389a6b2dcce8673af47837e73e66642a", func := "grotto/grottolaw13.FindKeys", spec := "findKeys", inPlace := ["internal/bytealg.Compare"], unfollowed := true, recurses := true, apart := false, narrowed := true }
def FindKeysUptoSaid : Prop := findKeysUptoRow.holds Try.pinned (OpenSpec.upto findKeysSpec)

/-- 'grottolaw13.FindRows', WHERE WHAT IT READS IS OF BULK AT MOST 1048576: true; the input reads as it did. -/
def findRowsUptoRow : OpenClaim := { program := "ytohmipmioaceeaa", sum := "8c70b8b35b5b34514effff7a49858c72389a6b2dcce8673af47837e73e66642a", func := "grotto/grottolaw13.FindRows", spec := "findRows", inPlace := ["internal/bytealg.Compare"], unfollowed := true, recurses := true, apart := false, narrowed := true }
def FindRowsUptoSaid : Prop := findRowsUptoRow.holds Try.pinned (OpenSpec.upto findRowsSpec)

/-- 'grottolaw13.FindSorts', WHERE WHAT IT READS IS OF BULK AT MOST 1048576: true; the input reads as it did. -/
def findSortsUptoRow : OpenClaim := { program := "ytohmipmioaceeaa", sum := "8c70b8b35b5b34514effff7a49858c72389a6b2dcce8673af47837e73e66642a", func := "grotto/grottolaw13.FindSorts", spec := "findSorts", inPlace := ["internal/bytealg.Compare"], unfollowed := true, recurses := true, apart := false, narrowed := true }
def FindSortsUptoSaid : Prop := findSortsUptoRow.holds Try.pinned (OpenSpec.upto findSortsSpec)

/-- 'grottolaw13.FindChains', WHERE WHAT IT READS IS OF BULK AT MOST 1048576: true; the input reads as it did. -/
def findChainsUptoRow : OpenClaim := { program := "ytohmipmioaceeaa", sum := "8c70b8b35b5b34514effff7a49858c72389a6b2dcce8673af47837e73e66642a", func := "grotto/grottolaw13.FindChains", spec := "findChains", inPlace := ["internal/bytealg.Compare"], unfollowed := true, recurses := true, apart := false, narrowed := true }
def FindChainsUptoSaid : Prop := findChainsUptoRow.holds Try.pinned (OpenSpec.upto findChainsSpec)

end Rows
end Go.Proofs.Ytohmipmioaceeaa
