/-
  No cell of these rows narrows 'for every input' (looked for: loops, veiled, ifaces, maps, wideKeys, modest, calm, conditions, laid).
  DERIVED. THE GIVEN ROWS OF THIS SEAT. 13 by the template 'for every input the law returns true; each argument reads behind the call as it read before'; 0 by the template 'total and deterministic' (their statements: YtmmbgbchimangaaTotals.lean).
  GIVEN WITH THE SEED: the statements are not yours to turn. If you find one false, say at which input.
  Laid BY PROGRAM, IN A SANDBOX (cutbox-rows.mjs): the forced cells as the released guide's own fill.sh prints them over the translation 785de8016829338c… (all of the seat's roots in one cut). By AI agents, Wed Nov 11 2026. No macro, syntax, notation, axiom, sorry.
-/
import Derived.Test.YtmmbgbchimangaaChecked
import GoSem.Claim
import GoSem.ClaimJoined
import GoSem.ClaimMapViews
import Derived.JoinedTies
import Derived.KernelRfl
namespace Go.Proofs.Ytmmbgbchimangaa
/- THE CELL 'sum', in the pinned program and in every row, IS THE sha256 OF THE DUMP (.gsa) THAT YtmmbgbchimangaaProg.lean LOADS. Nothing in Lean hashes anything: it is a label: what it is worth is what the hold of that sum in a sandbox is worth. -/
noncomputable def Try.pinned : Pinned := { name := "ytmmbgbchimangaa", sum := "785de8016829338c31e8fb98aecb9fffb8d8807f310b30ea09764e2111c24b6e", checked := Try.checked }
namespace Rows
def none {H : Type} : Left H := { results := [], args := [] }

/-- 'grottolaw03.SoftMods': WHATEVER THE INPUT: true; the input reads as it did. -/
def softModsSpec : ChangeSpec := { name := "softMods", fn := fun _ => fun
  | [d1, d2, d3] => { results := [.lit (.bool true)], args := [d1, d2, d3] }
  | _ => none }
def softModsRow : OpenClaim := { program := "ytmmbgbchimangaa", sum := "785de8016829338c31e8fb98aecb9fffb8d8807f310b30ea09764e2111c24b6e", func := "grotto/grottolaw03.SoftMods", spec := "softMods", inPlace := ["math/bits.Add64", "math/bits.Sub64"], named := ["math/bits.divideError", "math/bits.overflowError"], apart := false }
def SoftModsSaid : Prop := softModsRow.holds Try.pinned (OpenSpec.ofChange softModsSpec)

/-- ITS FALSE NEIGHBOUR: 'it returns false'. Refute it at one input. -/
def softModsWrong : ChangeSpec := { name := "softMods", fn := fun _ => fun
  | [d1, d2, d3] => { results := [.lit (.bool false)], args := [d1, d2, d3] }
  | _ => none }
def SoftModsWrongFalsely : Prop := softModsRow.holds Try.pinned (OpenSpec.ofChange softModsWrong)

/-- 'grottolaw03.SoftRests': WHATEVER THE INPUT: true; the input reads as it did. -/
def softRestsSpec : ChangeSpec := { name := "softRests", fn := fun _ => fun
  | [d1, d2, d3] => { results := [.lit (.bool true)], args := [d1, d2, d3] }
  | _ => none }
def softRestsRow : OpenClaim := { program := "ytmmbgbchimangaa", sum := "785de8016829338c31e8fb98aecb9fffb8d8807f310b30ea09764e2111c24b6e", func := "grotto/grottolaw03.SoftRests", spec := "softRests", inPlace := ["math/bits.Add64", "math/bits.Sub64"], named := ["math/bits.divideError", "math/bits.overflowError"], apart := false }
def SoftRestsSaid : Prop := softRestsRow.holds Try.pinned (OpenSpec.ofChange softRestsSpec)

/-- ITS FALSE NEIGHBOUR: 'it returns false'. Refute it at one input. -/
def softRestsWrong : ChangeSpec := { name := "softRests", fn := fun _ => fun
  | [d1, d2, d3] => { results := [.lit (.bool false)], args := [d1, d2, d3] }
  | _ => none }
def SoftRestsWrongFalsely : Prop := softRestsRow.holds Try.pinned (OpenSpec.ofChange softRestsWrong)

/-- 'grottolaw03.SoftAdds': WHATEVER THE INPUT: true; the input reads as it did. -/
def softAddsSpec : ChangeSpec := { name := "softAdds", fn := fun _ => fun
  | [d1, d2, d3] => { results := [.lit (.bool true)], args := [d1, d2, d3] }
  | _ => none }
def softAddsRow : OpenClaim := { program := "ytmmbgbchimangaa", sum := "785de8016829338c31e8fb98aecb9fffb8d8807f310b30ea09764e2111c24b6e", func := "grotto/grottolaw03.SoftAdds", spec := "softAdds", inPlace := ["math/bits.Add64", "math/bits.Sub64"], named := ["math/bits.divideError", "math/bits.overflowError"], apart := false }
def SoftAddsSaid : Prop := softAddsRow.holds Try.pinned (OpenSpec.ofChange softAddsSpec)

/-- ITS FALSE NEIGHBOUR: 'it returns false'. Refute it at one input. -/
def softAddsWrong : ChangeSpec := { name := "softAdds", fn := fun _ => fun
  | [d1, d2, d3] => { results := [.lit (.bool false)], args := [d1, d2, d3] }
  | _ => none }
def SoftAddsWrongFalsely : Prop := softAddsRow.holds Try.pinned (OpenSpec.ofChange softAddsWrong)

/-- 'grottolaw03.SoftExact': WHATEVER THE INPUT: true; the input reads as it did. -/
def softExactSpec : ChangeSpec := { name := "softExact", fn := fun _ => fun
  | [d1, d2, d3] => { results := [.lit (.bool true)], args := [d1, d2, d3] }
  | _ => none }
def softExactRow : OpenClaim := { program := "ytmmbgbchimangaa", sum := "785de8016829338c31e8fb98aecb9fffb8d8807f310b30ea09764e2111c24b6e", func := "grotto/grottolaw03.SoftExact", spec := "softExact", inPlace := ["math/bits.Add64", "math/bits.Sub64"], named := ["math/bits.divideError", "math/bits.overflowError"], apart := false }
def SoftExactSaid : Prop := softExactRow.holds Try.pinned (OpenSpec.ofChange softExactSpec)

/-- ITS FALSE NEIGHBOUR: 'it returns false'. Refute it at one input. -/
def softExactWrong : ChangeSpec := { name := "softExact", fn := fun _ => fun
  | [d1, d2, d3] => { results := [.lit (.bool false)], args := [d1, d2, d3] }
  | _ => none }
def SoftExactWrongFalsely : Prop := softExactRow.holds Try.pinned (OpenSpec.ofChange softExactWrong)

/-- 'grottolaw03.SoftRoots': WHATEVER THE INPUT: true; the input reads as it did. -/
def softRootsSpec : ChangeSpec := { name := "softRoots", fn := fun _ => fun
  | [d1, d2, d3] => { results := [.lit (.bool true)], args := [d1, d2, d3] }
  | _ => none }
def softRootsRow : OpenClaim := { program := "ytmmbgbchimangaa", sum := "785de8016829338c31e8fb98aecb9fffb8d8807f310b30ea09764e2111c24b6e", func := "grotto/grottolaw03.SoftRoots", spec := "softRoots", inPlace := ["math/bits.Add64", "math/bits.Sub64"], named := ["math/bits.divideError", "math/bits.overflowError"], apart := false }
def SoftRootsSaid : Prop := softRootsRow.holds Try.pinned (OpenSpec.ofChange softRootsSpec)

/-- ITS FALSE NEIGHBOUR: 'it returns false'. Refute it at one input. -/
def softRootsWrong : ChangeSpec := { name := "softRoots", fn := fun _ => fun
  | [d1, d2, d3] => { results := [.lit (.bool false)], args := [d1, d2, d3] }
  | _ => none }
def SoftRootsWrongFalsely : Prop := softRootsRow.holds Try.pinned (OpenSpec.ofChange softRootsWrong)

/-- 'grottolaw03.SoftMuls': WHATEVER THE INPUT: true; the input reads as it did. -/
def softMulsSpec : ChangeSpec := { name := "softMuls", fn := fun _ => fun
  | [d1, d2, d3] => { results := [.lit (.bool true)], args := [d1, d2, d3] }
  | _ => none }
def softMulsRow : OpenClaim := { program := "ytmmbgbchimangaa", sum := "785de8016829338c31e8fb98aecb9fffb8d8807f310b30ea09764e2111c24b6e", func := "grotto/grottolaw03.SoftMuls", spec := "softMuls", inPlace := ["math/bits.Add64", "math/bits.Sub64"], named := ["math/bits.divideError", "math/bits.overflowError"], apart := false }
def SoftMulsSaid : Prop := softMulsRow.holds Try.pinned (OpenSpec.ofChange softMulsSpec)

/-- ITS FALSE NEIGHBOUR: 'it returns false'. Refute it at one input. -/
def softMulsWrong : ChangeSpec := { name := "softMuls", fn := fun _ => fun
  | [d1, d2, d3] => { results := [.lit (.bool false)], args := [d1, d2, d3] }
  | _ => none }
def SoftMulsWrongFalsely : Prop := softMulsRow.holds Try.pinned (OpenSpec.ofChange softMulsWrong)

/-- 'grottolaw03.SoftSquares': WHATEVER THE INPUT: true; the input reads as it did. -/
def softSquaresSpec : ChangeSpec := { name := "softSquares", fn := fun _ => fun
  | [d1, d2] => { results := [.lit (.bool true)], args := [d1, d2] }
  | _ => none }
def softSquaresRow : OpenClaim := { program := "ytmmbgbchimangaa", sum := "785de8016829338c31e8fb98aecb9fffb8d8807f310b30ea09764e2111c24b6e", func := "grotto/grottolaw03.SoftSquares", spec := "softSquares", inPlace := ["math/bits.Add64", "math/bits.Sub64"], named := ["math/bits.divideError", "math/bits.overflowError"], apart := false }
def SoftSquaresSaid : Prop := softSquaresRow.holds Try.pinned (OpenSpec.ofChange softSquaresSpec)

/-- ITS FALSE NEIGHBOUR: 'it returns false'. Refute it at one input. -/
def softSquaresWrong : ChangeSpec := { name := "softSquares", fn := fun _ => fun
  | [d1, d2] => { results := [.lit (.bool false)], args := [d1, d2] }
  | _ => none }
def SoftSquaresWrongFalsely : Prop := softSquaresRow.holds Try.pinned (OpenSpec.ofChange softSquaresWrong)

/-- 'grottolaw03.SoftCompares': WHATEVER THE INPUT: true; the input reads as it did. -/
def softComparesSpec : ChangeSpec := { name := "softCompares", fn := fun _ => fun
  | [d1, d2, d3] => { results := [.lit (.bool true)], args := [d1, d2, d3] }
  | _ => none }
def softComparesRow : OpenClaim := { program := "ytmmbgbchimangaa", sum := "785de8016829338c31e8fb98aecb9fffb8d8807f310b30ea09764e2111c24b6e", func := "grotto/grottolaw03.SoftCompares", spec := "softCompares", inPlace := ["math/bits.Add64", "math/bits.Sub64"], named := ["math/bits.divideError", "math/bits.overflowError"], apart := false }
def SoftComparesSaid : Prop := softComparesRow.holds Try.pinned (OpenSpec.ofChange softComparesSpec)

/-- ITS FALSE NEIGHBOUR: 'it returns false'. Refute it at one input. -/
def softComparesWrong : ChangeSpec := { name := "softCompares", fn := fun _ => fun
  | [d1, d2, d3] => { results := [.lit (.bool false)], args := [d1, d2, d3] }
  | _ => none }
def SoftComparesWrongFalsely : Prop := softComparesRow.holds Try.pinned (OpenSpec.ofChange softComparesWrong)

/-- 'grottolaw03.SoftRises': WHATEVER THE INPUT: true; the input reads as it did. -/
def softRisesSpec : ChangeSpec := { name := "softRises", fn := fun _ => fun
  | [d1, d2, d3, d4] => { results := [.lit (.bool true)], args := [d1, d2, d3, d4] }
  | _ => none }
def softRisesRow : OpenClaim := { program := "ytmmbgbchimangaa", sum := "785de8016829338c31e8fb98aecb9fffb8d8807f310b30ea09764e2111c24b6e", func := "grotto/grottolaw03.SoftRises", spec := "softRises", inPlace := ["math/bits.Add64", "math/bits.Sub64"], named := ["math/bits.divideError", "math/bits.overflowError"], apart := false }
def SoftRisesSaid : Prop := softRisesRow.holds Try.pinned (OpenSpec.ofChange softRisesSpec)

/-- ITS FALSE NEIGHBOUR: 'it returns false'. Refute it at one input. -/
def softRisesWrong : ChangeSpec := { name := "softRises", fn := fun _ => fun
  | [d1, d2, d3, d4] => { results := [.lit (.bool false)], args := [d1, d2, d3, d4] }
  | _ => none }
def SoftRisesWrongFalsely : Prop := softRisesRow.holds Try.pinned (OpenSpec.ofChange softRisesWrong)

/-- 'grottolaw03.SoftBetween': WHATEVER THE INPUT: true; the input reads as it did. -/
def softBetweenSpec : ChangeSpec := { name := "softBetween", fn := fun _ => fun
  | [d1, d2] => { results := [.lit (.bool true)], args := [d1, d2] }
  | _ => none }
def softBetweenRow : OpenClaim := { program := "ytmmbgbchimangaa", sum := "785de8016829338c31e8fb98aecb9fffb8d8807f310b30ea09764e2111c24b6e", func := "grotto/grottolaw03.SoftBetween", spec := "softBetween", inPlace := ["math/bits.Add64", "math/bits.Sub64"], named := ["math/bits.divideError", "math/bits.overflowError"], apart := false }
def SoftBetweenSaid : Prop := softBetweenRow.holds Try.pinned (OpenSpec.ofChange softBetweenSpec)

/-- ITS FALSE NEIGHBOUR: 'it returns false'. Refute it at one input. -/
def softBetweenWrong : ChangeSpec := { name := "softBetween", fn := fun _ => fun
  | [d1, d2] => { results := [.lit (.bool false)], args := [d1, d2] }
  | _ => none }
def SoftBetweenWrongFalsely : Prop := softBetweenRow.holds Try.pinned (OpenSpec.ofChange softBetweenWrong)

/-- 'grottolaw03.SoftWholes': WHATEVER THE INPUT: true; the input reads as it did. -/
def softWholesSpec : ChangeSpec := { name := "softWholes", fn := fun _ => fun
  | [d1, d2, d3] => { results := [.lit (.bool true)], args := [d1, d2, d3] }
  | _ => none }
def softWholesRow : OpenClaim := { program := "ytmmbgbchimangaa", sum := "785de8016829338c31e8fb98aecb9fffb8d8807f310b30ea09764e2111c24b6e", func := "grotto/grottolaw03.SoftWholes", spec := "softWholes", inPlace := ["math/bits.Add64", "math/bits.Sub64"], named := ["math/bits.divideError", "math/bits.overflowError"], apart := false }
def SoftWholesSaid : Prop := softWholesRow.holds Try.pinned (OpenSpec.ofChange softWholesSpec)

/-- ITS FALSE NEIGHBOUR: 'it returns false'. Refute it at one input. -/
def softWholesWrong : ChangeSpec := { name := "softWholes", fn := fun _ => fun
  | [d1, d2, d3] => { results := [.lit (.bool false)], args := [d1, d2, d3] }
  | _ => none }
def SoftWholesWrongFalsely : Prop := softWholesRow.holds Try.pinned (OpenSpec.ofChange softWholesWrong)

/-- 'grottolaw03.SoftWider': WHATEVER THE INPUT: true; the input reads as it did. -/
def softWiderSpec : ChangeSpec := { name := "softWider", fn := fun _ => fun
  | [d1, d2, d3] => { results := [.lit (.bool true)], args := [d1, d2, d3] }
  | _ => none }
def softWiderRow : OpenClaim := { program := "ytmmbgbchimangaa", sum := "785de8016829338c31e8fb98aecb9fffb8d8807f310b30ea09764e2111c24b6e", func := "grotto/grottolaw03.SoftWider", spec := "softWider", inPlace := ["math/bits.Add64", "math/bits.Sub64"], named := ["math/bits.divideError", "math/bits.overflowError"], apart := false }
def SoftWiderSaid : Prop := softWiderRow.holds Try.pinned (OpenSpec.ofChange softWiderSpec)

/-- ITS FALSE NEIGHBOUR: 'it returns false'. Refute it at one input. -/
def softWiderWrong : ChangeSpec := { name := "softWider", fn := fun _ => fun
  | [d1, d2, d3] => { results := [.lit (.bool false)], args := [d1, d2, d3] }
  | _ => none }
def SoftWiderWrongFalsely : Prop := softWiderRow.holds Try.pinned (OpenSpec.ofChange softWiderWrong)

/-- 'grottolaw03.SoftTurns': WHATEVER THE INPUT: true; the input reads as it did. -/
def softTurnsSpec : ChangeSpec := { name := "softTurns", fn := fun _ => fun
  | [d1, d2, d3] => { results := [.lit (.bool true)], args := [d1, d2, d3] }
  | _ => none }
def softTurnsRow : OpenClaim := { program := "ytmmbgbchimangaa", sum := "785de8016829338c31e8fb98aecb9fffb8d8807f310b30ea09764e2111c24b6e", func := "grotto/grottolaw03.SoftTurns", spec := "softTurns", inPlace := ["math/bits.Add64", "math/bits.Sub64"], named := ["math/bits.divideError", "math/bits.overflowError"], apart := false }
def SoftTurnsSaid : Prop := softTurnsRow.holds Try.pinned (OpenSpec.ofChange softTurnsSpec)

/-- ITS FALSE NEIGHBOUR: 'it returns false'. Refute it at one input. -/
def softTurnsWrong : ChangeSpec := { name := "softTurns", fn := fun _ => fun
  | [d1, d2, d3] => { results := [.lit (.bool false)], args := [d1, d2, d3] }
  | _ => none }
def SoftTurnsWrongFalsely : Prop := softTurnsRow.holds Try.pinned (OpenSpec.ofChange softTurnsWrong)

/- THE SECOND FORM. 'bulk': how many values and letters a reading holds, each counted each time it is reached (what is shared counts as often as it is met; a slice's spare places count too). A statement '..UptoSaid' is the law's where the arguments, and the package variables that the reading takes, are together of bulk at most 1048576: NARROWER than '..Said'. Prove '..Said' where nothing that the law and all that it calls make is longer than what came in: it says more and counts as full. Else prove '..UptoSaid'. A law counts once. -/
mutual
def uptoBulk {H : Type} : DataW H → Nat
  | .lit (.string bytes) => bytes.length + 1
  | .lit _ => 1
  | .nil => 1
  | .ptr d => uptoBulk d + 1
  | .slice elems spare => uptoBulkAll elems + uptoBulkAll spare + 1
  | .agg parts => uptoBulkAll parts + 1
  | .iface _ d => uptoBulk d + 1
  | .map entries => uptoBulkEntries entries + 1
  | .held _ => 1
def uptoBulkAll {H : Type} : List (DataW H) → Nat
  | [] => 0
  | d :: r => uptoBulk d + uptoBulkAll r
def uptoBulkEntries {H : Type} : List (Lit × DataW H) → Nat
  | [] => 0
  | x :: r => uptoBulkEntry x + uptoBulkEntries r
def uptoBulkEntry {H : Type} : Lit × DataW H → Nat
  | (.string bytes, d) => bytes.length + uptoBulk d + 1
  | (_, d) => uptoBulk d + 1
 end
def uptoSmall : (H : Type) → List (DataW H) → Bool := fun _ ds => decide (uptoBulkAll ds ≤ 1048576)
def OpenSpec.upto (s : _root_.Go.ChangeSpec) : _root_.Go.OpenSpec := { _root_.Go.OpenSpec.ofChange s with cond := some uptoSmall }

/-- 'grottolaw03.SoftMods', WHERE WHAT IT READS IS OF BULK AT MOST 1048576: true; the input reads as it did. -/
def softModsUptoRow : OpenClaim := { program := "ytmmbgbchimangaa", sum := "785de8016829338c31e8fb98aecb9fffb8d8807f310b30ea09764e2111c24b6e", func := "grotto/grottolaw03.SoftMods", spec := "softMods", inPlace := ["math/bits.Add64", "math/bits.Sub64"], named := ["math/bits.divideError", "math/bits.overflowError"], apart := false, narrowed := true }
def SoftModsUptoSaid : Prop := softModsUptoRow.holds Try.pinned (OpenSpec.upto softModsSpec)

/-- 'grottolaw03.SoftRests', WHERE WHAT IT READS IS OF BULK AT MOST 1048576: true; the input reads as it did. -/
def softRestsUptoRow : OpenClaim := { program := "ytmmbgbchimangaa", sum := "785de8016829338c31e8fb98aecb9fffb8d8807f310b30ea09764e2111c24b6e", func := "grotto/grottolaw03.SoftRests", spec := "softRests", inPlace := ["math/bits.Add64", "math/bits.Sub64"], named := ["math/bits.divideError", "math/bits.overflowError"], apart := false, narrowed := true }
def SoftRestsUptoSaid : Prop := softRestsUptoRow.holds Try.pinned (OpenSpec.upto softRestsSpec)

/-- 'grottolaw03.SoftAdds', WHERE WHAT IT READS IS OF BULK AT MOST 1048576: true; the input reads as it did. -/
def softAddsUptoRow : OpenClaim := { program := "ytmmbgbchimangaa", sum := "785de8016829338c31e8fb98aecb9fffb8d8807f310b30ea09764e2111c24b6e", func := "grotto/grottolaw03.SoftAdds", spec := "softAdds", inPlace := ["math/bits.Add64", "math/bits.Sub64"], named := ["math/bits.divideError", "math/bits.overflowError"], apart := false, narrowed := true }
def SoftAddsUptoSaid : Prop := softAddsUptoRow.holds Try.pinned (OpenSpec.upto softAddsSpec)

/-- 'grottolaw03.SoftExact', WHERE WHAT IT READS IS OF BULK AT MOST 1048576: true; the input reads as it did. -/
def softExactUptoRow : OpenClaim := { program := "ytmmbgbchimangaa", sum := "785de8016829338c31e8fb98aecb9fffb8d8807f310b30ea09764e2111c24b6e", func := "grotto/grottolaw03.SoftExact", spec := "softExact", inPlace := ["math/bits.Add64", "math/bits.Sub64"], named := ["math/bits.divideError", "math/bits.overflowError"], apart := false, narrowed := true }
def SoftExactUptoSaid : Prop := softExactUptoRow.holds Try.pinned (OpenSpec.upto softExactSpec)

/-- 'grottolaw03.SoftRoots', WHERE WHAT IT READS IS OF BULK AT MOST 1048576: true; the input reads as it did. -/
def softRootsUptoRow : OpenClaim := { program := "ytmmbgbchimangaa", sum := "785de8016829338c31e8fb98aecb9fffb8d8807f310b30ea09764e2111c24b6e", func := "grotto/grottolaw03.SoftRoots", spec := "softRoots", inPlace := ["math/bits.Add64", "math/bits.Sub64"], named := ["math/bits.divideError", "math/bits.overflowError"], apart := false, narrowed := true }
def SoftRootsUptoSaid : Prop := softRootsUptoRow.holds Try.pinned (OpenSpec.upto softRootsSpec)

/-- 'grottolaw03.SoftMuls', WHERE WHAT IT READS IS OF BULK AT MOST 1048576: true; the input reads as it did. -/
def softMulsUptoRow : OpenClaim := { program := "ytmmbgbchimangaa", sum := "785de8016829338c31e8fb98aecb9fffb8d8807f310b30ea09764e2111c24b6e", func := "grotto/grottolaw03.SoftMuls", spec := "softMuls", inPlace := ["math/bits.Add64", "math/bits.Sub64"], named := ["math/bits.divideError", "math/bits.overflowError"], apart := false, narrowed := true }
def SoftMulsUptoSaid : Prop := softMulsUptoRow.holds Try.pinned (OpenSpec.upto softMulsSpec)

/-- 'grottolaw03.SoftSquares', WHERE WHAT IT READS IS OF BULK AT MOST 1048576: true; the input reads as it did. -/
def softSquaresUptoRow : OpenClaim := { program := "ytmmbgbchimangaa", sum := "785de8016829338c31e8fb98aecb9fffb8d8807f310b30ea09764e2111c24b6e", func := "grotto/grottolaw03.SoftSquares", spec := "softSquares", inPlace := ["math/bits.Add64", "math/bits.Sub64"], named := ["math/bits.divideError", "math/bits.overflowError"], apart := false, narrowed := true }
def SoftSquaresUptoSaid : Prop := softSquaresUptoRow.holds Try.pinned (OpenSpec.upto softSquaresSpec)

/-- 'grottolaw03.SoftCompares', WHERE WHAT IT READS IS OF BULK AT MOST 1048576: true; the input reads as it did. -/
def softComparesUptoRow : OpenClaim := { program := "ytmmbgbchimangaa", sum := "785de8016829338c31e8fb98aecb9fffb8d8807f310b30ea09764e2111c24b6e", func := "grotto/grottolaw03.SoftCompares", spec := "softCompares", inPlace := ["math/bits.Add64", "math/bits.Sub64"], named := ["math/bits.divideError", "math/bits.overflowError"], apart := false, narrowed := true }
def SoftComparesUptoSaid : Prop := softComparesUptoRow.holds Try.pinned (OpenSpec.upto softComparesSpec)

/-- 'grottolaw03.SoftRises', WHERE WHAT IT READS IS OF BULK AT MOST 1048576: true; the input reads as it did. -/
def softRisesUptoRow : OpenClaim := { program := "ytmmbgbchimangaa", sum := "785de8016829338c31e8fb98aecb9fffb8d8807f310b30ea09764e2111c24b6e", func := "grotto/grottolaw03.SoftRises", spec := "softRises", inPlace := ["math/bits.Add64", "math/bits.Sub64"], named := ["math/bits.divideError", "math/bits.overflowError"], apart := false, narrowed := true }
def SoftRisesUptoSaid : Prop := softRisesUptoRow.holds Try.pinned (OpenSpec.upto softRisesSpec)

/-- 'grottolaw03.SoftBetween', WHERE WHAT IT READS IS OF BULK AT MOST 1048576: true; the input reads as it did. -/
def softBetweenUptoRow : OpenClaim := { program := "ytmmbgbchimangaa", sum := "785de8016829338c31e8fb98aecb9fffb8d8807f310b30ea09764e2111c24b6e", func := "grotto/grottolaw03.SoftBetween", spec := "softBetween", inPlace := ["math/bits.Add64", "math/bits.Sub64"], named := ["math/bits.divideError", "math/bits.overflowError"], apart := false, narrowed := true }
def SoftBetweenUptoSaid : Prop := softBetweenUptoRow.holds Try.pinned (OpenSpec.upto softBetweenSpec)

/-- 'grottolaw03.SoftWholes', WHERE WHAT IT READS IS OF BULK AT MOST 1048576: true; the input reads as it did. -/
def softWholesUptoRow : OpenClaim := { program := "ytmmbgbchimangaa", sum := "785de8016829338c31e8fb98aecb9fffb8d8807f310b30ea09764e2111c24b6e", func := "grotto/grottolaw03.SoftWholes", spec := "softWholes", inPlace := ["math/bits.Add64", "math/bits.Sub64"], named := ["math/bits.divideError", "math/bits.overflowError"], apart := false, narrowed := true }
def SoftWholesUptoSaid : Prop := softWholesUptoRow.holds Try.pinned (OpenSpec.upto softWholesSpec)

/-- 'grottolaw03.SoftWider', WHERE WHAT IT READS IS OF BULK AT MOST 1048576: true; the input reads as it did. -/
def softWiderUptoRow : OpenClaim := { program := "ytmmbgbchimangaa", sum := "785de8016829338c31e8fb98aecb9fffb8d8807f310b30ea09764e2111c24b6e", func := "grotto/grottolaw03.SoftWider", spec := "softWider", inPlace := ["math/bits.Add64", "math/bits.Sub64"], named := ["math/bits.divideError", "math/bits.overflowError"], apart := false, narrowed := true }
def SoftWiderUptoSaid : Prop := softWiderUptoRow.holds Try.pinned (OpenSpec.upto softWiderSpec)

/-- 'grottolaw03.SoftTurns', WHERE WHAT IT READS IS OF BULK AT MOST 1048576: true; the input reads as it did. -/
def softTurnsUptoRow : OpenClaim := { program := "ytmmbgbchimangaa", sum := "785de8016829338c31e8fb98aecb9fffb8d8807f310b30ea09764e2111c24b6e", func := "grotto/grottolaw03.SoftTurns", spec := "softTurns", inPlace := ["math/bits.Add64", "math/bits.Sub64"], named := ["math/bits.divideError", "math/bits.overflowError"], apart := false, narrowed := true }
def SoftTurnsUptoSaid : Prop := softTurnsUptoRow.holds Try.pinned (OpenSpec.upto softTurnsSpec)

end Rows
end Go.Proofs.Ytmmbgbchimangaa
