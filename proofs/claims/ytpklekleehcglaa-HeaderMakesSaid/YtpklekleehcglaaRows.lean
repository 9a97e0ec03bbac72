/-
  No cell of these rows narrows 'for every input' (looked for: loops, veiled, ifaces, maps, wideKeys, modest, calm, conditions, laid).
  DERIVED. THE GIVEN ROWS OF THIS SEAT. 7 by the template 'for every input the law returns true; each argument reads behind the call as it read before'; 0 by the template 'total and deterministic' (their statements: YtpklekleehcglaaTotals.lean).
  GIVEN WITH THE SEED: the statements are not yours to turn. If you find one false, say at which input.
  Laid BY PROGRAM, IN A SANDBOX (cutbox-rows.mjs): the forced cells as the released guide's own fill.sh prints them over the translation 3ecfb0b2847a3521… (all of the seat's roots in one cut). By AI agents, Wed Nov 11 2026. No macro, syntax, notation, axiom, sorry.
-/
import Derived.Test.YtpklekleehcglaaChecked
import GoSem.Claim
import GoSem.ClaimJoined
import GoSem.ClaimMapViews
import Derived.JoinedTies
import Derived.KernelRfl
namespace Go.Proofs.Ytpklekleehcglaa
/- THE CELL 'sum', in the pinned program and in every row, IS THE sha256 OF THE DUMP (.gsa) THAT YtpklekleehcglaaProg.lean LOADS. Nothing in Lean hashes anything: it is a label: what it is worth is what the hold of that sum in a sandbox is worth. -/
noncomputable def Try.pinned : Pinned := { name := "ytpklekleehcglaa", sum := "3ecfb0b2847a3521666c21fd961dda81927b66bb1d03cc957f964a951788910b", checked := Try.checked }
namespace Rows
def none {H : Type} : Left H := { results := [], args := [] }

/-- 'grottolaw07.HeaderParses': WHATEVER THE INPUT: true; the input reads as it did. -/
def headerParsesSpec : ChangeSpec := { name := "headerParses", fn := fun _ => fun
  | [d] => { results := [.lit (.bool true)], args := [d] }
  | _ => none }
def headerParsesRow : OpenClaim := { program := "ytpklekleehcglaa", sum := "3ecfb0b2847a3521666c21fd961dda81927b66bb1d03cc957f964a951788910b", func := "grotto/grottolaw07.HeaderParses", spec := "headerParses", apart := false }
def HeaderParsesSaid : Prop := headerParsesRow.holds Try.pinned (OpenSpec.ofChange headerParsesSpec)

/-- ITS FALSE NEIGHBOUR: 'it returns false'. Refute it at one input. -/
def headerParsesWrong : ChangeSpec := { name := "headerParses", fn := fun _ => fun
  | [d] => { results := [.lit (.bool false)], args := [d] }
  | _ => none }
def HeaderParsesWrongFalsely : Prop := headerParsesRow.holds Try.pinned (OpenSpec.ofChange headerParsesWrong)

/-- 'grottolaw07.HeaderSums': WHATEVER THE INPUT: true; the input reads as it did. -/
def headerSumsSpec : ChangeSpec := { name := "headerSums", fn := fun _ => fun
  | [d] => { results := [.lit (.bool true)], args := [d] }
  | _ => none }
def headerSumsRow : OpenClaim := { program := "ytpklekleehcglaa", sum := "3ecfb0b2847a3521666c21fd961dda81927b66bb1d03cc957f964a951788910b", func := "grotto/grottolaw07.HeaderSums", spec := "headerSums", apart := false }
def HeaderSumsSaid : Prop := headerSumsRow.holds Try.pinned (OpenSpec.ofChange headerSumsSpec)

/-- ITS FALSE NEIGHBOUR: 'it returns false'. Refute it at one input. -/
def headerSumsWrong : ChangeSpec := { name := "headerSums", fn := fun _ => fun
  | [d] => { results := [.lit (.bool false)], args := [d] }
  | _ => none }
def HeaderSumsWrongFalsely : Prop := headerSumsRow.holds Try.pinned (OpenSpec.ofChange headerSumsWrong)

/-- 'grottolaw07.HeaderMakes': WHATEVER THE INPUT: true; the input reads as it did. -/
def headerMakesSpec : ChangeSpec := { name := "headerMakes", fn := fun _ => fun
  | [d1, d2] => { results := [.lit (.bool true)], args := [d1, d2] }
  | _ => none }
def headerMakesRow : OpenClaim := { program := "ytpklekleehcglaa", sum := "3ecfb0b2847a3521666c21fd961dda81927b66bb1d03cc957f964a951788910b", func := "grotto/grottolaw07.HeaderMakes", spec := "headerMakes", apart := false }
def HeaderMakesSaid : Prop := headerMakesRow.holds Try.pinned (OpenSpec.ofChange headerMakesSpec)

/-- ITS FALSE NEIGHBOUR: 'it returns false'. Refute it at one input. -/
def headerMakesWrong : ChangeSpec := { name := "headerMakes", fn := fun _ => fun
  | [d1, d2] => { results := [.lit (.bool false)], args := [d1, d2] }
  | _ => none }
def HeaderMakesWrongFalsely : Prop := headerMakesRow.holds Try.pinned (OpenSpec.ofChange headerMakesWrong)

/-- 'grottolaw07.HeaderBack': WHATEVER THE INPUT: true; the input reads as it did. -/
def headerBackSpec : ChangeSpec := { name := "headerBack", fn := fun _ => fun
  | [d1, d2] => { results := [.lit (.bool true)], args := [d1, d2] }
  | _ => none }
def headerBackRow : OpenClaim := { program := "ytpklekleehcglaa", sum := "3ecfb0b2847a3521666c21fd961dda81927b66bb1d03cc957f964a951788910b", func := "grotto/grottolaw07.HeaderBack", spec := "headerBack", apart := false }
def HeaderBackSaid : Prop := headerBackRow.holds Try.pinned (OpenSpec.ofChange headerBackSpec)

/-- ITS FALSE NEIGHBOUR: 'it returns false'. Refute it at one input. -/
def headerBackWrong : ChangeSpec := { name := "headerBack", fn := fun _ => fun
  | [d1, d2] => { results := [.lit (.bool false)], args := [d1, d2] }
  | _ => none }
def HeaderBackWrongFalsely : Prop := headerBackRow.holds Try.pinned (OpenSpec.ofChange headerBackWrong)

/-- 'grottolaw07.HeaderTurned': WHATEVER THE INPUT: true; the input reads as it did. -/
def headerTurnedSpec : ChangeSpec := { name := "headerTurned", fn := fun _ => fun
  | [d1, d2, d3] => { results := [.lit (.bool true)], args := [d1, d2, d3] }
  | _ => none }
def headerTurnedRow : OpenClaim := { program := "ytpklekleehcglaa", sum := "3ecfb0b2847a3521666c21fd961dda81927b66bb1d03cc957f964a951788910b", func := "grotto/grottolaw07.HeaderTurned", spec := "headerTurned", apart := false }
def HeaderTurnedSaid : Prop := headerTurnedRow.holds Try.pinned (OpenSpec.ofChange headerTurnedSpec)

/-- ITS FALSE NEIGHBOUR: 'it returns false'. Refute it at one input. -/
def headerTurnedWrong : ChangeSpec := { name := "headerTurned", fn := fun _ => fun
  | [d1, d2, d3] => { results := [.lit (.bool false)], args := [d1, d2, d3] }
  | _ => none }
def HeaderTurnedWrongFalsely : Prop := headerTurnedRow.holds Try.pinned (OpenSpec.ofChange headerTurnedWrong)

/-- 'grottolaw07.HeaderPieces': WHATEVER THE INPUT: true; the input reads as it did. -/
def headerPiecesSpec : ChangeSpec := { name := "headerPieces", fn := fun _ => fun
  | [d1, d2] => { results := [.lit (.bool true)], args := [d1, d2] }
  | _ => none }
def headerPiecesRow : OpenClaim := { program := "ytpklekleehcglaa", sum := "3ecfb0b2847a3521666c21fd961dda81927b66bb1d03cc957f964a951788910b", func := "grotto/grottolaw07.HeaderPieces", spec := "headerPieces", apart := false }
def HeaderPiecesSaid : Prop := headerPiecesRow.holds Try.pinned (OpenSpec.ofChange headerPiecesSpec)

/-- ITS FALSE NEIGHBOUR: 'it returns false'. Refute it at one input. -/
def headerPiecesWrong : ChangeSpec := { name := "headerPieces", fn := fun _ => fun
  | [d1, d2] => { results := [.lit (.bool false)], args := [d1, d2] }
  | _ => none }
def HeaderPiecesWrongFalsely : Prop := headerPiecesRow.holds Try.pinned (OpenSpec.ofChange headerPiecesWrong)

/-- 'grottolaw07.HeaderMaps': WHATEVER THE INPUT: true; the input reads as it did. -/
def headerMapsSpec : ChangeSpec := { name := "headerMaps", fn := fun _ => fun
  | [d] => { results := [.lit (.bool true)], args := [d] }
  | _ => none }
def headerMapsRow : OpenClaim := { program := "ytpklekleehcglaa", sum := "3ecfb0b2847a3521666c21fd961dda81927b66bb1d03cc957f964a951788910b", func := "grotto/grottolaw07.HeaderMaps", spec := "headerMaps", apart := false }
def HeaderMapsSaid : Prop := headerMapsRow.holds Try.pinned (OpenSpec.ofChange headerMapsSpec)

/-- ITS FALSE NEIGHBOUR: 'it returns false'. Refute it at one input. -/
def headerMapsWrong : ChangeSpec := { name := "headerMaps", fn := fun _ => fun
  | [d] => { results := [.lit (.bool false)], args := [d] }
  | _ => none }
def HeaderMapsWrongFalsely : Prop := headerMapsRow.holds Try.pinned (OpenSpec.ofChange headerMapsWrong)

/- THE SECOND FORM. 'bulk': how many values and letters a reading holds, each counted each time it is reached (what is shared counts as often as it is met; a slice's spare places count too). A statement '..UptoSaid' is the law's where the arguments, and the package variables that the reading takes, are together of bulk at most 1048576: NARROWER than '..Said'. Prove '..Said' where nothing that the law and all that it calls make is longer than what came in: it says more and counts as full. Else prove '..UptoSaid'. A law counts once. -/
mutual
def uptoBulk {H : Type} : DataW H → Nat
  | .lit (.string bytes) => bytes.length + 1
  | .lit _ => 1
  | .nil => 1
  | .ptr d => uptoBulk d + 1
  | .slice elems spare => uptoBulkAll elems + uptoBulkAll spare + 1
  | .agg parts => uptoBulkAll parts + 1
  | .iface _ d => uptoBulk d + 1
  | .map entries => uptoBulkEntries entries + 1
  | .held _ => 1
def uptoBulkAll {H : Type} : List (DataW H) → Nat
  | [] => 0
  | d :: r => uptoBulk d + uptoBulkAll r
def uptoBulkEntries {H : Type} : List (Lit × DataW H) → Nat
  | [] => 0
  | x :: r => uptoBulkEntry x + uptoBulkEntries r
def uptoBulkEntry {H : Type} : Lit × DataW H → Nat
  | (.string bytes, d) => bytes.length + uptoBulk d + 1
  | (_, d) => uptoBulk d + 1
 end
def uptoSmall : (H : Type) → List (DataW H) → Bool := fun _ ds => decide (uptoBulkAll ds ≤ 1048576)
def OpenSpec.upto (s : _root_.Go.ChangeSpec) : _root_.Go.OpenSpec := { _root_.Go.OpenSpec.ofChange s with cond := some uptoSmall }

/-- 'grottolaw07.HeaderParses', WHERE WHAT IT READS IS OF BULK AT MOST 1048576: true; the input reads as it did. -/
def headerParsesUptoRow : OpenClaim := { program := "ytpklekleehcglaa", sum := "3ecfb0b2847a3521666c21fd961dda81927b66bb1d03cc957f964a951788910b", func := "grotto/grottolaw07.HeaderParses", spec := "headerParses", apart := false, narrowed := true }
def HeaderParsesUptoSaid : Prop := headerParsesUptoRow.holds Try.pinned (OpenSpec.upto headerParsesSpec)

/-- 'grottolaw07.HeaderSums', WHERE WHAT IT READS IS OF BULK AT MOST 1048576: true; the input reads as it did. -/
def headerSumsUptoRow : OpenClaim := { program := "ytpklekleehcglaa", sum := "3ecfb0b2847a3521666c21fd961dda81927b66bb1d03cc957f964a951788910b", func := "grotto/grottolaw07.HeaderSums", spec := "headerSums", apart := false, narrowed := true }
def HeaderSumsUptoSaid : Prop := headerSumsUptoRow.holds Try.pinned (OpenSpec.upto headerSumsSpec)

/-- 'grottolaw07.HeaderMakes', WHERE WHAT IT READS IS OF BULK AT MOST 1048576: true; the input reads as it did. -/
def headerMakesUptoRow : OpenClaim := { program := "ytpklekleehcglaa", sum := "3ecfb0b2847a3521666c21fd961dda81927b66bb1d03cc957f964a951788910b", func := "grotto/grottolaw07.HeaderMakes", spec := "headerMakes", apart := false, narrowed := true }
def HeaderMakesUptoSaid : Prop := headerMakesUptoRow.holds Try.pinned (OpenSpec.upto headerMakesSpec)

/-- 'grottolaw07.HeaderBack', WHERE WHAT IT READS IS OF BULK AT MOST 1048576: true; the input reads as it did. -/
def headerBackUptoRow : OpenClaim := { program := "ytpklekleehcglaa", sum := "3ecfb0b2847a3521666c21fd961dda81927b66bb1d03cc957f964a951788910b", func := "grotto/grottolaw07.HeaderBack", spec := "headerBack", apart := false, narrowed := true }
def HeaderBackUptoSaid : Prop := headerBackUptoRow.holds Try.pinned (OpenSpec.upto headerBackSpec)

/-- 'grottolaw07.HeaderTurned', WHERE WHAT IT READS IS OF BULK AT MOST 1048576: true; the input reads as it did. -/
def headerTurnedUptoRow : OpenClaim := { program := "ytpklekleehcglaa", sum := "3ecfb0b2847a3521666c21fd961dda81927b66bb1d03cc957f964a951788910b", func := "grotto/grottolaw07.HeaderTurned", spec := "headerTurned", apart := false, narrowed := true }
def HeaderTurnedUptoSaid : Prop := headerTurnedUptoRow.holds Try.pinned (OpenSpec.upto headerTurnedSpec)

/-- 'grottolaw07.HeaderPieces', WHERE WHAT IT READS IS OF BULK AT MOST 1048576: true; the input reads as it did. -/
def headerPiecesUptoRow : OpenClaim := { program := "ytpklekleehcglaa", sum := "3ecfb0b2847a3521666c21fd961dda81927b66bb1d03cc957f964a951788910b", func := "grotto/grottolaw07.HeaderPieces", spec := "headerPieces", apart := false, narrowed := true }
def HeaderPiecesUptoSaid : Prop := headerPiecesUptoRow.holds Try.pinned (OpenSpec.upto headerPiecesSpec)

/-- 'grottolaw07.HeaderMaps', WHERE WHAT IT READS IS OF BULK AT MOST 1048576: true; the input reads as it did. -/
def headerMapsUptoRow : OpenClaim := { program := "ytpklekleehcglaa", sum := "3ecfb0b2847a3521666c21fd961dda81927b66bb1d03cc957f964a951788910b", func := "grotto/grottolaw07.HeaderMaps", spec := "headerMaps", apart := false, narrowed := true }
def HeaderMapsUptoSaid : Prop := headerMapsUptoRow.holds Try.pinned (OpenSpec.upto headerMapsSpec)

end Rows
end Go.Proofs.Ytpklekleehcglaa
