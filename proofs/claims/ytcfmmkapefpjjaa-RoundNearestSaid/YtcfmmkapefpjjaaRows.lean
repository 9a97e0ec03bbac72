/-
  No cell of these rows narrows 'for every input' (looked for: loops, veiled, ifaces, maps, wideKeys, modest, calm, conditions, laid).
  DERIVED. THE GIVEN ROWS OF THIS SEAT. 7 by the template 'for every input the law returns true; each argument reads behind the call as it read before'; 0 by the template 'total and deterministic' (their statements: YtcfmmkapefpjjaaTotals.lean).
  GIVEN WITH THE SEED: the statements are not yours to turn. If you find one false, say at which input.
  Laid BY PROGRAM, IN A SANDBOX (cutbox-rows.mjs): the forced cells as the released guide's own fill.sh prints them over the translation 814e202a85adff7b… (all of the seat's roots in one cut). By AI agents, Wed Nov 11 2026. No macro, syntax, notation, axiom, sorry.
-/
import Derived.Test.YtcfmmkapefpjjaaChecked
import GoSem.Claim
import GoSem.ClaimJoined
import GoSem.ClaimMapViews
import Derived.JoinedTies
import Derived.KernelRfl
namespace Go.Proofs.Ytcfmmkapefpjjaa
/- THE CELL 'sum', in the pinned program and in every row, IS THE sha256 OF THE DUMP (.gsa) THAT YtcfmmkapefpjjaaProg.lean LOADS. Nothing in Lean hashes anything: it is a label: what it is worth is what the hold of that sum in a sandbox is worth. -/
noncomputable def Try.pinned : Pinned := { name := "ytcfmmkapefpjjaa", sum := "814e202a85adff7be5f9c41eacb24b51165a9b53decc5c2fac9daad6ee628aff", checked := Try.checked }
namespace Rows
def none {H : Type} : Left H := { results := [], args := [] }

/-- 'grottolaw02.RoundPacks': WHATEVER THE INPUT: true; the input reads as it did. -/
def roundPacksSpec : ChangeSpec := { name := "roundPacks", fn := fun _ => fun
  | [d1, d2, d3, d4, d5, d6] => { results := [.lit (.bool true)], args := [d1, d2, d3, d4, d5, d6] }
  | _ => none }
def roundPacksRow : OpenClaim := { program := "ytcfmmkapefpjjaa", sum := "814e202a85adff7be5f9c41eacb24b51165a9b53decc5c2fac9daad6ee628aff", func := "grotto/grottolaw02.RoundPacks", spec := "roundPacks", apart := false }
def RoundPacksSaid : Prop := roundPacksRow.holds Try.pinned (OpenSpec.ofChange roundPacksSpec)

/-- ITS FALSE NEIGHBOUR: 'it returns false'. Refute it at one input. -/
def roundPacksWrong : ChangeSpec := { name := "roundPacks", fn := fun _ => fun
  | [d1, d2, d3, d4, d5, d6] => { results := [.lit (.bool false)], args := [d1, d2, d3, d4, d5, d6] }
  | _ => none }
def RoundPacksWrongFalsely : Prop := roundPacksRow.holds Try.pinned (OpenSpec.ofChange roundPacksWrong)

/-- 'grottolaw02.RoundNearest': WHATEVER THE INPUT: true; the input reads as it did. -/
def roundNearestSpec : ChangeSpec := { name := "roundNearest", fn := fun _ => fun
  | [d1, d2, d3] => { results := [.lit (.bool true)], args := [d1, d2, d3] }
  | _ => none }
def roundNearestRow : OpenClaim := { program := "ytcfmmkapefpjjaa", sum := "814e202a85adff7be5f9c41eacb24b51165a9b53decc5c2fac9daad6ee628aff", func := "grotto/grottolaw02.RoundNearest", spec := "roundNearest", apart := false }
def RoundNearestSaid : Prop := roundNearestRow.holds Try.pinned (OpenSpec.ofChange roundNearestSpec)

/-- ITS FALSE NEIGHBOUR: 'it returns false'. Refute it at one input. -/
def roundNearestWrong : ChangeSpec := { name := "roundNearest", fn := fun _ => fun
  | [d1, d2, d3] => { results := [.lit (.bool false)], args := [d1, d2, d3] }
  | _ => none }
def RoundNearestWrongFalsely : Prop := roundNearestRow.holds Try.pinned (OpenSpec.ofChange roundNearestWrong)

/-- 'grottolaw02.RoundOrder': WHATEVER THE INPUT: true; the input reads as it did. -/
def roundOrderSpec : ChangeSpec := { name := "roundOrder", fn := fun _ => fun
  | [d1, d2, d3, d4] => { results := [.lit (.bool true)], args := [d1, d2, d3, d4] }
  | _ => none }
def roundOrderRow : OpenClaim := { program := "ytcfmmkapefpjjaa", sum := "814e202a85adff7be5f9c41eacb24b51165a9b53decc5c2fac9daad6ee628aff", func := "grotto/grottolaw02.RoundOrder", spec := "roundOrder", apart := false }
def RoundOrderSaid : Prop := roundOrderRow.holds Try.pinned (OpenSpec.ofChange roundOrderSpec)

/-- ITS FALSE NEIGHBOUR: 'it returns false'. Refute it at one input. -/
def roundOrderWrong : ChangeSpec := { name := "roundOrder", fn := fun _ => fun
  | [d1, d2, d3, d4] => { results := [.lit (.bool false)], args := [d1, d2, d3, d4] }
  | _ => none }
def RoundOrderWrongFalsely : Prop := roundOrderRow.holds Try.pinned (OpenSpec.ofChange roundOrderWrong)

/-- 'grottolaw02.RoundScales': WHATEVER THE INPUT: true; the input reads as it did. -/
def roundScalesSpec : ChangeSpec := { name := "roundScales", fn := fun _ => fun
  | [d1, d2, d3, d4] => { results := [.lit (.bool true)], args := [d1, d2, d3, d4] }
  | _ => none }
def roundScalesRow : OpenClaim := { program := "ytcfmmkapefpjjaa", sum := "814e202a85adff7be5f9c41eacb24b51165a9b53decc5c2fac9daad6ee628aff", func := "grotto/grottolaw02.RoundScales", spec := "roundScales", apart := false }
def RoundScalesSaid : Prop := roundScalesRow.holds Try.pinned (OpenSpec.ofChange roundScalesSpec)

/-- ITS FALSE NEIGHBOUR: 'it returns false'. Refute it at one input. -/
def roundScalesWrong : ChangeSpec := { name := "roundScales", fn := fun _ => fun
  | [d1, d2, d3, d4] => { results := [.lit (.bool false)], args := [d1, d2, d3, d4] }
  | _ => none }
def RoundScalesWrongFalsely : Prop := roundScalesRow.holds Try.pinned (OpenSpec.ofChange roundScalesWrong)

/-- 'grottolaw02.RoundMore': WHATEVER THE INPUT: true; the input reads as it did. -/
def roundMoreSpec : ChangeSpec := { name := "roundMore", fn := fun _ => fun
  | [d1, d2, d3] => { results := [.lit (.bool true)], args := [d1, d2, d3] }
  | _ => none }
def roundMoreRow : OpenClaim := { program := "ytcfmmkapefpjjaa", sum := "814e202a85adff7be5f9c41eacb24b51165a9b53decc5c2fac9daad6ee628aff", func := "grotto/grottolaw02.RoundMore", spec := "roundMore", apart := false }
def RoundMoreSaid : Prop := roundMoreRow.holds Try.pinned (OpenSpec.ofChange roundMoreSpec)

/-- ITS FALSE NEIGHBOUR: 'it returns false'. Refute it at one input. -/
def roundMoreWrong : ChangeSpec := { name := "roundMore", fn := fun _ => fun
  | [d1, d2, d3] => { results := [.lit (.bool false)], args := [d1, d2, d3] }
  | _ => none }
def RoundMoreWrongFalsely : Prop := roundMoreRow.holds Try.pinned (OpenSpec.ofChange roundMoreWrong)

/-- 'grottolaw02.RoundOpens': WHATEVER THE INPUT: true; the input reads as it did. -/
def roundOpensSpec : ChangeSpec := { name := "roundOpens", fn := fun _ => fun
  | [d1, d2, d3] => { results := [.lit (.bool true)], args := [d1, d2, d3] }
  | _ => none }
def roundOpensRow : OpenClaim := { program := "ytcfmmkapefpjjaa", sum := "814e202a85adff7be5f9c41eacb24b51165a9b53decc5c2fac9daad6ee628aff", func := "grotto/grottolaw02.RoundOpens", spec := "roundOpens", apart := false }
def RoundOpensSaid : Prop := roundOpensRow.holds Try.pinned (OpenSpec.ofChange roundOpensSpec)

/-- ITS FALSE NEIGHBOUR: 'it returns false'. Refute it at one input. -/
def roundOpensWrong : ChangeSpec := { name := "roundOpens", fn := fun _ => fun
  | [d1, d2, d3] => { results := [.lit (.bool false)], args := [d1, d2, d3] }
  | _ => none }
def RoundOpensWrongFalsely : Prop := roundOpensRow.holds Try.pinned (OpenSpec.ofChange roundOpensWrong)

/-- 'grottolaw02.RoundBack': WHATEVER THE INPUT: true; the input reads as it did. -/
def roundBackSpec : ChangeSpec := { name := "roundBack", fn := fun _ => fun
  | [d1, d2] => { results := [.lit (.bool true)], args := [d1, d2] }
  | _ => none }
def roundBackRow : OpenClaim := { program := "ytcfmmkapefpjjaa", sum := "814e202a85adff7be5f9c41eacb24b51165a9b53decc5c2fac9daad6ee628aff", func := "grotto/grottolaw02.RoundBack", spec := "roundBack", apart := false }
def RoundBackSaid : Prop := roundBackRow.holds Try.pinned (OpenSpec.ofChange roundBackSpec)

/-- ITS FALSE NEIGHBOUR: 'it returns false'. Refute it at one input. -/
def roundBackWrong : ChangeSpec := { name := "roundBack", fn := fun _ => fun
  | [d1, d2] => { results := [.lit (.bool false)], args := [d1, d2] }
  | _ => none }
def RoundBackWrongFalsely : Prop := roundBackRow.holds Try.pinned (OpenSpec.ofChange roundBackWrong)

/- THE SECOND FORM. 'bulk': how many values and letters a reading holds, each counted each time it is reached (what is shared counts as often as it is met; a slice's spare places count too). A statement '..UptoSaid' is the law's where the arguments, and the package variables that the reading takes, are together of bulk at most 1048576: NARROWER than '..Said'. Prove '..Said' where nothing that the law and all that it calls make is longer than what came in: it says more and counts as full. Else prove '..UptoSaid'. A law counts once. -/
mutual
def uptoBulk {H : Type} : DataW H → Nat
  | .lit (.string bytes) => bytes.length + 1
  | .lit _ => 1
  | .nil => 1
  | .ptr d => uptoBulk d + 1
  | .slice elems spare => uptoBulkAll elems + uptoBulkAll spare + 1
  | .agg parts => uptoBulkAll parts + 1
  | .iface _ d => uptoBulk d + 1
  | .map entries => uptoBulkEntries entries + 1
  | .held _ => 1
def uptoBulkAll {H : Type} : List (DataW H) → Nat
  | [] => 0
  | d :: r => uptoBulk d + uptoBulkAll r
def uptoBulkEntries {H : Type} : List (Lit × DataW H) → Nat
  | [] => 0
  | x :: r => uptoBulkEntry x + uptoBulkEntries r
def uptoBulkEntry {H : Type} : Lit × DataW H → Nat
  | (.string bytes, d) => bytes.length + uptoBulk d + 1
  | (_, d) => uptoBulk d + 1
 end
def uptoSmall : (H : Type) → List (DataW H) → Bool := fun _ ds => decide (uptoBulkAll ds ≤ 1048576)
def OpenSpec.upto (s : _root_.Go.ChangeSpec) : _root_.Go.OpenSpec := { _root_.Go.OpenSpec.ofChange s with cond := some uptoSmall }

/-- 'grottolaw02.RoundPacks', WHERE WHAT IT READS IS OF BULK AT MOST 1048576: true; the input reads as it did. -/
def roundPacksUptoRow : OpenClaim := { program := "ytcfmmkapefpjjaa", sum := "814e202a85adff7be5f9c41eacb24b51165a9b53decc5c2fac9daad6ee628aff", func := "grotto/grottolaw02.RoundPacks", spec := "roundPacks", apart := false, narrowed := true }
def RoundPacksUptoSaid : Prop := roundPacksUptoRow.holds Try.pinned (OpenSpec.upto roundPacksSpec)

/-- 'grottolaw02.RoundNearest', WHERE WHAT IT READS IS OF BULK AT MOST 1048576: true; the input reads as it did. -/
def roundNearestUptoRow : OpenClaim := { program := "ytcfmmkapefpjjaa", sum := "814e202a85adff7be5f9c41eacb24b51165a9b53decc5c2fac9daad6ee628aff", func := "grotto/grottolaw02.RoundNearest", spec := "roundNearest", apart := false, narrowed := true }
def RoundNearestUptoSaid : Prop := roundNearestUptoRow.holds Try.pinned (OpenSpec.upto roundNearestSpec)

/-- 'grottolaw02.RoundOrder', WHERE WHAT IT READS IS OF BULK AT MOST 1048576: true; the input reads as it did. -/
def roundOrderUptoRow : OpenClaim := { program := "ytcfmmkapefpjjaa", sum := "814e202a85adff7be5f9c41eacb24b51165a9b53decc5c2fac9daad6ee628aff", func := "grotto/grottolaw02.RoundOrder", spec := "roundOrder", apart := false, narrowed := true }
def RoundOrderUptoSaid : Prop := roundOrderUptoRow.holds Try.pinned (OpenSpec.upto roundOrderSpec)

/-- 'grottolaw02.RoundScales', WHERE WHAT IT READS IS OF BULK AT MOST 1048576: true; the input reads as it did. -/
def roundScalesUptoRow : OpenClaim := { program := "ytcfmmkapefpjjaa", sum := "814e202a85adff7be5f9c41eacb24b51165a9b53decc5c2fac9daad6ee628aff", func := "grotto/grottolaw02.RoundScales", spec := "roundScales", apart := false, narrowed := true }
def RoundScalesUptoSaid : Prop := roundScalesUptoRow.holds Try.pinned (OpenSpec.upto roundScalesSpec)

/-- 'grottolaw02.RoundMore', WHERE WHAT IT READS IS OF BULK AT MOST 1048576: true; the input reads as it did. -/
def roundMoreUptoRow : OpenClaim := { program := "ytcfmmkapefpjjaa", sum := "814e202a85adff7be5f9c41eacb24b51165a9b53decc5c2fac9daad6ee628aff", func := "grotto/grottolaw02.RoundMore", spec := "roundMore", apart := false, narrowed := true }
def RoundMoreUptoSaid : Prop := roundMoreUptoRow.holds Try.pinned (OpenSpec.upto roundMoreSpec)

/-- 'grottolaw02.RoundOpens', WHERE WHAT IT READS IS OF BULK AT MOST 1048576: true; the input reads as it did. -/
def roundOpensUptoRow : OpenClaim := { program := "ytcfmmkapefpjjaa", sum := "814e202a85adff7be5f9c41eacb24b51165a9b53decc5c2fac9daad6ee628aff", func := "grotto/grottolaw02.RoundOpens", spec := "roundOpens", apart := false, narrowed := true }
def RoundOpensUptoSaid : Prop := roundOpensUptoRow.holds Try.pinned (OpenSpec.upto roundOpensSpec)

/-- 'grottolaw02.RoundBack', WHERE WHAT IT READS IS OF BULK AT MOST 1048576: true; the input reads as it did. -/
def roundBackUptoRow : OpenClaim := { program := "ytcfmmkapefpjjaa", sum := "814e202a85adff7be5f9c41eacb24b51165a9b53decc5c2fac9daad6ee628aff", func := "grotto/grottolaw02.RoundBack", spec := "roundBack", apart := false, narrowed := true }
def RoundBackUptoSaid : Prop := roundBackUptoRow.holds Try.pinned (OpenSpec.upto roundBackSpec)

end Rows
end Go.Proofs.Ytcfmmkapefpjjaa
