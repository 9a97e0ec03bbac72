/-
  No cell of these rows narrows 'for every input' (looked for: loops, veiled, ifaces, maps, wideKeys, modest, calm, conditions, laid).
  DERIVED. THE GIVEN ROWS OF THIS SEAT. 6 by the template 'for every input the law returns true; each argument reads behind the call as it read before'; 0 by the template 'total and deterministic' (their statements: YtmpiifjckhcbmaaTotals.lean).
  GIVEN WITH THE SEED: the statements are not yours to turn. If you find one false, say at which input.
  Laid BY PROGRAM, IN A SANDBOX (cutbox-rows.mjs): the forced cells as the released guide's own fill.sh prints them over the translation fd99242932557a65… (all of the seat's roots in one cut). By AI agents, Wed Nov 11 2026. No macro, syntax, notation, axiom, sorry.
-/
import Derived.Test.YtmpiifjckhcbmaaChecked
import GoSem.Claim
import GoSem.ClaimJoined
import GoSem.ClaimMapViews
import Derived.JoinedTies
import Derived.KernelRfl
namespace Go.Proofs.Ytmpiifjckhcbmaa
/- THE CELL 'sum', in the pinned program and in every row, IS THE sha256 OF THE DUMP (.gsa) THAT YtmpiifjckhcbmaaProg.lean LOADS. Nothing in Lean hashes anything: it is a label: what it is worth is what the hold of that sum in a sandbox is worth. -/
noncomputable def Try.pinned : Pinned := { name := "ytmpiifjckhcbmaa", sum := "fd99242932557a65ecfd3a5c0baa686564aae9e355c9c95b87f61add26fd3225", checked := Try.checked }
namespace Rows
def none {H : Type} : Left H := { results := [], args := [] }

/-- 'grottolaw18.AccelRegions': WHATEVER THE INPUT: true; the input reads as it did. -/
def accelRegionsSpec : ChangeSpec := { name := "accelRegions", fn := fun _ => fun
  | [d1, d2, d3] => { results := [.lit (.bool true)], args := [d1, d2, d3] }
  | _ => none }
def accelRegionsRow : OpenClaim := { program := "ytmpiifjckhcbmaa", sum := "fd99242932557a65ecfd3a5c0baa686564aae9e355c9c95b87f61add26fd3225", func := "grotto/grottolaw18.AccelRegions", spec := "accelRegions", inPlace := ["internal/bytealg.Compare"], unfollowed := true, recurses := true, apart := false }
def AccelRegionsSaid : Prop := accelRegionsRow.holds Try.pinned (OpenSpec.ofChange accelRegionsSpec)

/-- ITS FALSE NEIGHBOUR: 'it returns false'. Refute it at one input. -/
def accelRegionsWrong : ChangeSpec := { name := "accelRegions", fn := fun _ => fun
  | [d1, d2, d3] => { results := [.lit (.bool false)], args := [d1, d2, d3] }
  | _ => none }
def AccelRegionsWrongFalsely : Prop := accelRegionsRow.holds Try.pinned (OpenSpec.ofChange accelRegionsWrong)

/-- 'grottolaw18.AccelProps': WHATEVER THE INPUT: true; the input reads as it did. -/
def accelPropsSpec : ChangeSpec := { name := "accelProps", fn := fun _ => fun
  | [d1, d2, d3] => { results := [.lit (.bool true)], args := [d1, d2, d3] }
  | _ => none }
def accelPropsRow : OpenClaim := { program := "ytmpiifjckhcbmaa", sum := "fd99242932557a65ecfd3a5c0baa686564aae9e355c9c95b87f61add26fd3225", func := "grotto/grottolaw18.AccelProps", spec := "accelProps", inPlace := ["internal/bytealg.Compare"], unfollowed := true, recurses := true, apart := false }
def AccelPropsSaid : Prop := accelPropsRow.holds Try.pinned (OpenSpec.ofChange accelPropsSpec)

/-- ITS FALSE NEIGHBOUR: 'it returns false'. Refute it at one input. -/
def accelPropsWrong : ChangeSpec := { name := "accelProps", fn := fun _ => fun
  | [d1, d2, d3] => { results := [.lit (.bool false)], args := [d1, d2, d3] }
  | _ => none }
def AccelPropsWrongFalsely : Prop := accelPropsRow.holds Try.pinned (OpenSpec.ofChange accelPropsWrong)

/-- 'grottolaw18.AccelClasses': WHATEVER THE INPUT: true; the input reads as it did. -/
def accelClassesSpec : ChangeSpec := { name := "accelClasses", fn := fun _ => fun
  | [d1, d2] => { results := [.lit (.bool true)], args := [d1, d2] }
  | _ => none }
def accelClassesRow : OpenClaim := { program := "ytmpiifjckhcbmaa", sum := "fd99242932557a65ecfd3a5c0baa686564aae9e355c9c95b87f61add26fd3225", func := "grotto/grottolaw18.AccelClasses", spec := "accelClasses", inPlace := ["internal/bytealg.Compare"], unfollowed := true, recurses := true, apart := false }
def AccelClassesSaid : Prop := accelClassesRow.holds Try.pinned (OpenSpec.ofChange accelClassesSpec)

/-- ITS FALSE NEIGHBOUR: 'it returns false'. Refute it at one input. -/
def accelClassesWrong : ChangeSpec := { name := "accelClasses", fn := fun _ => fun
  | [d1, d2] => { results := [.lit (.bool false)], args := [d1, d2] }
  | _ => none }
def AccelClassesWrongFalsely : Prop := accelClassesRow.holds Try.pinned (OpenSpec.ofChange accelClassesWrong)

/-- 'grottolaw18.AccelOld': WHATEVER THE INPUT: true; the input reads as it did. -/
def accelOldSpec : ChangeSpec := { name := "accelOld", fn := fun _ => fun
  | [d1, d2] => { results := [.lit (.bool true)], args := [d1, d2] }
  | _ => none }
def accelOldRow : OpenClaim := { program := "ytmpiifjckhcbmaa", sum := "fd99242932557a65ecfd3a5c0baa686564aae9e355c9c95b87f61add26fd3225", func := "grotto/grottolaw18.AccelOld", spec := "accelOld", inPlace := ["internal/bytealg.Compare"], unfollowed := true, recurses := true, apart := false }
def AccelOldSaid : Prop := accelOldRow.holds Try.pinned (OpenSpec.ofChange accelOldSpec)

/-- ITS FALSE NEIGHBOUR: 'it returns false'. Refute it at one input. -/
def accelOldWrong : ChangeSpec := { name := "accelOld", fn := fun _ => fun
  | [d1, d2] => { results := [.lit (.bool false)], args := [d1, d2] }
  | _ => none }
def AccelOldWrongFalsely : Prop := accelOldRow.holds Try.pinned (OpenSpec.ofChange accelOldWrong)

/-- 'grottolaw18.AccelTable': WHATEVER THE INPUT: true; the input reads as it did. -/
def accelTableSpec : ChangeSpec := { name := "accelTable", fn := fun _ => fun
  | [d] => { results := [.lit (.bool true)], args := [d] }
  | _ => none }
def accelTableRow : OpenClaim := { program := "ytmpiifjckhcbmaa", sum := "fd99242932557a65ecfd3a5c0baa686564aae9e355c9c95b87f61add26fd3225", func := "grotto/grottolaw18.AccelTable", spec := "accelTable", inPlace := ["internal/bytealg.Compare"], unfollowed := true, recurses := true, apart := false }
def AccelTableSaid : Prop := accelTableRow.holds Try.pinned (OpenSpec.ofChange accelTableSpec)

/-- ITS FALSE NEIGHBOUR: 'it returns false'. Refute it at one input. -/
def accelTableWrong : ChangeSpec := { name := "accelTable", fn := fun _ => fun
  | [d] => { results := [.lit (.bool false)], args := [d] }
  | _ => none }
def AccelTableWrongFalsely : Prop := accelTableRow.holds Try.pinned (OpenSpec.ofChange accelTableWrong)

/-- 'grottolaw18.AccelNil': WHATEVER THE INPUT: true; the input reads as it did. -/
def accelNilSpec : ChangeSpec := { name := "accelNil", fn := fun _ => fun
  | [d1, d2, d3] => { results := [.lit (.bool true)], args := [d1, d2, d3] }
  | _ => none }
def accelNilRow : OpenClaim := { program := "ytmpiifjckhcbmaa", sum := "fd99242932557a65ecfd3a5c0baa686564aae9e355c9c95b87f61add26fd3225", func := "grotto/grottolaw18.AccelNil", spec := "accelNil", inPlace := ["internal/bytealg.Compare"], unfollowed := true, recurses := true, apart := false }
def AccelNilSaid : Prop := accelNilRow.holds Try.pinned (OpenSpec.ofChange accelNilSpec)

/-- ITS FALSE NEIGHBOUR: 'it returns false'. Refute it at one input. -/
def accelNilWrong : ChangeSpec := { name := "accelNil", fn := fun _ => fun
  | [d1, d2, d3] => { results := [.lit (.bool false)], args := [d1, d2, d3] }
  | _ => none }
def AccelNilWrongFalsely : Prop := accelNilRow.holds Try.pinned (OpenSpec.ofChange accelNilWrong)

/- THE SECOND FORM. 'bulk': how many values and letters a reading holds, each counted each time it is reached (what is shared counts as often as it is met; a slice's spare places count too). A statement '..UptoSaid' is the law's where the arguments, and the package variables that the reading takes, are together of bulk at most 1048576: NARROWER than '..Said'. Prove '..Said' where nothing that the law and all that it calls make is longer than what came in: it says more and counts as full. Else prove '..UptoSaid'. A law counts once. -/
mutual
def uptoBulk {H : Type} : DataW H → Nat
  | .lit (.string bytes) => bytes.length + 1
  | .lit _ => 1
  | .nil => 1
  | .ptr d => uptoBulk d + 1
  | .slice elems spare => uptoBulkAll elems + uptoBulkAll spare + 1
  | .agg parts => uptoBulkAll parts + 1
  | .iface _ d => uptoBulk d + 1
  | .map entries => uptoBulkEntries entries + 1
  | .held _ => 1
def uptoBulkAll {H : Type} : List (DataW H) → Nat
  | [] => 0
  | d :: r => uptoBulk d + uptoBulkAll r
def uptoBulkEntries {H : Type} : List (Lit × DataW H) → Nat
  | [] => 0
  | x :: r => uptoBulkEntry x + uptoBulkEntries r
def uptoBulkEntry {H : Type} : Lit × DataW H → Nat
  | (.string bytes, d) => bytes.length + uptoBulk d + 1
  | (_, d) => uptoBulk d + 1
 end
def uptoSmall : (H : Type) → List (DataW H) → Bool := fun _ ds => decide (uptoBulkAll ds ≤ 1048576)
def OpenSpec.upto (s : _root_.Go.ChangeSpec) : _root_.Go.OpenSpec := { _root_.Go.OpenSpec.ofChange s with cond := some uptoSmall }

/-- 'grottolaw18.AccelRegions', WHERE WHAT IT READS IS OF BULK AT MOST 1048576: true; the input reads as it did. -/
def accelRegionsUptoRow : OpenClaim := { program := "ytmpiifjckhcbmaa", sum := "fd99242932557a65ecfd3a5c0baa686564aae9e355c9c95b87f61add26fd3225", func := "grotto/grottolaw18.AccelRegions", spec := "accelRegions", inPlace := ["internal/bytealg.Compare"], unfollowed := true, recurses := true, apart := false, narrowed := true }
def AccelRegionsUptoSaid : Prop := accelRegionsUptoRow.holds Try.pinned (OpenSpec.upto accelRegionsSpec)

/-- 'grottolaw18.AccelProps', WHERE WHAT IT READS IS OF BULK AT MOST 1048576: true; the input reads as it did. -/
def accelPropsUptoRow : OpenClaim := { program := "ytmpiifjckhcbmaa", sum := "fd99242932557a65ecfd3a5c0baa686564aae9e355c9c95b87f61add26fd3225", func := "grotto/grottolaw18.AccelProps", spec := "accelProps", inPlace := ["internal/bytealg.Compare"], unfollowed := true, recurses := true, apart := false, narrowed := true }
def AccelPropsUptoSaid : Prop := accelPropsUptoRow.holds Try.pinned (OpenSpec.upto accelPropsSpec)

/-- 'grottolaw18.AccelClasses', WHERE WHAT IT READS IS OF BULK AT MOST 1048576: true; the input reads as it did. -/
def accelClassesUptoRow : OpenClaim := { program := "ytmpiifjckhcbmaa", sum := "fd99242932557a65ecfd3a5c0baa686564aae9e355c9c95b87f61add26fd3225", func := "grotto/grottolaw18.AccelClasses", spec := "accelClasses", inPlace := ["internal/bytealg.Compare"], unfollowed := true, recurses := true, apart := false, narrowed := true }
def AccelClassesUptoSaid : Prop := accelClassesUptoRow.holds Try.pinned (OpenSpec.upto accelClassesSpec)

/-- 'grottolaw18.AccelOld', WHERE WHAT IT READS IS OF BULK AT MOST 1048576: true; the input reads as it did. -/
def accelOldUptoRow : OpenClaim := { program := "ytmpiifjckhcbmaa", sum := "fd99242932557a65ecfd3a5c0baa686564aae9e355c9c95b87f61add26fd3225", func := "grotto/grottolaw18.AccelOld", spec := "accelOld", inPlace := ["internal/bytealg.Compare"], unfollowed := true, recurses := true, apart := false, narrowed := true }
def AccelOldUptoSaid : Prop := accelOldUptoRow.holds Try.pinned (OpenSpec.upto accelOldSpec)

/-- 'grottolaw18.AccelTable', WHERE WHAT IT READS IS OF BULK AT MOST 1048576: true; the input reads as it did. -/
def accelTableUptoRow : OpenClaim := { program := "ytmpiifjckhcbmaa", sum := "fd99242932557a65ecfd3a5c0baa686564aae9e355c9c95b87f61add26fd3225", func := "grotto/grottolaw18.AccelTable", spec := "accelTable", inPlace := ["internal/bytealg.Compare"], unfollowed := true, recurses := true, apart := false, narrowed := true }
def AccelTableUptoSaid : Prop := accelTableUptoRow.holds Try.pinned (OpenSpec.upto accelTableSpec)

/-- 'grottolaw18.AccelNil', WHERE WHAT IT READS IS OF BULK AT MOST 1048576: true; the input reads as it did. -/
def accelNilUptoRow : OpenClaim := { program := "ytmpiifjckhcbmaa", sum := "fd99242932557a65ecfd3a5c0baa686564aae9e355c9c95b87f61add26fd3225", func := "grotto/grottolaw18.AccelNil", spec := "accelNil", inPlace := ["internal/bytealg.Compare"], unfollowed := true, recurses := true, apart := false, narrowed := true }
def AccelNilUptoSaid : Prop := accelNilUptoRow.holds Try.pinned (OpenSpec.upto accelNilSpec)

end Rows
end Go.Proofs.Ytmpiifjckhcbmaa
