-- by a program of this claim
import Derived.Test.YtefdfmnlcfopaaaProg
import Derived.Below
import Derived.Deep.Draws
import Derived.Deep.AppendLies
import Derived.Maps.AppendAt
import Derived.OwnWalk
import Derived.Laws.BytesArg
import Derived.Laws.MakeOwn
import Derived.Laws.OwnMore
import Derived.Deep.OwnRows
import Derived.Tactics
import Derived.Lib.ConvBytes
import Derived.Laws.Slices
import Derived.WalkKit
import Derived.KernelRfl
import Derived.RowKit3
import Derived.Deep.LoopGhost
import Derived.Deep.QuietTactic
import Derived.BigQuiet
import Derived.WideLaws
import Derived.Deep.DeepCutAuto
import Derived.Deep.CutBlock
import Derived.Deep.RegionHeld3
import Derived.Laws.Rows
import Derived.Laws.Externs
import Derived.Lib.AppendStr
import Derived.ArgAppend
import Derived.Laws.IdiomCopy
import Derived.OrdersHeld
import Derived.Laws.BitsLemmas
import Derived.RowKit
import Derived.Test.YtefdfmnlcfopaaaWWords
import Derived.Test.YtefdfmnlcfopaaaWLast
import Derived.Test.YtefdfmnlcfopaaaWTab
import Derived.Test.YtefdfmnlcfopaaaWFour
import Derived.Test.YtefdfmnlcfopaaaWQPut
import Derived.Test.YtefdfmnlcfopaaaWApart
import Derived.Test.YtefdfmnlcfopaaaWArr
import Derived.Test.YtefdfmnlcfopaaaWZeros
import Derived.Test.YtefdfmnlcfopaaaWFoot
import Derived.Test.YtefdfmnlcfopaaaWKept
import Derived.Test.YtefdfmnlcfopaaaWShare
import Derived.Test.YtefdfmnlcfopaaaWN
import Derived.Test.YtefdfmnlcfopaaaWFootNe
import Derived.Test.YtefdfmnlcfopaaaWAt
import Derived.Test.YtefdfmnlcfopaaaWEqStruct
import Derived.Test.YtefdfmnlcfopaaaWRepsOne
import Derived.Test.YtefdfmnlcfopaaaWInv
import Derived.Test.YtefdfmnlcfopaaaWInvWords
import Derived.Test.YtefdfmnlcfopaaaWGuard
import Derived.Test.YtefdfmnlcfopaaaWNEv
import Derived.Test.YtefdfmnlcfopaaaWMore
import Derived.Test.YtefdfmnlcfopaaaZ
namespace Go.Proofs.Ytefdfmnlcfopaaa.PQ
open Go.RowKit Go.Proofs.YtefdfmnlcfopaaaW.PrintWords Go.Proofs.YtefdfmnlcfopaaaW.PrintLast Go.Proofs.YtefdfmnlcfopaaaW.PrintMore Go.Proofs.Ytefdfmnlcfopaaa.Z
attribute [local go_sem] max2_int min2_int max_two min_two max_three min_three max_four min_four   -- for this text's walks alone
set_option linter.unusedVariables false
set_option linter.unusedSimpArgs false



def errW : Option Int → Value
  | none => .nilIface
  | some c => .iface 0 (.int .i64 c)
theorem errW_none : errW none = .nilIface := rfl
theorem errW_some (c : Int) : errW (some c) = .iface 0 (.int .i64 c) := rfl

-- the values' own types

end Go.Proofs.Ytefdfmnlcfopaaa.PQ
