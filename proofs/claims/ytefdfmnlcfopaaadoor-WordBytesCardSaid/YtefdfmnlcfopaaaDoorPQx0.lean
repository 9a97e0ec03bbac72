-- by a program of this claim
import Derived.Test.YtefdfmnlcfopaaaDoorProg
import Derived.Below
import Derived.Deep.Draws
import Derived.Deep.AppendLies
import Derived.Maps.AppendAt
import Derived.OwnWalk
import Derived.Laws.BytesArg
import Derived.Laws.MakeOwn
import Derived.Laws.OwnMore
import Derived.Deep.OwnRows
import Derived.Tactics
import Derived.Lib.ConvBytes
import Derived.Laws.Slices
import Derived.WalkKit
import Derived.KernelRfl
import Derived.RowKit3
import Derived.Deep.LoopGhost
import Derived.Deep.QuietTactic
import Derived.BigQuiet
import Derived.WideLaws
import Derived.Deep.DeepCutAuto
import Derived.Deep.CutBlock
import Derived.Deep.RegionHeld3
import Derived.Laws.Rows
import Derived.Laws.Externs
import Derived.Lib.AppendStr
import Derived.ArgAppend
import Derived.Laws.IdiomCopy
import Derived.OrdersHeld
import Derived.Laws.BitsLemmas
import Derived.RowKit
import Derived.Test.YtefdfmnlcfopaaaDoorWWords
import Derived.Test.YtefdfmnlcfopaaaDoorWLast
import Derived.Test.YtefdfmnlcfopaaaDoorWTab
import Derived.Test.YtefdfmnlcfopaaaDoorWFour
import Derived.Test.YtefdfmnlcfopaaaDoorWQPut
import Derived.Test.YtefdfmnlcfopaaaDoorWApart
import Derived.Test.YtefdfmnlcfopaaaDoorWArr
import Derived.Test.YtefdfmnlcfopaaaDoorWZeros
import Derived.Test.YtefdfmnlcfopaaaDoorWFoot
import Derived.Test.YtefdfmnlcfopaaaDoorWKept
import Derived.Test.YtefdfmnlcfopaaaDoorWShare
import Derived.Test.YtefdfmnlcfopaaaDoorWN
import Derived.Test.YtefdfmnlcfopaaaDoorWFootNe
import Derived.Test.YtefdfmnlcfopaaaDoorWAt
import Derived.Test.YtefdfmnlcfopaaaDoorWEqStruct
import Derived.Test.YtefdfmnlcfopaaaDoorWRepsOne
import Derived.Test.YtefdfmnlcfopaaaDoorWInv
import Derived.Test.YtefdfmnlcfopaaaDoorWInvWords
import Derived.Test.YtefdfmnlcfopaaaDoorWGuard
import Derived.Test.YtefdfmnlcfopaaaDoorWNEv
import Derived.Test.YtefdfmnlcfopaaaDoorWMore
import Derived.Test.YtefdfmnlcfopaaaDoorZ
namespace Go.Proofs.YtefdfmnlcfopaaaDoor.PQ
open Go.RowKit Go.Proofs.YtefdfmnlcfopaaaDoorW.PrintWords Go.Proofs.YtefdfmnlcfopaaaDoorW.PrintLast Go.Proofs.YtefdfmnlcfopaaaDoorW.PrintMore Go.Proofs.YtefdfmnlcfopaaaDoor.Z
attribute [local go_sem] max2_int min2_int max_two min_two max_three min_three max_four min_four   -- for this text's walks alone
set_option linter.unusedVariables false
set_option linter.unusedSimpArgs false



def errW : Option Int → Value
  | none => .nilIface
  | some c => .iface 61 (.int .i64 c)
theorem errW_none : errW none = .nilIface := rfl
theorem errW_some (c : Int) : errW (some c) = .iface 61 (.int .i64 c) := rfl

theorem info5 : (Tryd.prog.info? 5).map (fun i => (i.zero, i.size, i.bytes)) = some (some (.int .u8 0), 1, 1) := by kernel_rfl
-- the values' own types

end Go.Proofs.YtefdfmnlcfopaaaDoor.PQ
