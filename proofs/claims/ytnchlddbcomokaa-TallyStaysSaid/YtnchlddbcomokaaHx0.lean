/- Functions of the given program as Lean functions, and that the Go code comes to their answers; written by wip/print_hand.py out of the translation. -/
import Derived.Test.YtnchlddbcomokaaProg
import Derived.Below
import Derived.Deep.Draws
import Derived.Deep.AppendLies
import Derived.Maps.AppendAt
import Derived.OwnWalk
import Derived.Laws.BytesArg
import Derived.Laws.MakeOwn
import Derived.Laws.OwnMore
import Derived.Deep.OwnRows
import Derived.Tactics
import Derived.Lib.ConvBytes
import Derived.Laws.Slices
import Derived.WalkKit
import Derived.KernelRfl
import Derived.RowKit3
import Derived.Deep.LoopGhost
import Derived.Deep.QuietTactic
import Derived.BigQuiet
import Derived.WideLaws
import Derived.Deep.DeepCutAuto
import Derived.Deep.CutBlock
import Derived.Deep.RegionHeld3
import Derived.Laws.Rows
import Derived.Lib.AppendStr
import Derived.ArgAppend
import Derived.Laws.IdiomCopy
import Derived.OrdersHeld
import Derived.Laws.BitsLemmas
import Derived.RowKit
import Derived.Test.YtnchlddbcomokaaWWords
import Derived.Test.YtnchlddbcomokaaWLast
import Derived.Test.YtnchlddbcomokaaWTab
import Derived.Test.YtnchlddbcomokaaWFour
import Derived.Test.YtnchlddbcomokaaWQPut
import Derived.Test.YtnchlddbcomokaaWApart
import Derived.Test.YtnchlddbcomokaaWArr
import Derived.Test.YtnchlddbcomokaaWZeros
import Derived.Test.YtnchlddbcomokaaWFoot
import Derived.Test.YtnchlddbcomokaaWKept
import Derived.Test.YtnchlddbcomokaaWShare
import Derived.Test.YtnchlddbcomokaaWN
import Derived.Test.YtnchlddbcomokaaWFootNe
import Derived.Test.YtnchlddbcomokaaWAt
import Derived.Test.YtnchlddbcomokaaWEqStruct
import Derived.Test.YtnchlddbcomokaaWRepsOne
import Derived.Test.YtnchlddbcomokaaWInv
import Derived.Test.YtnchlddbcomokaaWInvWords
import Derived.Test.YtnchlddbcomokaaWGuard
import Derived.Test.YtnchlddbcomokaaWNEv
import Derived.Test.YtnchlddbcomokaaWMore
namespace Go.Proofs.Ytnchlddbcomokaa.Hh
open Go.RowKit Go.Proofs.YtnchlddbcomokaaW.PrintWords Go.Proofs.YtnchlddbcomokaaW.PrintLast Go.Proofs.YtnchlddbcomokaaW.PrintMore
attribute [local go_sem] max2_int min2_int max_two min_two max_three min_three max_four min_four   -- for this text's walks alone
set_option linter.unusedVariables false
set_option linter.unusedSimpArgs false



def errW : Option Int → Value
  | none => .nilIface
  | some c => .iface 0 (.int .i64 c)
theorem errW_none : errW none = .nilIface := rfl
theorem errW_some (c : Int) : errW (some c) = .iface 0 (.int .i64 c) := rfl

theorem info3 : (Try.prog.info? 3).map (fun i => (i.zero, i.size, i.bytes)) = some (some (.int .i64 0), 1, 8) := by kernel_rfl
-- the values' own types

end Go.Proofs.Ytnchlddbcomokaa.Hh
