/- Functions of the given program as Lean functions, and that the Go code comes to their answers; written by wip/print_hand.py out of the translation. -/
import Derived.Test.YtnchlddbcomokabProg
import Derived.Below
import Derived.Deep.Draws
import Derived.Deep.AppendLies
import Derived.Maps.AppendAt
import Derived.OwnWalk
import Derived.Laws.BytesArg
import Derived.Laws.MakeOwn
import Derived.Laws.OwnMore
import Derived.Deep.OwnRows
import Derived.Tactics
import Derived.Lib.ConvBytes
import Derived.Laws.Slices
import Derived.WalkKit
import Derived.KernelRfl
import Derived.RowKit3
import Derived.Deep.LoopGhost
import Derived.Deep.QuietTactic
import Derived.BigQuiet
import Derived.WideLaws
import Derived.Deep.DeepCutAuto
import Derived.Deep.CutBlock
import Derived.Deep.RegionHeld3
import Derived.Laws.Rows
import Derived.Lib.AppendStr
import Derived.ArgAppend
import Derived.Laws.IdiomCopy
import Derived.OrdersHeld
import Derived.Laws.BitsLemmas
import Derived.RowKit
import Derived.Test.YtnchlddbcomokabWWords
import Derived.Test.YtnchlddbcomokabWLast
import Derived.Test.YtnchlddbcomokabWTab
import Derived.Test.YtnchlddbcomokabWFour
import Derived.Test.YtnchlddbcomokabWQPut
import Derived.Test.YtnchlddbcomokabWApart
import Derived.Test.YtnchlddbcomokabWArr
import Derived.Test.YtnchlddbcomokabWZeros
import Derived.Test.YtnchlddbcomokabWFoot
import Derived.Test.YtnchlddbcomokabWKept
import Derived.Test.YtnchlddbcomokabWShare
import Derived.Test.YtnchlddbcomokabWN
import Derived.Test.YtnchlddbcomokabWFootNe
import Derived.Test.YtnchlddbcomokabWAt
import Derived.Test.YtnchlddbcomokabWEqStruct
import Derived.Test.YtnchlddbcomokabWRepsOne
import Derived.Test.YtnchlddbcomokabWInv
import Derived.Test.YtnchlddbcomokabWInvWords
import Derived.Test.YtnchlddbcomokabWGuard
import Derived.Test.YtnchlddbcomokabWNEv
import Derived.Test.YtnchlddbcomokabWMore
namespace Go.Proofs.Ytnchlddbcomokab.Hh
open Go.RowKit Go.Proofs.YtnchlddbcomokabW.PrintWords Go.Proofs.YtnchlddbcomokabW.PrintLast Go.Proofs.YtnchlddbcomokabW.PrintMore
attribute [local go_sem] max2_int min2_int max_two min_two max_three min_three max_four min_four   -- for this text's walks alone
set_option linter.unusedVariables false
set_option linter.unusedSimpArgs false



def errW : Option Int → Value
  | none => .nilIface
  | some c => .iface 0 (.int .i64 c)
theorem errW_none : errW none = .nilIface := rfl
theorem errW_some (c : Int) : errW (some c) = .iface 0 (.int .i64 c) := rfl

theorem info3 : (Try.prog.info? 3).map (fun i => (i.zero, i.size, i.bytes)) = some (some (.int .i64 0), 1, 8) := by kernel_rfl
-- the values' own types

end Go.Proofs.Ytnchlddbcomokab.Hh
