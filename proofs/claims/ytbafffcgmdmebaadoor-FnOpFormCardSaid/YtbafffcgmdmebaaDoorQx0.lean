-- Written by wip/tools/pprint.py (a program of this session) over the kit's printer; not trusted: Lean checks it.
import Derived.Test.YtbafffcgmdmebaaDoorProg
import Derived.Below
import Derived.Deep.Draws
import Derived.Deep.AppendLies
import Derived.Maps.AppendAt
import Derived.OwnWalk
import Derived.Laws.BytesArg
import Derived.Laws.MakeOwn
import Derived.Laws.OwnMore
import Derived.Deep.OwnRows
import Derived.Tactics
import Derived.Lib.ConvBytes
import Derived.Laws.Slices
import Derived.WalkKit
import Derived.KernelRfl
import Derived.RowKit3
import Derived.Deep.LoopGhost
import Derived.Deep.QuietTactic
import Derived.BigQuiet
import Derived.WideLaws
import Derived.Deep.DeepCutAuto
import Derived.Deep.CutBlock
import Derived.Deep.RegionHeld3
import Derived.Laws.Rows
import Derived.Lib.AppendStr
import Derived.ArgAppend
import Derived.Laws.IdiomCopy
import Derived.OrdersHeld
import Derived.Laws.BitsLemmas
import Derived.RowKit
import Derived.Test.YtbafffcgmdmebaaDoorTab
import Derived.Test.YtbafffcgmdmebaaDoorWWords
import Derived.Test.YtbafffcgmdmebaaDoorWLast
import Derived.Test.YtbafffcgmdmebaaDoorWTab
import Derived.Test.YtbafffcgmdmebaaDoorWFour
import Derived.Test.YtbafffcgmdmebaaDoorWQPut
import Derived.Test.YtbafffcgmdmebaaDoorWApart
import Derived.Test.YtbafffcgmdmebaaDoorWArr
import Derived.Test.YtbafffcgmdmebaaDoorWZeros
import Derived.Test.YtbafffcgmdmebaaDoorWFoot
import Derived.Test.YtbafffcgmdmebaaDoorWKept
import Derived.Test.YtbafffcgmdmebaaDoorWShare
import Derived.Test.YtbafffcgmdmebaaDoorWN
import Derived.Test.YtbafffcgmdmebaaDoorWFootNe
import Derived.Test.YtbafffcgmdmebaaDoorWAt
import Derived.Test.YtbafffcgmdmebaaDoorWEqStruct
import Derived.Test.YtbafffcgmdmebaaDoorWRepsOne
import Derived.Test.YtbafffcgmdmebaaDoorWInv
import Derived.Test.YtbafffcgmdmebaaDoorWInvWords
import Derived.Test.YtbafffcgmdmebaaDoorWGuard
import Derived.Test.YtbafffcgmdmebaaDoorWNEv
import Derived.Test.YtbafffcgmdmebaaDoorWMore
namespace Go.Proofs.YtbafffcgmdmebaaDoor.Q
open Go.RowKit Go.Proofs.YtbafffcgmdmebaaDoorW.PrintWords Go.Proofs.YtbafffcgmdmebaaDoorW.PrintLast Go.Proofs.YtbafffcgmdmebaaDoorW.PrintMore
attribute [local go_sem] cell_set_set max2_int min2_int max_two min_two max_three min_three max_four min_four   -- for this text's walks alone
set_option linter.unusedVariables false
set_option linter.unusedSimpArgs false



def errW : Option Int → Value
  | none => .nilIface
  | some c => .iface 0 (.int .i64 c)
theorem errW_none : errW none = .nilIface := rfl
theorem errW_some (c : Int) : errW (some c) = .iface 0 (.int .i64 c) := rfl

-- the values' own types

end Go.Proofs.YtbafffcgmdmebaaDoor.Q
