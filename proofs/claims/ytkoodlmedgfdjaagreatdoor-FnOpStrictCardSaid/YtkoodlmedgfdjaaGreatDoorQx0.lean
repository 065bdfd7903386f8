-- Written by wip/tools/pprint.py (a program of this session) over the kit's printer; not trusted: Lean checks it.
import Derived.Test.YtkoodlmedgfdjaaGreatDoorProg
import Derived.Below
import Derived.Deep.Draws
import Derived.Deep.AppendLies
import Derived.Maps.AppendAt
import Derived.OwnWalk
import Derived.Laws.BytesArg
import Derived.Laws.MakeOwn
import Derived.Laws.OwnMore
import Derived.Deep.OwnRows
import Derived.Tactics
import Derived.Lib.ConvBytes
import Derived.Laws.Slices
import Derived.WalkKit
import Derived.KernelRfl
import Derived.RowKit3
import Derived.Deep.LoopGhost
import Derived.Deep.QuietTactic
import Derived.BigQuiet
import Derived.WideLaws
import Derived.Deep.DeepCutAuto
import Derived.Deep.CutBlock
import Derived.Deep.RegionHeld3
import Derived.Laws.Rows
import Derived.Lib.AppendStr
import Derived.ArgAppend
import Derived.Laws.IdiomCopy
import Derived.OrdersHeld
import Derived.Laws.BitsLemmas
import Derived.RowKit
import Derived.Test.YtkoodlmedgfdjaaGreatDoorTab
import Derived.Test.YtkoodlmedgfdjaaGreatDoorZ
import Derived.Test.YtkoodlmedgfdjaaGreatDoorWLast
import Derived.Test.YtkoodlmedgfdjaaGreatDoorWWords
namespace Go.Proofs.YtkoodlmedgfdjaaGreatDoor.Q
open Go.RowKit Go.Proofs.YtkoodlmedgfdjaaGreatDoorW.PrintWords Go.Proofs.YtkoodlmedgfdjaaGreatDoorW.PrintLast
attribute [local go_sem] cell_set_set cell_set_far_set   -- for this text's walks alone
set_option linter.unusedVariables false
set_option linter.unusedSimpArgs false



def errW : Option Int → Value
  | none => .nilIface
  | some c => .iface 0 (.int .i64 c)
theorem errW_none : errW none = .nilIface := rfl
theorem errW_some (c : Int) : errW (some c) = .iface 0 (.int .i64 c) := rfl

-- the values' own types

end Go.Proofs.YtkoodlmedgfdjaaGreatDoor.Q
