/-
  NARROWER THAN 'FOR EVERY INPUT', by the rows' own cells (each row's printed sentence says how): FnExactTreeOk: laid · FnExactTreeUnder: laid · FnExactTreeUp: laid · FnExactTreeAhead: laid · FnExactTreeKids: laid · FnExactKeyGone: laid · FnTreeForm: laid · FnExactKeyOut: laid · FnDeep: laid · FnUnderThree: laid · FnExactKeyIn: laid · FnTreeBelow: laid · FnKidsAll: laid · FnExactOpWhere: laid · FnTreeUnder: laid · FnTreeUp: laid · FnAhead: laid · FnTreeKids: laid · FnWhere: laid.
  DERIVED. THE GIVEN ROWS OF THIS SEAT. 19 by the template 'for every input the law returns true; each argument reads behind the call as it read before'; 0 by the template 'total and deterministic' (their statements: YtaajcbbbmpdcnaaDoorTotals.lean).
  GIVEN WITH THE SEED: the statements are not yours to turn. If you find one false, say at which input.
  Laid BY PROGRAM, IN A SANDBOX (cutbox-rows.mjs): the forced cells as the released guide's own fill.sh prints them over the translation a5ae630ea16967d9… (all of the seat's roots in one cut). By AI agents, Wed Nov 11 2026. No macro, syntax, notation, axiom, sorry.
-/
import Derived.Test.YtaajcbbbmpdcnaaDoorChecked
import GoSem.Claim
import GoSem.ClaimJoined
import GoSem.ClaimMapViews
import Derived.JoinedTies
import Derived.KernelRfl
namespace Go.Proofs.YtaajcbbbmpdcnaaDoor
/- THE CELL 'sum', in the pinned program and in every row, IS THE sha256 OF THE DUMP (.gsa) THAT YtaajcbbbmpdcnaaDoorProg.lean LOADS. Nothing in Lean hashes anything: it is a label: what it is worth is what the hold of that sum in a sandbox is worth. -/
noncomputable def Tryd.pinned : Pinned := { name := "ytaajcbbbmpdcnaadoor", sum := "a5ae630ea16967d9aa95714f5b7afe83e6a3ab4d7e9516b89f5c9e395cfae3cc", checked := Tryd.checked }
namespace Rows
def none {H : Type} : Left H := { results := [], args := [] }

/- WHAT THE LISTED PACKAGE-LEVEL VARIABLES READ AS WHEN THE CALL BEGINS. Each datum BY PROGRAM (the guide's laid-datum.mjs) off the statement by which the dump's own 'gosem.cut.vars' lays the variable. In a bare row this is a premise. The card (YtaajcbbbmpdcnaaDoorCards.lean) ties it to the program's text. -/
def laid_loop_example_plashet_impl_rowOwners {H : Type} : DataW H := .agg [.lit (.int .i64 0), .lit (.int .i64 1), .lit (.int .i64 1), .lit (.int .i64 1), .lit (.int .i64 0), .lit (.int .i64 0), .lit (.int .i64 0), .lit (.int .i64 0), .lit (.int .i64 0), .lit (.int .i64 0), .lit (.int .i64 0), .lit (.int .i64 2), .lit (.int .i64 2), .lit (.int .i64 2), .lit (.int .i64 2), .lit (.int .i64 2), .lit (.int .i64 2), .lit (.int .i64 0), .lit (.int .i64 0), .lit (.int .i64 0), .lit (.int .i64 0), .lit (.int .i64 3), .lit (.int .i64 3), .lit (.int .i64 3), .lit (.int .i64 3), .lit (.int .i64 3), .lit (.int .i64 3), .lit (.int .i64 0), .lit (.int .i64 0), .lit (.int .i64 0), .lit (.int .i64 0), .lit (.int .i64 4), .lit (.int .i64 4), .lit (.int .i64 4), .lit (.int .i64 4), .lit (.int .i64 4), .lit (.int .i64 4)]

/-- 'laws.FnExactTreeOk': WHATEVER THE INPUT: true; the input reads as it did. -/
def fnExactTreeOkSpec : ChangeSpec := { name := "fnExactTreeOk", vars := ["loop.example/plashet/impl.rowOwners"], fn := fun _ => fun
  | [d, g1] => { results := [.lit (.bool true)], args := [d], vars := [g1] }
  | _ => none }
def fnExactTreeOkRow : OpenClaim := { program := "ytaajcbbbmpdcnaadoor", sum := "a5ae630ea16967d9aa95714f5b7afe83e6a3ab4d7e9516b89f5c9e395cfae3cc", func := "loop.example/plashet/laws.FnExactTreeOk", spec := "fnExactTreeOk", named := ["loop.example/plashet/impl.rowOwners"], apart := false, laid := [("loop.example/plashet/impl.rowOwners", laid_loop_example_plashet_impl_rowOwners)] }
def FnExactTreeOkSaid : Prop := fnExactTreeOkRow.holds Tryd.pinned (OpenSpec.ofChange fnExactTreeOkSpec)

/-- ITS FALSE NEIGHBOUR: 'it returns false'. Refute it at one input. -/
def fnExactTreeOkWrong : ChangeSpec := { name := "fnExactTreeOk", vars := ["loop.example/plashet/impl.rowOwners"], fn := fun _ => fun
  | [d, g1] => { results := [.lit (.bool false)], args := [d], vars := [g1] }
  | _ => none }
def FnExactTreeOkWrongFalsely : Prop := fnExactTreeOkRow.holds Tryd.pinned (OpenSpec.ofChange fnExactTreeOkWrong)

/-- 'laws.FnExactTreeUnder': WHATEVER THE INPUT: true; the input reads as it did. -/
def fnExactTreeUnderSpec : ChangeSpec := { name := "fnExactTreeUnder", vars := ["loop.example/plashet/impl.rowOwners"], fn := fun _ => fun
  | [d1, d2, d3, g1] => { results := [.lit (.bool true)], args := [d1, d2, d3], vars := [g1] }
  | _ => none }
def fnExactTreeUnderRow : OpenClaim := { program := "ytaajcbbbmpdcnaadoor", sum := "a5ae630ea16967d9aa95714f5b7afe83e6a3ab4d7e9516b89f5c9e395cfae3cc", func := "loop.example/plashet/laws.FnExactTreeUnder", spec := "fnExactTreeUnder", named := ["loop.example/plashet/impl.rowOwners"], apart := false, laid := [("loop.example/plashet/impl.rowOwners", laid_loop_example_plashet_impl_rowOwners)] }
def FnExactTreeUnderSaid : Prop := fnExactTreeUnderRow.holds Tryd.pinned (OpenSpec.ofChange fnExactTreeUnderSpec)

/-- ITS FALSE NEIGHBOUR: 'it returns false'. Refute it at one input. -/
def fnExactTreeUnderWrong : ChangeSpec := { name := "fnExactTreeUnder", vars := ["loop.example/plashet/impl.rowOwners"], fn := fun _ => fun
  | [d1, d2, d3, g1] => { results := [.lit (.bool false)], args := [d1, d2, d3], vars := [g1] }
  | _ => none }
def FnExactTreeUnderWrongFalsely : Prop := fnExactTreeUnderRow.holds Tryd.pinned (OpenSpec.ofChange fnExactTreeUnderWrong)

/-- 'laws.FnExactTreeUp': WHATEVER THE INPUT: true; the input reads as it did. -/
def fnExactTreeUpSpec : ChangeSpec := { name := "fnExactTreeUp", vars := ["loop.example/plashet/impl.rowOwners"], fn := fun _ => fun
  | [d1, d2, g1] => { results := [.lit (.bool true)], args := [d1, d2], vars := [g1] }
  | _ => none }
def fnExactTreeUpRow : OpenClaim := { program := "ytaajcbbbmpdcnaadoor", sum := "a5ae630ea16967d9aa95714f5b7afe83e6a3ab4d7e9516b89f5c9e395cfae3cc", func := "loop.example/plashet/laws.FnExactTreeUp", spec := "fnExactTreeUp", named := ["loop.example/plashet/impl.rowOwners"], apart := false, laid := [("loop.example/plashet/impl.rowOwners", laid_loop_example_plashet_impl_rowOwners)] }
def FnExactTreeUpSaid : Prop := fnExactTreeUpRow.holds Tryd.pinned (OpenSpec.ofChange fnExactTreeUpSpec)

/-- ITS FALSE NEIGHBOUR: 'it returns false'. Refute it at one input. -/
def fnExactTreeUpWrong : ChangeSpec := { name := "fnExactTreeUp", vars := ["loop.example/plashet/impl.rowOwners"], fn := fun _ => fun
  | [d1, d2, g1] => { results := [.lit (.bool false)], args := [d1, d2], vars := [g1] }
  | _ => none }
def FnExactTreeUpWrongFalsely : Prop := fnExactTreeUpRow.holds Tryd.pinned (OpenSpec.ofChange fnExactTreeUpWrong)

/-- 'laws.FnExactTreeAhead': WHATEVER THE INPUT: true; the input reads as it did. -/
def fnExactTreeAheadSpec : ChangeSpec := { name := "fnExactTreeAhead", vars := ["loop.example/plashet/impl.rowOwners"], fn := fun _ => fun
  | [d1, d2, g1] => { results := [.lit (.bool true)], args := [d1, d2], vars := [g1] }
  | _ => none }
def fnExactTreeAheadRow : OpenClaim := { program := "ytaajcbbbmpdcnaadoor", sum := "a5ae630ea16967d9aa95714f5b7afe83e6a3ab4d7e9516b89f5c9e395cfae3cc", func := "loop.example/plashet/laws.FnExactTreeAhead", spec := "fnExactTreeAhead", unfollowed := true, recurses := true, named := ["loop.example/plashet/impl.rowOwners"], apart := false, laid := [("loop.example/plashet/impl.rowOwners", laid_loop_example_plashet_impl_rowOwners)] }
def FnExactTreeAheadSaid : Prop := fnExactTreeAheadRow.holds Tryd.pinned (OpenSpec.ofChange fnExactTreeAheadSpec)

/-- ITS FALSE NEIGHBOUR: 'it returns false'. Refute it at one input. -/
def fnExactTreeAheadWrong : ChangeSpec := { name := "fnExactTreeAhead", vars := ["loop.example/plashet/impl.rowOwners"], fn := fun _ => fun
  | [d1, d2, g1] => { results := [.lit (.bool false)], args := [d1, d2], vars := [g1] }
  | _ => none }
def FnExactTreeAheadWrongFalsely : Prop := fnExactTreeAheadRow.holds Tryd.pinned (OpenSpec.ofChange fnExactTreeAheadWrong)

/-- 'laws.FnExactTreeKids': WHATEVER THE INPUT: true; the input reads as it did. -/
def fnExactTreeKidsSpec : ChangeSpec := { name := "fnExactTreeKids", vars := ["loop.example/plashet/impl.rowOwners"], fn := fun _ => fun
  | [d1, d2, g1] => { results := [.lit (.bool true)], args := [d1, d2], vars := [g1] }
  | _ => none }
def fnExactTreeKidsRow : OpenClaim := { program := "ytaajcbbbmpdcnaadoor", sum := "a5ae630ea16967d9aa95714f5b7afe83e6a3ab4d7e9516b89f5c9e395cfae3cc", func := "loop.example/plashet/laws.FnExactTreeKids", spec := "fnExactTreeKids", unfollowed := true, recurses := true, named := ["loop.example/plashet/impl.rowOwners"], apart := false, laid := [("loop.example/plashet/impl.rowOwners", laid_loop_example_plashet_impl_rowOwners)] }
def FnExactTreeKidsSaid : Prop := fnExactTreeKidsRow.holds Tryd.pinned (OpenSpec.ofChange fnExactTreeKidsSpec)

/-- ITS FALSE NEIGHBOUR: 'it returns false'. Refute it at one input. -/
def fnExactTreeKidsWrong : ChangeSpec := { name := "fnExactTreeKids", vars := ["loop.example/plashet/impl.rowOwners"], fn := fun _ => fun
  | [d1, d2, g1] => { results := [.lit (.bool false)], args := [d1, d2], vars := [g1] }
  | _ => none }
def FnExactTreeKidsWrongFalsely : Prop := fnExactTreeKidsRow.holds Tryd.pinned (OpenSpec.ofChange fnExactTreeKidsWrong)

/-- 'laws.FnExactKeyGone': WHATEVER THE INPUT: true; the input reads as it did. -/
def fnExactKeyGoneSpec : ChangeSpec := { name := "fnExactKeyGone", vars := ["loop.example/plashet/impl.rowOwners"], fn := fun _ => fun
  | [d1, d2, g1] => { results := [.lit (.bool true)], args := [d1, d2], vars := [g1] }
  | _ => none }
def fnExactKeyGoneRow : OpenClaim := { program := "ytaajcbbbmpdcnaadoor", sum := "a5ae630ea16967d9aa95714f5b7afe83e6a3ab4d7e9516b89f5c9e395cfae3cc", func := "loop.example/plashet/laws.FnExactKeyGone", spec := "fnExactKeyGone", unfollowed := true, recurses := true, named := ["loop.example/plashet/impl.rowOwners"], apart := false, laid := [("loop.example/plashet/impl.rowOwners", laid_loop_example_plashet_impl_rowOwners)] }
def FnExactKeyGoneSaid : Prop := fnExactKeyGoneRow.holds Tryd.pinned (OpenSpec.ofChange fnExactKeyGoneSpec)

/-- ITS FALSE NEIGHBOUR: 'it returns false'. Refute it at one input. -/
def fnExactKeyGoneWrong : ChangeSpec := { name := "fnExactKeyGone", vars := ["loop.example/plashet/impl.rowOwners"], fn := fun _ => fun
  | [d1, d2, g1] => { results := [.lit (.bool false)], args := [d1, d2], vars := [g1] }
  | _ => none }
def FnExactKeyGoneWrongFalsely : Prop := fnExactKeyGoneRow.holds Tryd.pinned (OpenSpec.ofChange fnExactKeyGoneWrong)

/-- 'laws.FnTreeForm': WHATEVER THE INPUT: true; the input reads as it did. -/
def fnTreeFormSpec : ChangeSpec := { name := "fnTreeForm", vars := ["loop.example/plashet/impl.rowOwners"], fn := fun _ => fun
  | [d1, d2, g1] => { results := [.lit (.bool true)], args := [d1, d2], vars := [g1] }
  | _ => none }
def fnTreeFormRow : OpenClaim := { program := "ytaajcbbbmpdcnaadoor", sum := "a5ae630ea16967d9aa95714f5b7afe83e6a3ab4d7e9516b89f5c9e395cfae3cc", func := "loop.example/plashet/laws.FnTreeForm", spec := "fnTreeForm", named := ["loop.example/plashet/impl.rowOwners"], apart := false, laid := [("loop.example/plashet/impl.rowOwners", laid_loop_example_plashet_impl_rowOwners)] }
def FnTreeFormSaid : Prop := fnTreeFormRow.holds Tryd.pinned (OpenSpec.ofChange fnTreeFormSpec)

/-- ITS FALSE NEIGHBOUR: 'it returns false'. Refute it at one input. -/
def fnTreeFormWrong : ChangeSpec := { name := "fnTreeForm", vars := ["loop.example/plashet/impl.rowOwners"], fn := fun _ => fun
  | [d1, d2, g1] => { results := [.lit (.bool false)], args := [d1, d2], vars := [g1] }
  | _ => none }
def FnTreeFormWrongFalsely : Prop := fnTreeFormRow.holds Tryd.pinned (OpenSpec.ofChange fnTreeFormWrong)

/-- 'laws.FnExactKeyOut': WHATEVER THE INPUT: true; the input reads as it did. -/
def fnExactKeyOutSpec : ChangeSpec := { name := "fnExactKeyOut", vars := ["loop.example/plashet/impl.rowOwners"], fn := fun _ => fun
  | [d1, d2, g1] => { results := [.lit (.bool true)], args := [d1, d2], vars := [g1] }
  | _ => none }
def fnExactKeyOutRow : OpenClaim := { program := "ytaajcbbbmpdcnaadoor", sum := "a5ae630ea16967d9aa95714f5b7afe83e6a3ab4d7e9516b89f5c9e395cfae3cc", func := "loop.example/plashet/laws.FnExactKeyOut", spec := "fnExactKeyOut", unfollowed := true, recurses := true, named := ["loop.example/plashet/impl.rowOwners"], apart := false, laid := [("loop.example/plashet/impl.rowOwners", laid_loop_example_plashet_impl_rowOwners)] }
def FnExactKeyOutSaid : Prop := fnExactKeyOutRow.holds Tryd.pinned (OpenSpec.ofChange fnExactKeyOutSpec)

/-- ITS FALSE NEIGHBOUR: 'it returns false'. Refute it at one input. -/
def fnExactKeyOutWrong : ChangeSpec := { name := "fnExactKeyOut", vars := ["loop.example/plashet/impl.rowOwners"], fn := fun _ => fun
  | [d1, d2, g1] => { results := [.lit (.bool false)], args := [d1, d2], vars := [g1] }
  | _ => none }
def FnExactKeyOutWrongFalsely : Prop := fnExactKeyOutRow.holds Tryd.pinned (OpenSpec.ofChange fnExactKeyOutWrong)

/-- 'laws.FnDeep': WHATEVER THE INPUT: true; the input reads as it did. -/
def fnDeepSpec : ChangeSpec := { name := "fnDeep", vars := ["loop.example/plashet/impl.rowOwners"], fn := fun _ => fun
  | [d, g1] => { results := [.lit (.bool true)], args := [d], vars := [g1] }
  | _ => none }
def fnDeepRow : OpenClaim := { program := "ytaajcbbbmpdcnaadoor", sum := "a5ae630ea16967d9aa95714f5b7afe83e6a3ab4d7e9516b89f5c9e395cfae3cc", func := "loop.example/plashet/laws.FnDeep", spec := "fnDeep", named := ["loop.example/plashet/impl.rowOwners"], apart := false, laid := [("loop.example/plashet/impl.rowOwners", laid_loop_example_plashet_impl_rowOwners)] }
def FnDeepSaid : Prop := fnDeepRow.holds Tryd.pinned (OpenSpec.ofChange fnDeepSpec)

/-- ITS FALSE NEIGHBOUR: 'it returns false'. Refute it at one input. -/
def fnDeepWrong : ChangeSpec := { name := "fnDeep", vars := ["loop.example/plashet/impl.rowOwners"], fn := fun _ => fun
  | [d, g1] => { results := [.lit (.bool false)], args := [d], vars := [g1] }
  | _ => none }
def FnDeepWrongFalsely : Prop := fnDeepRow.holds Tryd.pinned (OpenSpec.ofChange fnDeepWrong)

/-- 'laws.FnUnderThree': WHATEVER THE INPUT: true; the input reads as it did. -/
def fnUnderThreeSpec : ChangeSpec := { name := "fnUnderThree", vars := ["loop.example/plashet/impl.rowOwners"], fn := fun _ => fun
  | [d1, d2, g1] => { results := [.lit (.bool true)], args := [d1, d2], vars := [g1] }
  | _ => none }
def fnUnderThreeRow : OpenClaim := { program := "ytaajcbbbmpdcnaadoor", sum := "a5ae630ea16967d9aa95714f5b7afe83e6a3ab4d7e9516b89f5c9e395cfae3cc", func := "loop.example/plashet/laws.FnUnderThree", spec := "fnUnderThree", named := ["loop.example/plashet/impl.rowOwners"], apart := false, laid := [("loop.example/plashet/impl.rowOwners", laid_loop_example_plashet_impl_rowOwners)] }
def FnUnderThreeSaid : Prop := fnUnderThreeRow.holds Tryd.pinned (OpenSpec.ofChange fnUnderThreeSpec)

/-- ITS FALSE NEIGHBOUR: 'it returns false'. Refute it at one input. -/
def fnUnderThreeWrong : ChangeSpec := { name := "fnUnderThree", vars := ["loop.example/plashet/impl.rowOwners"], fn := fun _ => fun
  | [d1, d2, g1] => { results := [.lit (.bool false)], args := [d1, d2], vars := [g1] }
  | _ => none }
def FnUnderThreeWrongFalsely : Prop := fnUnderThreeRow.holds Tryd.pinned (OpenSpec.ofChange fnUnderThreeWrong)

/-- 'laws.FnExactKeyIn': WHATEVER THE INPUT: true; the input reads as it did. -/
def fnExactKeyInSpec : ChangeSpec := { name := "fnExactKeyIn", vars := ["loop.example/plashet/impl.rowOwners"], fn := fun _ => fun
  | [d1, d2, g1] => { results := [.lit (.bool true)], args := [d1, d2], vars := [g1] }
  | _ => none }
def fnExactKeyInRow : OpenClaim := { program := "ytaajcbbbmpdcnaadoor", sum := "a5ae630ea16967d9aa95714f5b7afe83e6a3ab4d7e9516b89f5c9e395cfae3cc", func := "loop.example/plashet/laws.FnExactKeyIn", spec := "fnExactKeyIn", unfollowed := true, recurses := true, named := ["loop.example/plashet/impl.rowOwners"], apart := false, laid := [("loop.example/plashet/impl.rowOwners", laid_loop_example_plashet_impl_rowOwners)] }
def FnExactKeyInSaid : Prop := fnExactKeyInRow.holds Tryd.pinned (OpenSpec.ofChange fnExactKeyInSpec)

/-- ITS FALSE NEIGHBOUR: 'it returns false'. Refute it at one input. -/
def fnExactKeyInWrong : ChangeSpec := { name := "fnExactKeyIn", vars := ["loop.example/plashet/impl.rowOwners"], fn := fun _ => fun
  | [d1, d2, g1] => { results := [.lit (.bool false)], args := [d1, d2], vars := [g1] }
  | _ => none }
def FnExactKeyInWrongFalsely : Prop := fnExactKeyInRow.holds Tryd.pinned (OpenSpec.ofChange fnExactKeyInWrong)

/-- 'laws.FnTreeBelow': WHATEVER THE INPUT: true; the input reads as it did. -/
def fnTreeBelowSpec : ChangeSpec := { name := "fnTreeBelow", vars := ["loop.example/plashet/impl.rowOwners"], fn := fun _ => fun
  | [d, g1] => { results := [.lit (.bool true)], args := [d], vars := [g1] }
  | _ => none }
def fnTreeBelowRow : OpenClaim := { program := "ytaajcbbbmpdcnaadoor", sum := "a5ae630ea16967d9aa95714f5b7afe83e6a3ab4d7e9516b89f5c9e395cfae3cc", func := "loop.example/plashet/laws.FnTreeBelow", spec := "fnTreeBelow", named := ["loop.example/plashet/impl.rowOwners"], apart := false, laid := [("loop.example/plashet/impl.rowOwners", laid_loop_example_plashet_impl_rowOwners)] }
def FnTreeBelowSaid : Prop := fnTreeBelowRow.holds Tryd.pinned (OpenSpec.ofChange fnTreeBelowSpec)

/-- ITS FALSE NEIGHBOUR: 'it returns false'. Refute it at one input. -/
def fnTreeBelowWrong : ChangeSpec := { name := "fnTreeBelow", vars := ["loop.example/plashet/impl.rowOwners"], fn := fun _ => fun
  | [d, g1] => { results := [.lit (.bool false)], args := [d], vars := [g1] }
  | _ => none }
def FnTreeBelowWrongFalsely : Prop := fnTreeBelowRow.holds Tryd.pinned (OpenSpec.ofChange fnTreeBelowWrong)

/-- 'laws.FnKidsAll': WHATEVER THE INPUT: true; the input reads as it did. -/
def fnKidsAllSpec : ChangeSpec := { name := "fnKidsAll", vars := ["loop.example/plashet/impl.rowOwners"], fn := fun _ => fun
  | [d, g1] => { results := [.lit (.bool true)], args := [d], vars := [g1] }
  | _ => none }
def fnKidsAllRow : OpenClaim := { program := "ytaajcbbbmpdcnaadoor", sum := "a5ae630ea16967d9aa95714f5b7afe83e6a3ab4d7e9516b89f5c9e395cfae3cc", func := "loop.example/plashet/laws.FnKidsAll", spec := "fnKidsAll", unfollowed := true, recurses := true, named := ["loop.example/plashet/impl.rowOwners"], apart := false, laid := [("loop.example/plashet/impl.rowOwners", laid_loop_example_plashet_impl_rowOwners)] }
def FnKidsAllSaid : Prop := fnKidsAllRow.holds Tryd.pinned (OpenSpec.ofChange fnKidsAllSpec)

/-- ITS FALSE NEIGHBOUR: 'it returns false'. Refute it at one input. -/
def fnKidsAllWrong : ChangeSpec := { name := "fnKidsAll", vars := ["loop.example/plashet/impl.rowOwners"], fn := fun _ => fun
  | [d, g1] => { results := [.lit (.bool false)], args := [d], vars := [g1] }
  | _ => none }
def FnKidsAllWrongFalsely : Prop := fnKidsAllRow.holds Tryd.pinned (OpenSpec.ofChange fnKidsAllWrong)

/-- 'laws.FnExactOpWhere': WHATEVER THE INPUT: true; the input reads as it did. -/
def fnExactOpWhereSpec : ChangeSpec := { name := "fnExactOpWhere", vars := ["loop.example/plashet/impl.rowOwners"], fn := fun _ => fun
  | [d1, d2, g1] => { results := [.lit (.bool true)], args := [d1, d2], vars := [g1] }
  | _ => none }
def fnExactOpWhereRow : OpenClaim := { program := "ytaajcbbbmpdcnaadoor", sum := "a5ae630ea16967d9aa95714f5b7afe83e6a3ab4d7e9516b89f5c9e395cfae3cc", func := "loop.example/plashet/laws.FnExactOpWhere", spec := "fnExactOpWhere", named := ["loop.example/plashet/impl.rowOwners"], apart := false, laid := [("loop.example/plashet/impl.rowOwners", laid_loop_example_plashet_impl_rowOwners)] }
def FnExactOpWhereSaid : Prop := fnExactOpWhereRow.holds Tryd.pinned (OpenSpec.ofChange fnExactOpWhereSpec)

/-- ITS FALSE NEIGHBOUR: 'it returns false'. Refute it at one input. -/
def fnExactOpWhereWrong : ChangeSpec := { name := "fnExactOpWhere", vars := ["loop.example/plashet/impl.rowOwners"], fn := fun _ => fun
  | [d1, d2, g1] => { results := [.lit (.bool false)], args := [d1, d2], vars := [g1] }
  | _ => none }
def FnExactOpWhereWrongFalsely : Prop := fnExactOpWhereRow.holds Tryd.pinned (OpenSpec.ofChange fnExactOpWhereWrong)

/-- 'laws.FnTreeUnder': WHATEVER THE INPUT: true; the input reads as it did. -/
def fnTreeUnderSpec : ChangeSpec := { name := "fnTreeUnder", vars := ["loop.example/plashet/impl.rowOwners"], fn := fun _ => fun
  | [d, g1] => { results := [.lit (.bool true)], args := [d], vars := [g1] }
  | _ => none }
def fnTreeUnderRow : OpenClaim := { program := "ytaajcbbbmpdcnaadoor", sum := "a5ae630ea16967d9aa95714f5b7afe83e6a3ab4d7e9516b89f5c9e395cfae3cc", func := "loop.example/plashet/laws.FnTreeUnder", spec := "fnTreeUnder", named := ["loop.example/plashet/impl.rowOwners"], apart := false, laid := [("loop.example/plashet/impl.rowOwners", laid_loop_example_plashet_impl_rowOwners)] }
def FnTreeUnderSaid : Prop := fnTreeUnderRow.holds Tryd.pinned (OpenSpec.ofChange fnTreeUnderSpec)

/-- ITS FALSE NEIGHBOUR: 'it returns false'. Refute it at one input. -/
def fnTreeUnderWrong : ChangeSpec := { name := "fnTreeUnder", vars := ["loop.example/plashet/impl.rowOwners"], fn := fun _ => fun
  | [d, g1] => { results := [.lit (.bool false)], args := [d], vars := [g1] }
  | _ => none }
def FnTreeUnderWrongFalsely : Prop := fnTreeUnderRow.holds Tryd.pinned (OpenSpec.ofChange fnTreeUnderWrong)

/-- 'laws.FnTreeUp': WHATEVER THE INPUT: true; the input reads as it did. -/
def fnTreeUpSpec : ChangeSpec := { name := "fnTreeUp", vars := ["loop.example/plashet/impl.rowOwners"], fn := fun _ => fun
  | [d, g1] => { results := [.lit (.bool true)], args := [d], vars := [g1] }
  | _ => none }
def fnTreeUpRow : OpenClaim := { program := "ytaajcbbbmpdcnaadoor", sum := "a5ae630ea16967d9aa95714f5b7afe83e6a3ab4d7e9516b89f5c9e395cfae3cc", func := "loop.example/plashet/laws.FnTreeUp", spec := "fnTreeUp", unfollowed := true, recurses := true, named := ["loop.example/plashet/impl.rowOwners"], apart := false, laid := [("loop.example/plashet/impl.rowOwners", laid_loop_example_plashet_impl_rowOwners)] }
def FnTreeUpSaid : Prop := fnTreeUpRow.holds Tryd.pinned (OpenSpec.ofChange fnTreeUpSpec)

/-- ITS FALSE NEIGHBOUR: 'it returns false'. Refute it at one input. -/
def fnTreeUpWrong : ChangeSpec := { name := "fnTreeUp", vars := ["loop.example/plashet/impl.rowOwners"], fn := fun _ => fun
  | [d, g1] => { results := [.lit (.bool false)], args := [d], vars := [g1] }
  | _ => none }
def FnTreeUpWrongFalsely : Prop := fnTreeUpRow.holds Tryd.pinned (OpenSpec.ofChange fnTreeUpWrong)

/-- 'laws.FnAhead': WHATEVER THE INPUT: true; the input reads as it did. -/
def fnAheadSpec : ChangeSpec := { name := "fnAhead", vars := ["loop.example/plashet/impl.rowOwners"], fn := fun _ => fun
  | [d, g1] => { results := [.lit (.bool true)], args := [d], vars := [g1] }
  | _ => none }
def fnAheadRow : OpenClaim := { program := "ytaajcbbbmpdcnaadoor", sum := "a5ae630ea16967d9aa95714f5b7afe83e6a3ab4d7e9516b89f5c9e395cfae3cc", func := "loop.example/plashet/laws.FnAhead", spec := "fnAhead", unfollowed := true, recurses := true, named := ["loop.example/plashet/impl.rowOwners"], apart := false, laid := [("loop.example/plashet/impl.rowOwners", laid_loop_example_plashet_impl_rowOwners)] }
def FnAheadSaid : Prop := fnAheadRow.holds Tryd.pinned (OpenSpec.ofChange fnAheadSpec)

/-- ITS FALSE NEIGHBOUR: 'it returns false'. Refute it at one input. -/
def fnAheadWrong : ChangeSpec := { name := "fnAhead", vars := ["loop.example/plashet/impl.rowOwners"], fn := fun _ => fun
  | [d, g1] => { results := [.lit (.bool false)], args := [d], vars := [g1] }
  | _ => none }
def FnAheadWrongFalsely : Prop := fnAheadRow.holds Tryd.pinned (OpenSpec.ofChange fnAheadWrong)

/-- 'laws.FnTreeKids': WHATEVER THE INPUT: true; the input reads as it did. -/
def fnTreeKidsSpec : ChangeSpec := { name := "fnTreeKids", vars := ["loop.example/plashet/impl.rowOwners"], fn := fun _ => fun
  | [d, g1] => { results := [.lit (.bool true)], args := [d], vars := [g1] }
  | _ => none }
def fnTreeKidsRow : OpenClaim := { program := "ytaajcbbbmpdcnaadoor", sum := "a5ae630ea16967d9aa95714f5b7afe83e6a3ab4d7e9516b89f5c9e395cfae3cc", func := "loop.example/plashet/laws.FnTreeKids", spec := "fnTreeKids", unfollowed := true, recurses := true, named := ["loop.example/plashet/impl.rowOwners"], apart := false, laid := [("loop.example/plashet/impl.rowOwners", laid_loop_example_plashet_impl_rowOwners)] }
def FnTreeKidsSaid : Prop := fnTreeKidsRow.holds Tryd.pinned (OpenSpec.ofChange fnTreeKidsSpec)

/-- ITS FALSE NEIGHBOUR: 'it returns false'. Refute it at one input. -/
def fnTreeKidsWrong : ChangeSpec := { name := "fnTreeKids", vars := ["loop.example/plashet/impl.rowOwners"], fn := fun _ => fun
  | [d, g1] => { results := [.lit (.bool false)], args := [d], vars := [g1] }
  | _ => none }
def FnTreeKidsWrongFalsely : Prop := fnTreeKidsRow.holds Tryd.pinned (OpenSpec.ofChange fnTreeKidsWrong)

/-- 'laws.FnWhere': WHATEVER THE INPUT: true; the input reads as it did. -/
def fnWhereSpec : ChangeSpec := { name := "fnWhere", vars := ["loop.example/plashet/impl.rowOwners"], fn := fun _ => fun
  | [d, g1] => { results := [.lit (.bool true)], args := [d], vars := [g1] }
  | _ => none }
def fnWhereRow : OpenClaim := { program := "ytaajcbbbmpdcnaadoor", sum := "a5ae630ea16967d9aa95714f5b7afe83e6a3ab4d7e9516b89f5c9e395cfae3cc", func := "loop.example/plashet/laws.FnWhere", spec := "fnWhere", unfollowed := true, recurses := true, named := ["loop.example/plashet/impl.rowOwners"], apart := false, laid := [("loop.example/plashet/impl.rowOwners", laid_loop_example_plashet_impl_rowOwners)] }
def FnWhereSaid : Prop := fnWhereRow.holds Tryd.pinned (OpenSpec.ofChange fnWhereSpec)

/-- ITS FALSE NEIGHBOUR: 'it returns false'. Refute it at one input. -/
def fnWhereWrong : ChangeSpec := { name := "fnWhere", vars := ["loop.example/plashet/impl.rowOwners"], fn := fun _ => fun
  | [d, g1] => { results := [.lit (.bool false)], args := [d], vars := [g1] }
  | _ => none }
def FnWhereWrongFalsely : Prop := fnWhereRow.holds Tryd.pinned (OpenSpec.ofChange fnWhereWrong)

/- THE SECOND FORM. 'bulk': how many values and letters a reading holds, each counted each time it is reached (what is shared counts as often as it is met; a slice's spare places count too). A statement '..UptoSaid' is the law's where the arguments, and the package variables that the reading takes, are together of bulk at most 1048576: NARROWER than '..Said'. Prove '..Said' where nothing that the law and all that it calls make is longer than what came in: it says more and counts as full. Else prove '..UptoSaid'. A law counts once. -/
mutual
def uptoBulk {H : Type} : DataW H → Nat
  | .lit (.string bytes) => bytes.length + 1
  | .lit _ => 1
  | .nil => 1
  | .ptr d => uptoBulk d + 1
  | .slice elems spare => uptoBulkAll elems + uptoBulkAll spare + 1
  | .agg parts => uptoBulkAll parts + 1
  | .iface _ d => uptoBulk d + 1
  | .map entries => uptoBulkEntries entries + 1
  | .held _ => 1
def uptoBulkAll {H : Type} : List (DataW H) → Nat
  | [] => 0
  | d :: r => uptoBulk d + uptoBulkAll r
def uptoBulkEntries {H : Type} : List (Lit × DataW H) → Nat
  | [] => 0
  | x :: r => uptoBulkEntry x + uptoBulkEntries r
def uptoBulkEntry {H : Type} : Lit × DataW H → Nat
  | (.string bytes, d) => bytes.length + uptoBulk d + 1
  | (_, d) => uptoBulk d + 1
 end
def uptoSmall : (H : Type) → List (DataW H) → Bool := fun _ ds => decide (uptoBulkAll ds ≤ 1048576)
def OpenSpec.upto (s : _root_.Go.ChangeSpec) : _root_.Go.OpenSpec := { _root_.Go.OpenSpec.ofChange s with cond := some uptoSmall }

/-- 'laws.FnExactTreeOk', WHERE WHAT IT READS IS OF BULK AT MOST 1048576: true; the input reads as it did. -/
def fnExactTreeOkUptoRow : OpenClaim := { program := "ytaajcbbbmpdcnaadoor", sum := "a5ae630ea16967d9aa95714f5b7afe83e6a3ab4d7e9516b89f5c9e395cfae3cc", func := "loop.example/plashet/laws.FnExactTreeOk", spec := "fnExactTreeOk", named := ["loop.example/plashet/impl.rowOwners"], apart := false, laid := [("loop.example/plashet/impl.rowOwners", laid_loop_example_plashet_impl_rowOwners)], narrowed := true }
def FnExactTreeOkUptoSaid : Prop := fnExactTreeOkUptoRow.holds Tryd.pinned (OpenSpec.upto fnExactTreeOkSpec)

/-- 'laws.FnExactTreeUnder', WHERE WHAT IT READS IS OF BULK AT MOST 1048576: true; the input reads as it did. -/
def fnExactTreeUnderUptoRow : OpenClaim := { program := "ytaajcbbbmpdcnaadoor", sum := "a5ae630ea16967d9aa95714f5b7afe83e6a3ab4d7e9516b89f5c9e395cfae3cc", func := "loop.example/plashet/laws.FnExactTreeUnder", spec := "fnExactTreeUnder", named := ["loop.example/plashet/impl.rowOwners"], apart := false, laid := [("loop.example/plashet/impl.rowOwners", laid_loop_example_plashet_impl_rowOwners)], narrowed := true }
def FnExactTreeUnderUptoSaid : Prop := fnExactTreeUnderUptoRow.holds Tryd.pinned (OpenSpec.upto fnExactTreeUnderSpec)

/-- 'laws.FnExactTreeUp', WHERE WHAT IT READS IS OF BULK AT MOST 1048576: true; the input reads as it did. -/
def fnExactTreeUpUptoRow : OpenClaim := { program := "ytaajcbbbmpdcnaadoor", sum := "a5ae630ea16967d9aa95714f5b7afe83e6a3ab4d7e9516b89f5c9e395cfae3cc", func := "loop.example/plashet/laws.FnExactTreeUp", spec := "fnExactTreeUp", named := ["loop.example/plashet/impl.rowOwners"], apart := false, laid := [("loop.example/plashet/impl.rowOwners", laid_loop_example_plashet_impl_rowOwners)], narrowed := true }
def FnExactTreeUpUptoSaid : Prop := fnExactTreeUpUptoRow.holds Tryd.pinned (OpenSpec.upto fnExactTreeUpSpec)

/-- 'laws.FnExactTreeAhead', WHERE WHAT IT READS IS OF BULK AT MOST 1048576: true; the input reads as it did. -/
def fnExactTreeAheadUptoRow : OpenClaim := { program := "ytaajcbbbmpdcnaadoor", sum := "a5ae630ea16967d9aa95714f5b7afe83e6a3ab4d7e9516b89f5c9e395cfae3cc", func := "loop.example/plashet/laws.FnExactTreeAhead", spec := "fnExactTreeAhead", unfollowed := true, recurses := true, named := ["loop.example/plashet/impl.rowOwners"], apart := false, laid := [("loop.example/plashet/impl.rowOwners", laid_loop_example_plashet_impl_rowOwners)], narrowed := true }
def FnExactTreeAheadUptoSaid : Prop := fnExactTreeAheadUptoRow.holds Tryd.pinned (OpenSpec.upto fnExactTreeAheadSpec)

/-- 'laws.FnExactTreeKids', WHERE WHAT IT READS IS OF BULK AT MOST 1048576: true; the input reads as it did. -/
def fnExactTreeKidsUptoRow : OpenClaim := { program := "ytaajcbbbmpdcnaadoor", sum := "a5ae630ea16967d9aa95714f5b7afe83e6a3ab4d7e9516b89f5c9e395cfae3cc", func := "loop.example/plashet/laws.FnExactTreeKids", spec := "fnExactTreeKids", unfollowed := true, recurses := true, named := ["loop.example/plashet/impl.rowOwners"], apart := false, laid := [("loop.example/plashet/impl.rowOwners", laid_loop_example_plashet_impl_rowOwners)], narrowed := true }
def FnExactTreeKidsUptoSaid : Prop := fnExactTreeKidsUptoRow.holds Tryd.pinned (OpenSpec.upto fnExactTreeKidsSpec)

/-- 'laws.FnExactKeyGone', WHERE WHAT IT READS IS OF BULK AT MOST 1048576: true; the input reads as it did. -/
def fnExactKeyGoneUptoRow : OpenClaim := { program := "ytaajcbbbmpdcnaadoor", sum := "a5ae630ea16967d9aa95714f5b7afe83e6a3ab4d7e9516b89f5c9e395cfae3cc", func := "loop.example/plashet/laws.FnExactKeyGone", spec := "fnExactKeyGone", unfollowed := true, recurses := true, named := ["loop.example/plashet/impl.rowOwners"], apart := false, laid := [("loop.example/plashet/impl.rowOwners", laid_loop_example_plashet_impl_rowOwners)], narrowed := true }
def FnExactKeyGoneUptoSaid : Prop := fnExactKeyGoneUptoRow.holds Tryd.pinned (OpenSpec.upto fnExactKeyGoneSpec)

/-- 'laws.FnTreeForm', WHERE WHAT IT READS IS OF BULK AT MOST 1048576: true; the input reads as it did. -/
def fnTreeFormUptoRow : OpenClaim := { program := "ytaajcbbbmpdcnaadoor", sum := "a5ae630ea16967d9aa95714f5b7afe83e6a3ab4d7e9516b89f5c9e395cfae3cc", func := "loop.example/plashet/laws.FnTreeForm", spec := "fnTreeForm", named := ["loop.example/plashet/impl.rowOwners"], apart := false, laid := [("loop.example/plashet/impl.rowOwners", laid_loop_example_plashet_impl_rowOwners)], narrowed := true }
def FnTreeFormUptoSaid : Prop := fnTreeFormUptoRow.holds Tryd.pinned (OpenSpec.upto fnTreeFormSpec)

/-- 'laws.FnExactKeyOut', WHERE WHAT IT READS IS OF BULK AT MOST 1048576: true; the input reads as it did. -/
def fnExactKeyOutUptoRow : OpenClaim := { program := "ytaajcbbbmpdcnaadoor", sum := "a5ae630ea16967d9aa95714f5b7afe83e6a3ab4d7e9516b89f5c9e395cfae3cc", func := "loop.example/plashet/laws.FnExactKeyOut", spec := "fnExactKeyOut", unfollowed := true, recurses := true, named := ["loop.example/plashet/impl.rowOwners"], apart := false, laid := [("loop.example/plashet/impl.rowOwners", laid_loop_example_plashet_impl_rowOwners)], narrowed := true }
def FnExactKeyOutUptoSaid : Prop := fnExactKeyOutUptoRow.holds Tryd.pinned (OpenSpec.upto fnExactKeyOutSpec)

/-- 'laws.FnDeep', WHERE WHAT IT READS IS OF BULK AT MOST 1048576: true; the input reads as it did. -/
def fnDeepUptoRow : OpenClaim := { program := "ytaajcbbbmpdcnaadoor", sum := "a5ae630ea16967d9aa95714f5b7afe83e6a3ab4d7e9516b89f5c9e395cfae3cc", func := "loop.example/plashet/laws.FnDeep", spec := "fnDeep", named := ["loop.example/plashet/impl.rowOwners"], apart := false, laid := [("loop.example/plashet/impl.rowOwners", laid_loop_example_plashet_impl_rowOwners)], narrowed := true }
def FnDeepUptoSaid : Prop := fnDeepUptoRow.holds Tryd.pinned (OpenSpec.upto fnDeepSpec)

/-- 'laws.FnUnderThree', WHERE WHAT IT READS IS OF BULK AT MOST 1048576: true; the input reads as it did. -/
def fnUnderThreeUptoRow : OpenClaim := { program := "ytaajcbbbmpdcnaadoor", sum := "a5ae630ea16967d9aa95714f5b7afe83e6a3ab4d7e9516b89f5c9e395cfae3cc", func := "loop.example/plashet/laws.FnUnderThree", spec := "fnUnderThree", named := ["loop.example/plashet/impl.rowOwners"], apart := false, laid := [("loop.example/plashet/impl.rowOwners", laid_loop_example_plashet_impl_rowOwners)], narrowed := true }
def FnUnderThreeUptoSaid : Prop := fnUnderThreeUptoRow.holds Tryd.pinned (OpenSpec.upto fnUnderThreeSpec)

/-- 'laws.FnExactKeyIn', WHERE WHAT IT READS IS OF BULK AT MOST 1048576: true; the input reads as it did. -/
def fnExactKeyInUptoRow : OpenClaim := { program := "ytaajcbbbmpdcnaadoor", sum := "a5ae630ea16967d9aa95714f5b7afe83e6a3ab4d7e9516b89f5c9e395cfae3cc", func := "loop.example/plashet/laws.FnExactKeyIn", spec := "fnExactKeyIn", unfollowed := true, recurses := true, named := ["loop.example/plashet/impl.rowOwners"], apart := false, laid := [("loop.example/plashet/impl.rowOwners", laid_loop_example_plashet_impl_rowOwners)], narrowed := true }
def FnExactKeyInUptoSaid : Prop := fnExactKeyInUptoRow.holds Tryd.pinned (OpenSpec.upto fnExactKeyInSpec)

/-- 'laws.FnTreeBelow', WHERE WHAT IT READS IS OF BULK AT MOST 1048576: true; the input reads as it did. -/
def fnTreeBelowUptoRow : OpenClaim := { program := "ytaajcbbbmpdcnaadoor", sum := "a5ae630ea16967d9aa95714f5b7afe83e6a3ab4d7e9516b89f5c9e395cfae3cc", func := "loop.example/plashet/laws.FnTreeBelow", spec := "fnTreeBelow", named := ["loop.example/plashet/impl.rowOwners"], apart := false, laid := [("loop.example/plashet/impl.rowOwners", laid_loop_example_plashet_impl_rowOwners)], narrowed := true }
def FnTreeBelowUptoSaid : Prop := fnTreeBelowUptoRow.holds Tryd.pinned (OpenSpec.upto fnTreeBelowSpec)

/-- 'laws.FnKidsAll', WHERE WHAT IT READS IS OF BULK AT MOST 1048576: true; the input reads as it did. -/
def fnKidsAllUptoRow : OpenClaim := { program := "ytaajcbbbmpdcnaadoor", sum := "a5ae630ea16967d9aa95714f5b7afe83e6a3ab4d7e9516b89f5c9e395cfae3cc", func := "loop.example/plashet/laws.FnKidsAll", spec := "fnKidsAll", unfollowed := true, recurses := true, named := ["loop.example/plashet/impl.rowOwners"], apart := false, laid := [("loop.example/plashet/impl.rowOwners", laid_loop_example_plashet_impl_rowOwners)], narrowed := true }
def FnKidsAllUptoSaid : Prop := fnKidsAllUptoRow.holds Tryd.pinned (OpenSpec.upto fnKidsAllSpec)

/-- 'laws.FnExactOpWhere', WHERE WHAT IT READS IS OF BULK AT MOST 1048576: true; the input reads as it did. -/
def fnExactOpWhereUptoRow : OpenClaim := { program := "ytaajcbbbmpdcnaadoor", sum := "a5ae630ea16967d9aa95714f5b7afe83e6a3ab4d7e9516b89f5c9e395cfae3cc", func := "loop.example/plashet/laws.FnExactOpWhere", spec := "fnExactOpWhere", named := ["loop.example/plashet/impl.rowOwners"], apart := false, laid := [("loop.example/plashet/impl.rowOwners", laid_loop_example_plashet_impl_rowOwners)], narrowed := true }
def FnExactOpWhereUptoSaid : Prop := fnExactOpWhereUptoRow.holds Tryd.pinned (OpenSpec.upto fnExactOpWhereSpec)

/-- 'laws.FnTreeUnder', WHERE WHAT IT READS IS OF BULK AT MOST 1048576: true; the input reads as it did. -/
def fnTreeUnderUptoRow : OpenClaim := { program := "ytaajcbbbmpdcnaadoor", sum := "a5ae630ea16967d9aa95714f5b7afe83e6a3ab4d7e9516b89f5c9e395cfae3cc", func := "loop.example/plashet/laws.FnTreeUnder", spec := "fnTreeUnder", named := ["loop.example/plashet/impl.rowOwners"], apart := false, laid := [("loop.example/plashet/impl.rowOwners", laid_loop_example_plashet_impl_rowOwners)], narrowed := true }
def FnTreeUnderUptoSaid : Prop := fnTreeUnderUptoRow.holds Tryd.pinned (OpenSpec.upto fnTreeUnderSpec)

/-- 'laws.FnTreeUp', WHERE WHAT IT READS IS OF BULK AT MOST 1048576: true; the input reads as it did. -/
def fnTreeUpUptoRow : OpenClaim := { program := "ytaajcbbbmpdcnaadoor", sum := "a5ae630ea16967d9aa95714f5b7afe83e6a3ab4d7e9516b89f5c9e395cfae3cc", func := "loop.example/plashet/laws.FnTreeUp", spec := "fnTreeUp", unfollowed := true, recurses := true, named := ["loop.example/plashet/impl.rowOwners"], apart := false, laid := [("loop.example/plashet/impl.rowOwners", laid_loop_example_plashet_impl_rowOwners)], narrowed := true }
def FnTreeUpUptoSaid : Prop := fnTreeUpUptoRow.holds Tryd.pinned (OpenSpec.upto fnTreeUpSpec)

/-- 'laws.FnAhead', WHERE WHAT IT READS IS OF BULK AT MOST 1048576: true; the input reads as it did. -/
def fnAheadUptoRow : OpenClaim := { program := "ytaajcbbbmpdcnaadoor", sum := "a5ae630ea16967d9aa95714f5b7afe83e6a3ab4d7e9516b89f5c9e395cfae3cc", func := "loop.example/plashet/laws.FnAhead", spec := "fnAhead", unfollowed := true, recurses := true, named := ["loop.example/plashet/impl.rowOwners"], apart := false, laid := [("loop.example/plashet/impl.rowOwners", laid_loop_example_plashet_impl_rowOwners)], narrowed := true }
def FnAheadUptoSaid : Prop := fnAheadUptoRow.holds Tryd.pinned (OpenSpec.upto fnAheadSpec)

/-- 'laws.FnTreeKids', WHERE WHAT IT READS IS OF BULK AT MOST 1048576: true; the input reads as it did. -/
def fnTreeKidsUptoRow : OpenClaim := { program := "ytaajcbbbmpdcnaadoor", sum := "a5ae630ea16967d9aa95714f5b7afe83e6a3ab4d7e9516b89f5c9e395cfae3cc", func := "loop.example/plashet/laws.FnTreeKids", spec := "fnTreeKids", unfollowed := true, recurses := true, named := ["loop.example/plashet/impl.rowOwners"], apart := false, laid := [("loop.example/plashet/impl.rowOwners", laid_loop_example_plashet_impl_rowOwners)], narrowed := true }
def FnTreeKidsUptoSaid : Prop := fnTreeKidsUptoRow.holds Tryd.pinned (OpenSpec.upto fnTreeKidsSpec)

/-- 'laws.FnWhere', WHERE WHAT IT READS IS OF BULK AT MOST 1048576: true; the input reads as it did. -/
def fnWhereUptoRow : OpenClaim := { program := "ytaajcbbbmpdcnaadoor", sum := "a5ae630ea16967d9aa95714f5b7afe83e6a3ab4d7e9516b89f5c9e395cfae3cc", func := "loop.example/plashet/laws.FnWhere", spec := "fnWhere", unfollowed := true, recurses := true, named := ["loop.example/plashet/impl.rowOwners"], apart := false, laid := [("loop.example/plashet/impl.rowOwners", laid_loop_example_plashet_impl_rowOwners)], narrowed := true }
def FnWhereUptoSaid : Prop := fnWhereUptoRow.holds Tryd.pinned (OpenSpec.upto fnWhereSpec)

end Rows
end Go.Proofs.YtaajcbbbmpdcnaaDoor
