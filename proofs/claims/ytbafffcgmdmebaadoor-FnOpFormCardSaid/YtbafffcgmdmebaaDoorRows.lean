/-
  NARROWER THAN 'FOR EVERY INPUT', by the rows' own cells (each row's printed sentence says how): FnExactRowWho: laid · FnMadeWho: laid · FnWho: laid · FnExactRowOk: laid · FnExactOpOk: laid · FnRowForm: laid · FnExactEntryOk: laid · FnOpForm: laid.
  DERIVED. THE GIVEN ROWS OF THIS SEAT. 8 by the template 'for every input the law returns true; each argument reads behind the call as it read before'; 0 by the template 'total and deterministic' (their statements: YtbafffcgmdmebaaDoorTotals.lean).
  GIVEN WITH THE SEED: the statements are not yours to turn. If you find one false, say at which input.
  Laid BY PROGRAM, IN A SANDBOX (cutbox-rows.mjs): the forced cells as the released guide's own fill.sh prints them over the translation 06071ba712d9abf8… (all of the seat's roots in one cut). By AI agents, Wed Nov 11 2026. No macro, syntax, notation, axiom, sorry.
-/
import Derived.Test.YtbafffcgmdmebaaDoorChecked
import GoSem.Claim
import GoSem.ClaimJoined
import GoSem.ClaimMapViews
import Derived.JoinedTies
import Derived.KernelRfl
namespace Go.Proofs.YtbafffcgmdmebaaDoor
/- THE CELL 'sum', in the pinned program and in every row, IS THE sha256 OF THE DUMP (.gsa) THAT YtbafffcgmdmebaaDoorProg.lean LOADS. Nothing in Lean hashes anything: it is a label: what it is worth is what the hold of that sum in a sandbox is worth. -/
noncomputable def Tryd.pinned : Pinned := { name := "ytbafffcgmdmebaadoor", sum := "06071ba712d9abf83be1ba15b693a8f53aac23dec849670936c28cabffe426fc", checked := Tryd.checked }
namespace Rows
def none {H : Type} : Left H := { results := [], args := [] }

/- WHAT THE LISTED PACKAGE-LEVEL VARIABLES READ AS WHEN THE CALL BEGINS. Each datum BY PROGRAM (the guide's laid-datum.mjs) off the statement by which the dump's own 'gosem.cut.vars' lays the variable. In a bare row this is a premise. The card (YtbafffcgmdmebaaDoorCards.lean) ties it to the program's text. -/
def laid_loop_example_plashet_impl_rowOwners {H : Type} : DataW H := .agg [.lit (.int .i64 0), .lit (.int .i64 1), .lit (.int .i64 1), .lit (.int .i64 1), .lit (.int .i64 0), .lit (.int .i64 0), .lit (.int .i64 0), .lit (.int .i64 0), .lit (.int .i64 0), .lit (.int .i64 0), .lit (.int .i64 0), .lit (.int .i64 2), .lit (.int .i64 2), .lit (.int .i64 2), .lit (.int .i64 2), .lit (.int .i64 2), .lit (.int .i64 2), .lit (.int .i64 0), .lit (.int .i64 0), .lit (.int .i64 0), .lit (.int .i64 0), .lit (.int .i64 3), .lit (.int .i64 3), .lit (.int .i64 3), .lit (.int .i64 3), .lit (.int .i64 3), .lit (.int .i64 3), .lit (.int .i64 0), .lit (.int .i64 0), .lit (.int .i64 0), .lit (.int .i64 0), .lit (.int .i64 4), .lit (.int .i64 4), .lit (.int .i64 4), .lit (.int .i64 4), .lit (.int .i64 4), .lit (.int .i64 4)]

/-- 'laws.FnExactRowWho': WHATEVER THE INPUT: true; the input reads as it did. -/
def fnExactRowWhoSpec : ChangeSpec := { name := "fnExactRowWho", vars := ["loop.example/plashet/impl.rowOwners"], fn := fun _ => fun
  | [d, g1] => { results := [.lit (.bool true)], args := [d], vars := [g1] }
  | _ => none }
def fnExactRowWhoRow : OpenClaim := { program := "ytbafffcgmdmebaadoor", sum := "06071ba712d9abf83be1ba15b693a8f53aac23dec849670936c28cabffe426fc", func := "loop.example/plashet/laws.FnExactRowWho", spec := "fnExactRowWho", named := ["loop.example/plashet/impl.rowOwners"], apart := false, laid := [("loop.example/plashet/impl.rowOwners", laid_loop_example_plashet_impl_rowOwners)] }
def FnExactRowWhoSaid : Prop := fnExactRowWhoRow.holds Tryd.pinned (OpenSpec.ofChange fnExactRowWhoSpec)

/-- ITS FALSE NEIGHBOUR: 'it returns false'. Refute it at one input. -/
def fnExactRowWhoWrong : ChangeSpec := { name := "fnExactRowWho", vars := ["loop.example/plashet/impl.rowOwners"], fn := fun _ => fun
  | [d, g1] => { results := [.lit (.bool false)], args := [d], vars := [g1] }
  | _ => none }
def FnExactRowWhoWrongFalsely : Prop := fnExactRowWhoRow.holds Tryd.pinned (OpenSpec.ofChange fnExactRowWhoWrong)

/-- 'laws.FnMadeWho': WHATEVER THE INPUT: true; the input reads as it did. -/
def fnMadeWhoSpec : ChangeSpec := { name := "fnMadeWho", vars := ["loop.example/plashet/impl.rowOwners"], fn := fun _ => fun
  | [d1, d2, g1] => { results := [.lit (.bool true)], args := [d1, d2], vars := [g1] }
  | _ => none }
def fnMadeWhoRow : OpenClaim := { program := "ytbafffcgmdmebaadoor", sum := "06071ba712d9abf83be1ba15b693a8f53aac23dec849670936c28cabffe426fc", func := "loop.example/plashet/laws.FnMadeWho", spec := "fnMadeWho", named := ["loop.example/plashet/impl.rowOwners"], apart := false, laid := [("loop.example/plashet/impl.rowOwners", laid_loop_example_plashet_impl_rowOwners)] }
def FnMadeWhoSaid : Prop := fnMadeWhoRow.holds Tryd.pinned (OpenSpec.ofChange fnMadeWhoSpec)

/-- ITS FALSE NEIGHBOUR: 'it returns false'. Refute it at one input. -/
def fnMadeWhoWrong : ChangeSpec := { name := "fnMadeWho", vars := ["loop.example/plashet/impl.rowOwners"], fn := fun _ => fun
  | [d1, d2, g1] => { results := [.lit (.bool false)], args := [d1, d2], vars := [g1] }
  | _ => none }
def FnMadeWhoWrongFalsely : Prop := fnMadeWhoRow.holds Tryd.pinned (OpenSpec.ofChange fnMadeWhoWrong)

/-- 'laws.FnWho': WHATEVER THE INPUT: true; the input reads as it did. -/
def fnWhoSpec : ChangeSpec := { name := "fnWho", vars := ["loop.example/plashet/impl.rowOwners"], fn := fun _ => fun
  | [d, g1] => { results := [.lit (.bool true)], args := [d], vars := [g1] }
  | _ => none }
def fnWhoRow : OpenClaim := { program := "ytbafffcgmdmebaadoor", sum := "06071ba712d9abf83be1ba15b693a8f53aac23dec849670936c28cabffe426fc", func := "loop.example/plashet/laws.FnWho", spec := "fnWho", named := ["loop.example/plashet/impl.rowOwners"], apart := false, laid := [("loop.example/plashet/impl.rowOwners", laid_loop_example_plashet_impl_rowOwners)] }
def FnWhoSaid : Prop := fnWhoRow.holds Tryd.pinned (OpenSpec.ofChange fnWhoSpec)

/-- ITS FALSE NEIGHBOUR: 'it returns false'. Refute it at one input. -/
def fnWhoWrong : ChangeSpec := { name := "fnWho", vars := ["loop.example/plashet/impl.rowOwners"], fn := fun _ => fun
  | [d, g1] => { results := [.lit (.bool false)], args := [d], vars := [g1] }
  | _ => none }
def FnWhoWrongFalsely : Prop := fnWhoRow.holds Tryd.pinned (OpenSpec.ofChange fnWhoWrong)

/-- 'laws.FnExactRowOk': WHATEVER THE INPUT: true; the input reads as it did. -/
def fnExactRowOkSpec : ChangeSpec := { name := "fnExactRowOk", vars := ["loop.example/plashet/impl.rowOwners"], fn := fun _ => fun
  | [d, g1] => { results := [.lit (.bool true)], args := [d], vars := [g1] }
  | _ => none }
def fnExactRowOkRow : OpenClaim := { program := "ytbafffcgmdmebaadoor", sum := "06071ba712d9abf83be1ba15b693a8f53aac23dec849670936c28cabffe426fc", func := "loop.example/plashet/laws.FnExactRowOk", spec := "fnExactRowOk", named := ["loop.example/plashet/impl.rowOwners"], apart := false, laid := [("loop.example/plashet/impl.rowOwners", laid_loop_example_plashet_impl_rowOwners)] }
def FnExactRowOkSaid : Prop := fnExactRowOkRow.holds Tryd.pinned (OpenSpec.ofChange fnExactRowOkSpec)

/-- ITS FALSE NEIGHBOUR: 'it returns false'. Refute it at one input. -/
def fnExactRowOkWrong : ChangeSpec := { name := "fnExactRowOk", vars := ["loop.example/plashet/impl.rowOwners"], fn := fun _ => fun
  | [d, g1] => { results := [.lit (.bool false)], args := [d], vars := [g1] }
  | _ => none }
def FnExactRowOkWrongFalsely : Prop := fnExactRowOkRow.holds Tryd.pinned (OpenSpec.ofChange fnExactRowOkWrong)

/-- 'laws.FnExactOpOk': WHATEVER THE INPUT: true; the input reads as it did. -/
def fnExactOpOkSpec : ChangeSpec := { name := "fnExactOpOk", vars := ["loop.example/plashet/impl.rowOwners"], fn := fun _ => fun
  | [d, g1] => { results := [.lit (.bool true)], args := [d], vars := [g1] }
  | _ => none }
def fnExactOpOkRow : OpenClaim := { program := "ytbafffcgmdmebaadoor", sum := "06071ba712d9abf83be1ba15b693a8f53aac23dec849670936c28cabffe426fc", func := "loop.example/plashet/laws.FnExactOpOk", spec := "fnExactOpOk", named := ["loop.example/plashet/impl.rowOwners"], apart := false, laid := [("loop.example/plashet/impl.rowOwners", laid_loop_example_plashet_impl_rowOwners)] }
def FnExactOpOkSaid : Prop := fnExactOpOkRow.holds Tryd.pinned (OpenSpec.ofChange fnExactOpOkSpec)

/-- ITS FALSE NEIGHBOUR: 'it returns false'. Refute it at one input. -/
def fnExactOpOkWrong : ChangeSpec := { name := "fnExactOpOk", vars := ["loop.example/plashet/impl.rowOwners"], fn := fun _ => fun
  | [d, g1] => { results := [.lit (.bool false)], args := [d], vars := [g1] }
  | _ => none }
def FnExactOpOkWrongFalsely : Prop := fnExactOpOkRow.holds Tryd.pinned (OpenSpec.ofChange fnExactOpOkWrong)

/-- 'laws.FnRowForm': WHATEVER THE INPUT: true; the input reads as it did. -/
def fnRowFormSpec : ChangeSpec := { name := "fnRowForm", vars := ["loop.example/plashet/impl.rowOwners"], fn := fun _ => fun
  | [d, g1] => { results := [.lit (.bool true)], args := [d], vars := [g1] }
  | _ => none }
def fnRowFormRow : OpenClaim := { program := "ytbafffcgmdmebaadoor", sum := "06071ba712d9abf83be1ba15b693a8f53aac23dec849670936c28cabffe426fc", func := "loop.example/plashet/laws.FnRowForm", spec := "fnRowForm", named := ["loop.example/plashet/impl.rowOwners"], apart := false, laid := [("loop.example/plashet/impl.rowOwners", laid_loop_example_plashet_impl_rowOwners)] }
def FnRowFormSaid : Prop := fnRowFormRow.holds Tryd.pinned (OpenSpec.ofChange fnRowFormSpec)

/-- ITS FALSE NEIGHBOUR: 'it returns false'. Refute it at one input. -/
def fnRowFormWrong : ChangeSpec := { name := "fnRowForm", vars := ["loop.example/plashet/impl.rowOwners"], fn := fun _ => fun
  | [d, g1] => { results := [.lit (.bool false)], args := [d], vars := [g1] }
  | _ => none }
def FnRowFormWrongFalsely : Prop := fnRowFormRow.holds Tryd.pinned (OpenSpec.ofChange fnRowFormWrong)

/-- 'laws.FnExactEntryOk': WHATEVER THE INPUT: true; the input reads as it did. -/
def fnExactEntryOkSpec : ChangeSpec := { name := "fnExactEntryOk", vars := ["loop.example/plashet/impl.rowOwners"], fn := fun _ => fun
  | [d, g1] => { results := [.lit (.bool true)], args := [d], vars := [g1] }
  | _ => none }
def fnExactEntryOkRow : OpenClaim := { program := "ytbafffcgmdmebaadoor", sum := "06071ba712d9abf83be1ba15b693a8f53aac23dec849670936c28cabffe426fc", func := "loop.example/plashet/laws.FnExactEntryOk", spec := "fnExactEntryOk", named := ["loop.example/plashet/impl.rowOwners"], apart := false, laid := [("loop.example/plashet/impl.rowOwners", laid_loop_example_plashet_impl_rowOwners)] }
def FnExactEntryOkSaid : Prop := fnExactEntryOkRow.holds Tryd.pinned (OpenSpec.ofChange fnExactEntryOkSpec)

/-- ITS FALSE NEIGHBOUR: 'it returns false'. Refute it at one input. -/
def fnExactEntryOkWrong : ChangeSpec := { name := "fnExactEntryOk", vars := ["loop.example/plashet/impl.rowOwners"], fn := fun _ => fun
  | [d, g1] => { results := [.lit (.bool false)], args := [d], vars := [g1] }
  | _ => none }
def FnExactEntryOkWrongFalsely : Prop := fnExactEntryOkRow.holds Tryd.pinned (OpenSpec.ofChange fnExactEntryOkWrong)

/-- 'laws.FnOpForm': WHATEVER THE INPUT: true; the input reads as it did. -/
def fnOpFormSpec : ChangeSpec := { name := "fnOpForm", vars := ["loop.example/plashet/impl.rowOwners"], fn := fun _ => fun
  | [d, g1] => { results := [.lit (.bool true)], args := [d], vars := [g1] }
  | _ => none }
def fnOpFormRow : OpenClaim := { program := "ytbafffcgmdmebaadoor", sum := "06071ba712d9abf83be1ba15b693a8f53aac23dec849670936c28cabffe426fc", func := "loop.example/plashet/laws.FnOpForm", spec := "fnOpForm", named := ["loop.example/plashet/impl.rowOwners"], apart := false, laid := [("loop.example/plashet/impl.rowOwners", laid_loop_example_plashet_impl_rowOwners)] }
def FnOpFormSaid : Prop := fnOpFormRow.holds Tryd.pinned (OpenSpec.ofChange fnOpFormSpec)

/-- ITS FALSE NEIGHBOUR: 'it returns false'. Refute it at one input. -/
def fnOpFormWrong : ChangeSpec := { name := "fnOpForm", vars := ["loop.example/plashet/impl.rowOwners"], fn := fun _ => fun
  | [d, g1] => { results := [.lit (.bool false)], args := [d], vars := [g1] }
  | _ => none }
def FnOpFormWrongFalsely : Prop := fnOpFormRow.holds Tryd.pinned (OpenSpec.ofChange fnOpFormWrong)

/- THE SECOND FORM. 'bulk': how many values and letters a reading holds, each counted each time it is reached (what is shared counts as often as it is met; a slice's spare places count too). A statement '..UptoSaid' is the law's where the arguments, and the package variables that the reading takes, are together of bulk at most 1048576: NARROWER than '..Said'. Prove '..Said' where nothing that the law and all that it calls make is longer than what came in: it says more and counts as full. Else prove '..UptoSaid'. A law counts once. -/
mutual
def uptoBulk {H : Type} : DataW H → Nat
  | .lit (.string bytes) => bytes.length + 1
  | .lit _ => 1
  | .nil => 1
  | .ptr d => uptoBulk d + 1
  | .slice elems spare => uptoBulkAll elems + uptoBulkAll spare + 1
  | .agg parts => uptoBulkAll parts + 1
  | .iface _ d => uptoBulk d + 1
  | .map entries => uptoBulkEntries entries + 1
  | .held _ => 1
def uptoBulkAll {H : Type} : List (DataW H) → Nat
  | [] => 0
  | d :: r => uptoBulk d + uptoBulkAll r
def uptoBulkEntries {H : Type} : List (Lit × DataW H) → Nat
  | [] => 0
  | x :: r => uptoBulkEntry x + uptoBulkEntries r
def uptoBulkEntry {H : Type} : Lit × DataW H → Nat
  | (.string bytes, d) => bytes.length + uptoBulk d + 1
  | (_, d) => uptoBulk d + 1
 end
def uptoSmall : (H : Type) → List (DataW H) → Bool := fun _ ds => decide (uptoBulkAll ds ≤ 1048576)
def OpenSpec.upto (s : _root_.Go.ChangeSpec) : _root_.Go.OpenSpec := { _root_.Go.OpenSpec.ofChange s with cond := some uptoSmall }

/-- 'laws.FnExactRowWho', WHERE WHAT IT READS IS OF BULK AT MOST 1048576: true; the input reads as it did. -/
def fnExactRowWhoUptoRow : OpenClaim := { program := "ytbafffcgmdmebaadoor", sum := "06071ba712d9abf83be1ba15b693a8f53aac23dec849670936c28cabffe426fc", func := "loop.example/plashet/laws.FnExactRowWho", spec := "fnExactRowWho", named := ["loop.example/plashet/impl.rowOwners"], apart := false, laid := [("loop.example/plashet/impl.rowOwners", laid_loop_example_plashet_impl_rowOwners)], narrowed := true }
def FnExactRowWhoUptoSaid : Prop := fnExactRowWhoUptoRow.holds Tryd.pinned (OpenSpec.upto fnExactRowWhoSpec)

/-- 'laws.FnMadeWho', WHERE WHAT IT READS IS OF BULK AT MOST 1048576: true; the input reads as it did. -/
def fnMadeWhoUptoRow : OpenClaim := { program := "ytbafffcgmdmebaadoor", sum := "06071ba712d9abf83be1ba15b693a8f53aac23dec849670936c28cabffe426fc", func := "loop.example/plashet/laws.FnMadeWho", spec := "fnMadeWho", named := ["loop.example/plashet/impl.rowOwners"], apart := false, laid := [("loop.example/plashet/impl.rowOwners", laid_loop_example_plashet_impl_rowOwners)], narrowed := true }
def FnMadeWhoUptoSaid : Prop := fnMadeWhoUptoRow.holds Tryd.pinned (OpenSpec.upto fnMadeWhoSpec)

/-- 'laws.FnWho', WHERE WHAT IT READS IS OF BULK AT MOST 1048576: true; the input reads as it did. -/
def fnWhoUptoRow : OpenClaim := { program := "ytbafffcgmdmebaadoor", sum := "06071ba712d9abf83be1ba15b693a8f53aac23dec849670936c28cabffe426fc", func := "loop.example/plashet/laws.FnWho", spec := "fnWho", named := ["loop.example/plashet/impl.rowOwners"], apart := false, laid := [("loop.example/plashet/impl.rowOwners", laid_loop_example_plashet_impl_rowOwners)], narrowed := true }
def FnWhoUptoSaid : Prop := fnWhoUptoRow.holds Tryd.pinned (OpenSpec.upto fnWhoSpec)

/-- 'laws.FnExactRowOk', WHERE WHAT IT READS IS OF BULK AT MOST 1048576: true; the input reads as it did. -/
def fnExactRowOkUptoRow : OpenClaim := { program := "ytbafffcgmdmebaadoor", sum := "06071ba712d9abf83be1ba15b693a8f53aac23dec849670936c28cabffe426fc", func := "loop.example/plashet/laws.FnExactRowOk", spec := "fnExactRowOk", named := ["loop.example/plashet/impl.rowOwners"], apart := false, laid := [("loop.example/plashet/impl.rowOwners", laid_loop_example_plashet_impl_rowOwners)], narrowed := true }
def FnExactRowOkUptoSaid : Prop := fnExactRowOkUptoRow.holds Tryd.pinned (OpenSpec.upto fnExactRowOkSpec)

/-- 'laws.FnExactOpOk', WHERE WHAT IT READS IS OF BULK AT MOST 1048576: true; the input reads as it did. -/
def fnExactOpOkUptoRow : OpenClaim := { program := "ytbafffcgmdmebaadoor", sum := "06071ba712d9abf83be1ba15b693a8f53aac23dec849670936c28cabffe426fc", func := "loop.example/plashet/laws.FnExactOpOk", spec := "fnExactOpOk", named := ["loop.example/plashet/impl.rowOwners"], apart := false, laid := [("loop.example/plashet/impl.rowOwners", laid_loop_example_plashet_impl_rowOwners)], narrowed := true }
def FnExactOpOkUptoSaid : Prop := fnExactOpOkUptoRow.holds Tryd.pinned (OpenSpec.upto fnExactOpOkSpec)

/-- 'laws.FnRowForm', WHERE WHAT IT READS IS OF BULK AT MOST 1048576: true; the input reads as it did. -/
def fnRowFormUptoRow : OpenClaim := { program := "ytbafffcgmdmebaadoor", sum := "06071ba712d9abf83be1ba15b693a8f53aac23dec849670936c28cabffe426fc", func := "loop.example/plashet/laws.FnRowForm", spec := "fnRowForm", named := ["loop.example/plashet/impl.rowOwners"], apart := false, laid := [("loop.example/plashet/impl.rowOwners", laid_loop_example_plashet_impl_rowOwners)], narrowed := true }
def FnRowFormUptoSaid : Prop := fnRowFormUptoRow.holds Tryd.pinned (OpenSpec.upto fnRowFormSpec)

/-- 'laws.FnExactEntryOk', WHERE WHAT IT READS IS OF BULK AT MOST 1048576: true; the input reads as it did. -/
def fnExactEntryOkUptoRow : OpenClaim := { program := "ytbafffcgmdmebaadoor", sum := "06071ba712d9abf83be1ba15b693a8f53aac23dec849670936c28cabffe426fc", func := "loop.example/plashet/laws.FnExactEntryOk", spec := "fnExactEntryOk", named := ["loop.example/plashet/impl.rowOwners"], apart := false, laid := [("loop.example/plashet/impl.rowOwners", laid_loop_example_plashet_impl_rowOwners)], narrowed := true }
def FnExactEntryOkUptoSaid : Prop := fnExactEntryOkUptoRow.holds Tryd.pinned (OpenSpec.upto fnExactEntryOkSpec)

/-- 'laws.FnOpForm', WHERE WHAT IT READS IS OF BULK AT MOST 1048576: true; the input reads as it did. -/
def fnOpFormUptoRow : OpenClaim := { program := "ytbafffcgmdmebaadoor", sum := "06071ba712d9abf83be1ba15b693a8f53aac23dec849670936c28cabffe426fc", func := "loop.example/plashet/laws.FnOpForm", spec := "fnOpForm", named := ["loop.example/plashet/impl.rowOwners"], apart := false, laid := [("loop.example/plashet/impl.rowOwners", laid_loop_example_plashet_impl_rowOwners)], narrowed := true }
def FnOpFormUptoSaid : Prop := fnOpFormUptoRow.holds Tryd.pinned (OpenSpec.upto fnOpFormSpec)

end Rows
end Go.Proofs.YtbafffcgmdmebaaDoor
