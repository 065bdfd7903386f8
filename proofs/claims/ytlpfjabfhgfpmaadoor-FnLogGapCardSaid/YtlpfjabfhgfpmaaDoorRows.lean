/-
  NARROWER THAN 'FOR EVERY INPUT', by the rows' own cells (each row's printed sentence says how): FnEntryForm: laid · FnExactLogOk: laid · FnExactLogSeq: laid · FnExactServerOk: laid · FnExactLogAdd: laid · FnLogSeq: laid · FnLogGap: laid · FnLogTwice: laid · FnLogAdd: laid.
  DERIVED. THE GIVEN ROWS OF THIS SEAT. 9 by the template 'for every input the law returns true; each argument reads behind the call as it read before'; 0 by the template 'total and deterministic' (their statements: YtlpfjabfhgfpmaaDoorTotals.lean).
  GIVEN WITH THE SEED: the statements are not yours to turn. If you find one false, say at which input.
  Laid BY PROGRAM, IN A SANDBOX (cutbox-rows.mjs): the forced cells as the released guide's own fill.sh prints them over the translation 0a999219ec5983cf… (all of the seat's roots in one cut). By AI agents, Wed Nov 11 2026. No macro, syntax, notation, axiom, sorry.
-/
import Derived.Test.YtlpfjabfhgfpmaaDoorChecked
import GoSem.Claim
import GoSem.ClaimJoined
import GoSem.ClaimMapViews
import Derived.JoinedTies
import Derived.KernelRfl
namespace Go.Proofs.YtlpfjabfhgfpmaaDoor
/- THE CELL 'sum', in the pinned program and in every row, IS THE sha256 OF THE DUMP (.gsa) THAT YtlpfjabfhgfpmaaDoorProg.lean LOADS. Nothing in Lean hashes anything: it is a label: what it is worth is what the hold of that sum in a sandbox is worth. -/
noncomputable def Tryd.pinned : Pinned := { name := "ytlpfjabfhgfpmaadoor", sum := "0a999219ec5983cf65b909f298d83701e07971108f844e5513aaf2dc227254e4", checked := Tryd.checked }
namespace Rows
def none {H : Type} : Left H := { results := [], args := [] }

/- WHAT THE LISTED PACKAGE-LEVEL VARIABLES READ AS WHEN THE CALL BEGINS. Each datum BY PROGRAM (the guide's laid-datum.mjs) off the statement by which the dump's own 'gosem.cut.vars' lays the variable. In a bare row this is a premise. The card (YtlpfjabfhgfpmaaDoorCards.lean) ties it to the program's text. -/
def laid_loop_example_plashet_impl_rowOwners {H : Type} : DataW H := .agg [.lit (.int .i64 0), .lit (.int .i64 1), .lit (.int .i64 1), .lit (.int .i64 1), .lit (.int .i64 0), .lit (.int .i64 0), .lit (.int .i64 0), .lit (.int .i64 0), .lit (.int .i64 0), .lit (.int .i64 0), .lit (.int .i64 0), .lit (.int .i64 2), .lit (.int .i64 2), .lit (.int .i64 2), .lit (.int .i64 2), .lit (.int .i64 2), .lit (.int .i64 2), .lit (.int .i64 0), .lit (.int .i64 0), .lit (.int .i64 0), .lit (.int .i64 0), .lit (.int .i64 3), .lit (.int .i64 3), .lit (.int .i64 3), .lit (.int .i64 3), .lit (.int .i64 3), .lit (.int .i64 3), .lit (.int .i64 0), .lit (.int .i64 0), .lit (.int .i64 0), .lit (.int .i64 0), .lit (.int .i64 4), .lit (.int .i64 4), .lit (.int .i64 4), .lit (.int .i64 4), .lit (.int .i64 4), .lit (.int .i64 4)]

/-- 'laws.FnEntryForm': WHATEVER THE INPUT: true; the input reads as it did. -/
def fnEntryFormSpec : ChangeSpec := { name := "fnEntryForm", vars := ["loop.example/plashet/impl.rowOwners"], fn := fun _ => fun
  | [d1, d2, g1] => { results := [.lit (.bool true)], args := [d1, d2], vars := [g1] }
  | _ => none }
def fnEntryFormRow : OpenClaim := { program := "ytlpfjabfhgfpmaadoor", sum := "0a999219ec5983cf65b909f298d83701e07971108f844e5513aaf2dc227254e4", func := "loop.example/plashet/laws.FnEntryForm", spec := "fnEntryForm", named := ["loop.example/plashet/impl.rowOwners"], apart := false, laid := [("loop.example/plashet/impl.rowOwners", laid_loop_example_plashet_impl_rowOwners)] }
def FnEntryFormSaid : Prop := fnEntryFormRow.holds Tryd.pinned (OpenSpec.ofChange fnEntryFormSpec)

/-- ITS FALSE NEIGHBOUR: 'it returns false'. Refute it at one input. -/
def fnEntryFormWrong : ChangeSpec := { name := "fnEntryForm", vars := ["loop.example/plashet/impl.rowOwners"], fn := fun _ => fun
  | [d1, d2, g1] => { results := [.lit (.bool false)], args := [d1, d2], vars := [g1] }
  | _ => none }
def FnEntryFormWrongFalsely : Prop := fnEntryFormRow.holds Tryd.pinned (OpenSpec.ofChange fnEntryFormWrong)

/-- 'laws.FnExactLogOk': WHATEVER THE INPUT: true; the input reads as it did. -/
def fnExactLogOkSpec : ChangeSpec := { name := "fnExactLogOk", vars := ["loop.example/plashet/impl.rowOwners"], fn := fun _ => fun
  | [d, g1] => { results := [.lit (.bool true)], args := [d], vars := [g1] }
  | _ => none }
def fnExactLogOkRow : OpenClaim := { program := "ytlpfjabfhgfpmaadoor", sum := "0a999219ec5983cf65b909f298d83701e07971108f844e5513aaf2dc227254e4", func := "loop.example/plashet/laws.FnExactLogOk", spec := "fnExactLogOk", named := ["loop.example/plashet/impl.rowOwners"], apart := false, laid := [("loop.example/plashet/impl.rowOwners", laid_loop_example_plashet_impl_rowOwners)] }
def FnExactLogOkSaid : Prop := fnExactLogOkRow.holds Tryd.pinned (OpenSpec.ofChange fnExactLogOkSpec)

/-- ITS FALSE NEIGHBOUR: 'it returns false'. Refute it at one input. -/
def fnExactLogOkWrong : ChangeSpec := { name := "fnExactLogOk", vars := ["loop.example/plashet/impl.rowOwners"], fn := fun _ => fun
  | [d, g1] => { results := [.lit (.bool false)], args := [d], vars := [g1] }
  | _ => none }
def FnExactLogOkWrongFalsely : Prop := fnExactLogOkRow.holds Tryd.pinned (OpenSpec.ofChange fnExactLogOkWrong)

/-- 'laws.FnExactLogSeq': WHATEVER THE INPUT: true; the input reads as it did. -/
def fnExactLogSeqSpec : ChangeSpec := { name := "fnExactLogSeq", vars := ["loop.example/plashet/impl.rowOwners"], fn := fun _ => fun
  | [d1, d2, g1] => { results := [.lit (.bool true)], args := [d1, d2], vars := [g1] }
  | _ => none }
def fnExactLogSeqRow : OpenClaim := { program := "ytlpfjabfhgfpmaadoor", sum := "0a999219ec5983cf65b909f298d83701e07971108f844e5513aaf2dc227254e4", func := "loop.example/plashet/laws.FnExactLogSeq", spec := "fnExactLogSeq", named := ["loop.example/plashet/impl.rowOwners"], apart := false, laid := [("loop.example/plashet/impl.rowOwners", laid_loop_example_plashet_impl_rowOwners)] }
def FnExactLogSeqSaid : Prop := fnExactLogSeqRow.holds Tryd.pinned (OpenSpec.ofChange fnExactLogSeqSpec)

/-- ITS FALSE NEIGHBOUR: 'it returns false'. Refute it at one input. -/
def fnExactLogSeqWrong : ChangeSpec := { name := "fnExactLogSeq", vars := ["loop.example/plashet/impl.rowOwners"], fn := fun _ => fun
  | [d1, d2, g1] => { results := [.lit (.bool false)], args := [d1, d2], vars := [g1] }
  | _ => none }
def FnExactLogSeqWrongFalsely : Prop := fnExactLogSeqRow.holds Tryd.pinned (OpenSpec.ofChange fnExactLogSeqWrong)

/-- 'laws.FnExactServerOk': WHATEVER THE INPUT: true; the input reads as it did. -/
def fnExactServerOkSpec : ChangeSpec := { name := "fnExactServerOk", vars := ["loop.example/plashet/impl.rowOwners"], fn := fun _ => fun
  | [d, g1] => { results := [.lit (.bool true)], args := [d], vars := [g1] }
  | _ => none }
def fnExactServerOkRow : OpenClaim := { program := "ytlpfjabfhgfpmaadoor", sum := "0a999219ec5983cf65b909f298d83701e07971108f844e5513aaf2dc227254e4", func := "loop.example/plashet/laws.FnExactServerOk", spec := "fnExactServerOk", named := ["loop.example/plashet/impl.rowOwners"], apart := false, laid := [("loop.example/plashet/impl.rowOwners", laid_loop_example_plashet_impl_rowOwners)] }
def FnExactServerOkSaid : Prop := fnExactServerOkRow.holds Tryd.pinned (OpenSpec.ofChange fnExactServerOkSpec)

/-- ITS FALSE NEIGHBOUR: 'it returns false'. Refute it at one input. -/
def fnExactServerOkWrong : ChangeSpec := { name := "fnExactServerOk", vars := ["loop.example/plashet/impl.rowOwners"], fn := fun _ => fun
  | [d, g1] => { results := [.lit (.bool false)], args := [d], vars := [g1] }
  | _ => none }
def FnExactServerOkWrongFalsely : Prop := fnExactServerOkRow.holds Tryd.pinned (OpenSpec.ofChange fnExactServerOkWrong)

/-- 'laws.FnExactLogAdd': WHATEVER THE INPUT: true; the input reads as it did. -/
def fnExactLogAddSpec : ChangeSpec := { name := "fnExactLogAdd", vars := ["loop.example/plashet/impl.rowOwners"], fn := fun _ => fun
  | [d1, d2, g1] => { results := [.lit (.bool true)], args := [d1, d2], vars := [g1] }
  | _ => none }
def fnExactLogAddRow : OpenClaim := { program := "ytlpfjabfhgfpmaadoor", sum := "0a999219ec5983cf65b909f298d83701e07971108f844e5513aaf2dc227254e4", func := "loop.example/plashet/laws.FnExactLogAdd", spec := "fnExactLogAdd", named := ["loop.example/plashet/impl.rowOwners"], apart := false, laid := [("loop.example/plashet/impl.rowOwners", laid_loop_example_plashet_impl_rowOwners)] }
def FnExactLogAddSaid : Prop := fnExactLogAddRow.holds Tryd.pinned (OpenSpec.ofChange fnExactLogAddSpec)

/-- ITS FALSE NEIGHBOUR: 'it returns false'. Refute it at one input. -/
def fnExactLogAddWrong : ChangeSpec := { name := "fnExactLogAdd", vars := ["loop.example/plashet/impl.rowOwners"], fn := fun _ => fun
  | [d1, d2, g1] => { results := [.lit (.bool false)], args := [d1, d2], vars := [g1] }
  | _ => none }
def FnExactLogAddWrongFalsely : Prop := fnExactLogAddRow.holds Tryd.pinned (OpenSpec.ofChange fnExactLogAddWrong)

/-- 'laws.FnLogSeq': WHATEVER THE INPUT: true; the input reads as it did. -/
def fnLogSeqSpec : ChangeSpec := { name := "fnLogSeq", vars := ["loop.example/plashet/impl.rowOwners"], fn := fun _ => fun
  | [d, g1] => { results := [.lit (.bool true)], args := [d], vars := [g1] }
  | _ => none }
def fnLogSeqRow : OpenClaim := { program := "ytlpfjabfhgfpmaadoor", sum := "0a999219ec5983cf65b909f298d83701e07971108f844e5513aaf2dc227254e4", func := "loop.example/plashet/laws.FnLogSeq", spec := "fnLogSeq", named := ["loop.example/plashet/impl.rowOwners"], apart := false, laid := [("loop.example/plashet/impl.rowOwners", laid_loop_example_plashet_impl_rowOwners)] }
def FnLogSeqSaid : Prop := fnLogSeqRow.holds Tryd.pinned (OpenSpec.ofChange fnLogSeqSpec)

/-- ITS FALSE NEIGHBOUR: 'it returns false'. Refute it at one input. -/
def fnLogSeqWrong : ChangeSpec := { name := "fnLogSeq", vars := ["loop.example/plashet/impl.rowOwners"], fn := fun _ => fun
  | [d, g1] => { results := [.lit (.bool false)], args := [d], vars := [g1] }
  | _ => none }
def FnLogSeqWrongFalsely : Prop := fnLogSeqRow.holds Tryd.pinned (OpenSpec.ofChange fnLogSeqWrong)

/-- 'laws.FnLogGap': WHATEVER THE INPUT: true; the input reads as it did. -/
def fnLogGapSpec : ChangeSpec := { name := "fnLogGap", vars := ["loop.example/plashet/impl.rowOwners"], fn := fun _ => fun
  | [d, g1] => { results := [.lit (.bool true)], args := [d], vars := [g1] }
  | _ => none }
def fnLogGapRow : OpenClaim := { program := "ytlpfjabfhgfpmaadoor", sum := "0a999219ec5983cf65b909f298d83701e07971108f844e5513aaf2dc227254e4", func := "loop.example/plashet/laws.FnLogGap", spec := "fnLogGap", named := ["loop.example/plashet/impl.rowOwners"], apart := false, laid := [("loop.example/plashet/impl.rowOwners", laid_loop_example_plashet_impl_rowOwners)] }
def FnLogGapSaid : Prop := fnLogGapRow.holds Tryd.pinned (OpenSpec.ofChange fnLogGapSpec)

/-- ITS FALSE NEIGHBOUR: 'it returns false'. Refute it at one input. -/
def fnLogGapWrong : ChangeSpec := { name := "fnLogGap", vars := ["loop.example/plashet/impl.rowOwners"], fn := fun _ => fun
  | [d, g1] => { results := [.lit (.bool false)], args := [d], vars := [g1] }
  | _ => none }
def FnLogGapWrongFalsely : Prop := fnLogGapRow.holds Tryd.pinned (OpenSpec.ofChange fnLogGapWrong)

/-- 'laws.FnLogTwice': WHATEVER THE INPUT: true; the input reads as it did. -/
def fnLogTwiceSpec : ChangeSpec := { name := "fnLogTwice", vars := ["loop.example/plashet/impl.rowOwners"], fn := fun _ => fun
  | [d, g1] => { results := [.lit (.bool true)], args := [d], vars := [g1] }
  | _ => none }
def fnLogTwiceRow : OpenClaim := { program := "ytlpfjabfhgfpmaadoor", sum := "0a999219ec5983cf65b909f298d83701e07971108f844e5513aaf2dc227254e4", func := "loop.example/plashet/laws.FnLogTwice", spec := "fnLogTwice", named := ["loop.example/plashet/impl.rowOwners"], apart := false, laid := [("loop.example/plashet/impl.rowOwners", laid_loop_example_plashet_impl_rowOwners)] }
def FnLogTwiceSaid : Prop := fnLogTwiceRow.holds Tryd.pinned (OpenSpec.ofChange fnLogTwiceSpec)

/-- ITS FALSE NEIGHBOUR: 'it returns false'. Refute it at one input. -/
def fnLogTwiceWrong : ChangeSpec := { name := "fnLogTwice", vars := ["loop.example/plashet/impl.rowOwners"], fn := fun _ => fun
  | [d, g1] => { results := [.lit (.bool false)], args := [d], vars := [g1] }
  | _ => none }
def FnLogTwiceWrongFalsely : Prop := fnLogTwiceRow.holds Tryd.pinned (OpenSpec.ofChange fnLogTwiceWrong)

/-- 'laws.FnLogAdd': WHATEVER THE INPUT: true; the input reads as it did. -/
def fnLogAddSpec : ChangeSpec := { name := "fnLogAdd", vars := ["loop.example/plashet/impl.rowOwners"], fn := fun _ => fun
  | [d, g1] => { results := [.lit (.bool true)], args := [d], vars := [g1] }
  | _ => none }
def fnLogAddRow : OpenClaim := { program := "ytlpfjabfhgfpmaadoor", sum := "0a999219ec5983cf65b909f298d83701e07971108f844e5513aaf2dc227254e4", func := "loop.example/plashet/laws.FnLogAdd", spec := "fnLogAdd", named := ["loop.example/plashet/impl.rowOwners"], apart := false, laid := [("loop.example/plashet/impl.rowOwners", laid_loop_example_plashet_impl_rowOwners)] }
def FnLogAddSaid : Prop := fnLogAddRow.holds Tryd.pinned (OpenSpec.ofChange fnLogAddSpec)

/-- ITS FALSE NEIGHBOUR: 'it returns false'. Refute it at one input. -/
def fnLogAddWrong : ChangeSpec := { name := "fnLogAdd", vars := ["loop.example/plashet/impl.rowOwners"], fn := fun _ => fun
  | [d, g1] => { results := [.lit (.bool false)], args := [d], vars := [g1] }
  | _ => none }
def FnLogAddWrongFalsely : Prop := fnLogAddRow.holds Tryd.pinned (OpenSpec.ofChange fnLogAddWrong)

/- THE SECOND FORM. 'bulk': how many values and letters a reading holds, each counted each time it is reached (what is shared counts as often as it is met; a slice's spare places count too). A statement '..UptoSaid' is the law's where the arguments, and the package variables that the reading takes, are together of bulk at most 1048576: NARROWER than '..Said'. Prove '..Said' where nothing that the law and all that it calls make is longer than what came in: it says more and counts as full. Else prove '..UptoSaid'. A law counts once. -/
mutual
def uptoBulk {H : Type} : DataW H → Nat
  | .lit (.string bytes) => bytes.length + 1
  | .lit _ => 1
  | .nil => 1
  | .ptr d => uptoBulk d + 1
  | .slice elems spare => uptoBulkAll elems + uptoBulkAll spare + 1
  | .agg parts => uptoBulkAll parts + 1
  | .iface _ d => uptoBulk d + 1
  | .map entries => uptoBulkEntries entries + 1
  | .held _ => 1
def uptoBulkAll {H : Type} : List (DataW H) → Nat
  | [] => 0
  | d :: r => uptoBulk d + uptoBulkAll r
def uptoBulkEntries {H : Type} : List (Lit × DataW H) → Nat
  | [] => 0
  | x :: r => uptoBulkEntry x + uptoBulkEntries r
def uptoBulkEntry {H : Type} : Lit × DataW H → Nat
  | (.string bytes, d) => bytes.length + uptoBulk d + 1
  | (_, d) => uptoBulk d + 1
 end
def uptoSmall : (H : Type) → List (DataW H) → Bool := fun _ ds => decide (uptoBulkAll ds ≤ 1048576)
def OpenSpec.upto (s : _root_.Go.ChangeSpec) : _root_.Go.OpenSpec := { _root_.Go.OpenSpec.ofChange s with cond := some uptoSmall }

/-- 'laws.FnEntryForm', WHERE WHAT IT READS IS OF BULK AT MOST 1048576: true; the input reads as it did. -/
def fnEntryFormUptoRow : OpenClaim := { program := "ytlpfjabfhgfpmaadoor", sum := "0a999219ec5983cf65b909f298d83701e07971108f844e5513aaf2dc227254e4", func := "loop.example/plashet/laws.FnEntryForm", spec := "fnEntryForm", named := ["loop.example/plashet/impl.rowOwners"], apart := false, laid := [("loop.example/plashet/impl.rowOwners", laid_loop_example_plashet_impl_rowOwners)], narrowed := true }
def FnEntryFormUptoSaid : Prop := fnEntryFormUptoRow.holds Tryd.pinned (OpenSpec.upto fnEntryFormSpec)

/-- 'laws.FnExactLogOk', WHERE WHAT IT READS IS OF BULK AT MOST 1048576: true; the input reads as it did. -/
def fnExactLogOkUptoRow : OpenClaim := { program := "ytlpfjabfhgfpmaadoor", sum := "0a999219ec5983cf65b909f298d83701e07971108f844e5513aaf2dc227254e4", func := "loop.example/plashet/laws.FnExactLogOk", spec := "fnExactLogOk", named := ["loop.example/plashet/impl.rowOwners"], apart := false, laid := [("loop.example/plashet/impl.rowOwners", laid_loop_example_plashet_impl_rowOwners)], narrowed := true }
def FnExactLogOkUptoSaid : Prop := fnExactLogOkUptoRow.holds Tryd.pinned (OpenSpec.upto fnExactLogOkSpec)

/-- 'laws.FnExactLogSeq', WHERE WHAT IT READS IS OF BULK AT MOST 1048576: true; the input reads as it did. -/
def fnExactLogSeqUptoRow : OpenClaim := { program := "ytlpfjabfhgfpmaadoor", sum := "0a999219ec5983cf65b909f298d83701e07971108f844e5513aaf2dc227254e4", func := "loop.example/plashet/laws.FnExactLogSeq", spec := "fnExactLogSeq", named := ["loop.example/plashet/impl.rowOwners"], apart := false, laid := [("loop.example/plashet/impl.rowOwners", laid_loop_example_plashet_impl_rowOwners)], narrowed := true }
def FnExactLogSeqUptoSaid : Prop := fnExactLogSeqUptoRow.holds Tryd.pinned (OpenSpec.upto fnExactLogSeqSpec)

/-- 'laws.FnExactServerOk', WHERE WHAT IT READS IS OF BULK AT MOST 1048576: true; the input reads as it did. -/
def fnExactServerOkUptoRow : OpenClaim := { program := "ytlpfjabfhgfpmaadoor", sum := "0a999219ec5983cf65b909f298d83701e07971108f844e5513aaf2dc227254e4", func := "loop.example/plashet/laws.FnExactServerOk", spec := "fnExactServerOk", named := ["loop.example/plashet/impl.rowOwners"], apart := false, laid := [("loop.example/plashet/impl.rowOwners", laid_loop_example_plashet_impl_rowOwners)], narrowed := true }
def FnExactServerOkUptoSaid : Prop := fnExactServerOkUptoRow.holds Tryd.pinned (OpenSpec.upto fnExactServerOkSpec)

/-- 'laws.FnExactLogAdd', WHERE WHAT IT READS IS OF BULK AT MOST 1048576: true; the input reads as it did. -/
def fnExactLogAddUptoRow : OpenClaim := { program := "ytlpfjabfhgfpmaadoor", sum := "0a999219ec5983cf65b909f298d83701e07971108f844e5513aaf2dc227254e4", func := "loop.example/plashet/laws.FnExactLogAdd", spec := "fnExactLogAdd", named := ["loop.example/plashet/impl.rowOwners"], apart := false, laid := [("loop.example/plashet/impl.rowOwners", laid_loop_example_plashet_impl_rowOwners)], narrowed := true }
def FnExactLogAddUptoSaid : Prop := fnExactLogAddUptoRow.holds Tryd.pinned (OpenSpec.upto fnExactLogAddSpec)

/-- 'laws.FnLogSeq', WHERE WHAT IT READS IS OF BULK AT MOST 1048576: true; the input reads as it did. -/
def fnLogSeqUptoRow : OpenClaim := { program := "ytlpfjabfhgfpmaadoor", sum := "0a999219ec5983cf65b909f298d83701e07971108f844e5513aaf2dc227254e4", func := "loop.example/plashet/laws.FnLogSeq", spec := "fnLogSeq", named := ["loop.example/plashet/impl.rowOwners"], apart := false, laid := [("loop.example/plashet/impl.rowOwners", laid_loop_example_plashet_impl_rowOwners)], narrowed := true }
def FnLogSeqUptoSaid : Prop := fnLogSeqUptoRow.holds Tryd.pinned (OpenSpec.upto fnLogSeqSpec)

/-- 'laws.FnLogGap', WHERE WHAT IT READS IS OF BULK AT MOST 1048576: true; the input reads as it did. -/
def fnLogGapUptoRow : OpenClaim := { program := "ytlpfjabfhgfpmaadoor", sum := "0a999219ec5983cf65b909f298d83701e07971108f844e5513aaf2dc227254e4", func := "loop.example/plashet/laws.FnLogGap", spec := "fnLogGap", named := ["loop.example/plashet/impl.rowOwners"], apart := false, laid := [("loop.example/plashet/impl.rowOwners", laid_loop_example_plashet_impl_rowOwners)], narrowed := true }
def FnLogGapUptoSaid : Prop := fnLogGapUptoRow.holds Tryd.pinned (OpenSpec.upto fnLogGapSpec)

/-- 'laws.FnLogTwice', WHERE WHAT IT READS IS OF BULK AT MOST 1048576: true; the input reads as it did. -/
def fnLogTwiceUptoRow : OpenClaim := { program := "ytlpfjabfhgfpmaadoor", sum := "0a999219ec5983cf65b909f298d83701e07971108f844e5513aaf2dc227254e4", func := "loop.example/plashet/laws.FnLogTwice", spec := "fnLogTwice", named := ["loop.example/plashet/impl.rowOwners"], apart := false, laid := [("loop.example/plashet/impl.rowOwners", laid_loop_example_plashet_impl_rowOwners)], narrowed := true }
def FnLogTwiceUptoSaid : Prop := fnLogTwiceUptoRow.holds Tryd.pinned (OpenSpec.upto fnLogTwiceSpec)

/-- 'laws.FnLogAdd', WHERE WHAT IT READS IS OF BULK AT MOST 1048576: true; the input reads as it did. -/
def fnLogAddUptoRow : OpenClaim := { program := "ytlpfjabfhgfpmaadoor", sum := "0a999219ec5983cf65b909f298d83701e07971108f844e5513aaf2dc227254e4", func := "loop.example/plashet/laws.FnLogAdd", spec := "fnLogAdd", named := ["loop.example/plashet/impl.rowOwners"], apart := false, laid := [("loop.example/plashet/impl.rowOwners", laid_loop_example_plashet_impl_rowOwners)], narrowed := true }
def FnLogAddUptoSaid : Prop := fnLogAddUptoRow.holds Tryd.pinned (OpenSpec.upto fnLogAddSpec)

end Rows
end Go.Proofs.YtlpfjabfhgfpmaaDoor
