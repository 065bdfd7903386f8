/- OpOk of the reference answers by the plain word 'opB'; what a drawn change is like. Numbers of 64 bits, texts of any length. -/
import Derived.Test.YtdapbpgooehibaaDoorBaseRowOk
import Derived.Test.YtdapbpgooehibaaDoorPlainOp
namespace Go.Proofs.YtdapbpgooehibaaDoor.P
open Go.RowKit Go.Proofs.YtdapbpgooehibaaDoorW.PrintWords Go.Proofs.YtdapbpgooehibaaDoorW.PrintLast
set_option linter.unusedVariables false
set_option linter.unusedSimpArgs false

/-- A number of 64 bits. -/
abbrev I64 (a : Int) : Prop := -9223372036854775808 ≤ a ∧ a ≤ 9223372036854775807
end Go.Proofs.YtdapbpgooehibaaDoor.P
