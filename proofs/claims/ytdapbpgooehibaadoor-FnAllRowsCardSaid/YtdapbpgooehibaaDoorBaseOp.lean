/- OpOk of the reference answers by the plain word 'opB'; what a drawn change is like. Numbers of 64 bits, texts of any length. -/
import Derived.Test.YtdapbpgooehibaaDoorBaseRowOk
import Derived.Test.YtdapbpgooehibaaDoorBaseRd
import Derived.Test.YtdapbpgooehibaaDoorPlainOp
import Derived.Test.YtdapbpgooehibaaDoorPx6
namespace Go.Proofs.YtdapbpgooehibaaDoor.P
open Go.RowKit Go.Proofs.YtdapbpgooehibaaDoorW.PrintWords Go.Proofs.YtdapbpgooehibaaDoorW.PrintLast
set_option linter.unusedVariables false
set_option linter.unusedSimpArgs false

/-- A number of 64 bits. -/
abbrev I64 (a : Int) : Prop := -9223372036854775808 ≤ a ∧ a ≤ 9223372036854775807
theorem opid_ev (b : List Int) (hb : RdOk b) (p : Int) (hp : 0 ≤ p ∧ p ≤ 900000000) : ∃ v, Ev (fun k => spec_l71Id.f k b p) (v, p + 1 + 1) ∧ 11 ≤ v ∧ v ≤ 34 ∧ madeB v = true := by
  obtain ⟨x, hx, x0, x1⟩ := pick_ev b hb p 3 (by omega) (by omega)
  obtain ⟨y, hy, y0, y1⟩ := pick_ev b hb (p + 1) 4 (by omega) (by omega)
  refine ⟨10 * (1 + x) + 1 + y, ?_, by omega, by omega, by rw [madeB_iff]; omega⟩
  unfold spec_l71Id.f
  refine Ev.bind hx (Ev.bind hy (Ev.pure ?_))
  dsimp only
  rw [wrap64_id (a := 1 + x) (by omega), wrap64_id (a := 10 * (1 + x)) (by omega), wrap64_id (a := 10 * (1 + x) + 1) (by omega), wrap64_id (a := 10 * (1 + x) + 1 + y) (by omega)]
end Go.Proofs.YtdapbpgooehibaaDoor.P
