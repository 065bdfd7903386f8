/- What the laws' own words on entries answer. Conditions: entries that memory can hold. -/
import Derived.Test.YtlpfjabfhgfpmaaDoorBaseAdd
import Derived.Test.YtlpfjabfhgfpmaaDoorPx12
namespace Go.Proofs.YtlpfjabfhgfpmaaDoor.P
open Go.RowKit Go.Proofs.YtlpfjabfhgfpmaaDoorW.PrintWords Go.Proofs.YtlpfjabfhgfpmaaDoorW.PrintLast
set_option linter.unusedVariables false
set_option linter.unusedSimpArgs false
theorem lpLog_loop (l : List S26) (hl : l.length ≤ 1099511627776) : ∀ (d i : Nat), i + d = l.length → Ev (fun k => laws_lpLog.l0 k l l (i : Int)) true := by
 intro d
 induction d with
 | zero =>
  intro i hi
  exact Ev.step (f := fun _ => some true) (fun k => by simp only [laws_lpLog.l0]; rw [if_neg (by omega)]) (Ev.pure rfl)
 | succ d ih =>
  intro i hi
  refine Ev.step (fun k => by simp only [laws_lpLog.l0]; rw [if_pos (by omega), if_pos (by omega), if_pos (by omega), if_neg (by simp), wrapS i (by omega)]) ?_
  exact ih (i + 1) (by omega)
theorem lpLog_ev (l : List S26) (hl : l.length ≤ 1099511627776) : Ev (fun k => laws_lpLog.f k l l) true := by
 unfold laws_lpLog.f
 exact Ev.pos rfl (lpLog_loop l hl l.length 0 (by omega))
end Go.Proofs.YtlpfjabfhgfpmaaDoor.P
