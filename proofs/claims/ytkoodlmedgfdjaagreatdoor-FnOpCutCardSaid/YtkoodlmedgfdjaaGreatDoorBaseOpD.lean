/- Drawn changes: what the draws DrawOpShow and DrawOpOk give. Condition: a code of bytes. -/
import Derived.Test.YtkoodlmedgfdjaaGreatDoorBaseOp
import Derived.Test.YtkoodlmedgfdjaaGreatDoorPx3
namespace Go.Proofs.YtkoodlmedgfdjaaGreatDoor.P
open Go.RowKit Go.Proofs.YtkoodlmedgfdjaaGreatDoorW.PrintWords Go.Proofs.YtkoodlmedgfdjaaGreatDoorW.PrintLast
set_option linter.unusedVariables false
theorem drawOpShow_ev (l : List Int) (h : ∀ x ∈ l, (Lit.int .u8 x).wf = true) : ∃ kind id up at_ s, Ev (fun k => spec_DrawOpShow.f k l) (kind, id, up, at_, s) ∧ OpLike kind id up at_ s := by
  have hb := RdOk.open_ l h
  obtain ⟨kind, id, up, at_, s, q, ho, hl, q0, q1⟩ := op_ev _ hb 0 (by omega)
  unfold spec_DrawOpShow.f
  exact ⟨kind, id, up, at_, s, Ev.bindc (l6Open_eq l) (Ev.bind ho (Ev.pure rfl)), hl⟩
end Go.Proofs.YtkoodlmedgfdjaaGreatDoor.P
