/- Drawn changes: what the draws DrawOpShow and DrawOpOk give. Condition: a code of bytes. -/
import Derived.Test.YtdapbpgooehibaaDoorBaseOp
import Derived.Test.YtdapbpgooehibaaDoorPx6
import Derived.Test.YtdapbpgooehibaaDoorPx6
namespace Go.Proofs.YtdapbpgooehibaaDoor.P
open Go.RowKit Go.Proofs.YtdapbpgooehibaaDoorW.PrintWords Go.Proofs.YtdapbpgooehibaaDoorW.PrintLast
set_option linter.unusedVariables false
theorem drawOpOk_ev (l : List Int) (h : ∀ x ∈ l, (Lit.int .u8 x).wf = true) : ∃ kind id up at_ s, Ev (fun k => spec_DrawOpOk.f k l) (kind, id, up, at_, s) ∧ OpLike kind id up at_ s := by
  have hb := RdOk.open_ l h
  obtain ⟨kind, id, up, at_, s, q, ho, hl, q0, q1⟩ := op_ev _ hb 0 (by omega)
  obtain ⟨v, hv, v0, v1⟩ := pick_ev _ hb q 5 (by omega) (by omega)
  obtain ⟨t, q2, ht, t1, _⟩ := text_ev _ hb (q + 1) (by omega)
  unfold spec_DrawOpOk.f
  by_cases g : v = 0
  · exact ⟨kind, id, up, at_, t, Ev.bindc (l6Open_eq l) (Ev.bind ho (Ev.bind hv (Ev.pos g (Ev.bind ht (Ev.pure rfl))))), ⟨hl.kind, hl.id, hl.up, hl.at_, t1⟩⟩
  · exact ⟨kind, id, up, at_, s, Ev.bindc (l6Open_eq l) (Ev.bind ho (Ev.bind hv (Ev.neg g (Ev.pure rfl)))), hl⟩
theorem drawOpShow_ev (l : List Int) (h : ∀ x ∈ l, (Lit.int .u8 x).wf = true) : ∃ kind id up at_ s, Ev (fun k => spec_DrawOpShow.f k l) (kind, id, up, at_, s) ∧ OpLike kind id up at_ s := by
  have hb := RdOk.open_ l h
  obtain ⟨kind, id, up, at_, s, q, ho, hl, q0, q1⟩ := op_ev _ hb 0 (by omega)
  unfold spec_DrawOpShow.f
  exact ⟨kind, id, up, at_, s, Ev.bindc (l6Open_eq l) (Ev.bind ho (Ev.pure rfl)), hl⟩
end Go.Proofs.YtdapbpgooehibaaDoor.P
