/- Drawn outlines: what the draws DrawTreeOk and DrawTreeText give. Condition: a code of bytes. -/
import Derived.Test.YtdapbpgooehibaaDoorBaseDraw
import Derived.Test.YtdapbpgooehibaaDoorPx7
namespace Go.Proofs.YtdapbpgooehibaaDoor.P
open Go.RowKit Go.Proofs.YtdapbpgooehibaaDoorW.PrintWords Go.Proofs.YtdapbpgooehibaaDoorW.PrintLast
set_option linter.unusedVariables false
set_option linter.unusedSimpArgs false
theorem drawTreeText_ev (l : List Int) (h : ∀ x ∈ l, (Lit.int .u8 x).wf = true) : ∃ t, Ev (fun k => spec_DrawTreeText.f k l) t ∧ Drawn t := by
  obtain ⟨t, q, a1, a2, a3, a4⟩ := tree_ev _ (RdOk.open_ l h) 0 (by omega)
  exact ⟨t, Ev.bindc (l6Open_eq l) (Ev.bind a1 (Ev.pure rfl)), a2⟩
end Go.Proofs.YtdapbpgooehibaaDoor.P
