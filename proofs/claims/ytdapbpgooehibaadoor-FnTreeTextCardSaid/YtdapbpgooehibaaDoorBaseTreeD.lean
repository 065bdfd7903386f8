/- Drawn outlines: what the draws DrawTreeOk and DrawTreeText give. Condition: a code of bytes. -/
import Derived.Test.YtdapbpgooehibaaDoorBaseDraw
import Derived.Test.YtdapbpgooehibaaDoorPx7
import Derived.Test.YtdapbpgooehibaaDoorPx9
namespace Go.Proofs.YtdapbpgooehibaaDoor.P
open Go.RowKit Go.Proofs.YtdapbpgooehibaaDoorW.PrintWords Go.Proofs.YtdapbpgooehibaaDoorW.PrintLast
set_option linter.unusedVariables false
set_option linter.unusedSimpArgs false
theorem drawTreeOk_ev (l : List Int) (h : ∀ x ∈ l, (Lit.int .u8 x).wf = true) : ∃ t, Ev (fun k => spec_DrawTreeOk.f k l) t ∧ Drawn t := by
  have hb := RdOk.open_ l h
  obtain ⟨t, q, a1, a2, a3, a4⟩ := tree_ev _ hb 0 (by omega)
  have hl1 := a2.1
  have hl2 := a2.2.1
  obtain ⟨v, hv, v0, v1⟩ := pick_ev _ hb q 5 (by omega) (by omega)
  unfold spec_DrawTreeOk.f
  by_cases c : v = 0
  · obtain ⟨i, hi, i0, i1⟩ := pick_ev _ hb (q + 1) (t.length : Int) (by omega) (by omega)
    obtain ⟨d, hd, d0, d1⟩ := pick_ev _ hb (q + 1 + 1) 4 (by omega) (by omega)
    obtain ⟨n, rfl⟩ := Int.eq_ofNat_of_zero_le i0
    have hn : n < t.length := by omega
    refine ⟨_, Ev.bindc (l6Open_eq l) (Ev.bind a1 (Ev.bind hv (Ev.pos c (Ev.bind hi (Ev.bind hd (Ev.pos i0 (Ev.pos i1 (Ev.pure rfl)))))))), ?_⟩
    have hf := fit_at a2.2.2 hn
    refine ⟨by simpa using a2.1, by simpa using a2.2.1, set_fit a2.2.2 _ _ ?_⟩
    rw [rd_row t hn]
    exact ⟨hf.1, by dsimp only; omega, hf.2.2⟩
  · exact ⟨t, Ev.bindc (l6Open_eq l) (Ev.bind a1 (Ev.bind hv (Ev.neg c (Ev.pure rfl)))), a2⟩
theorem drawTreeText_ev (l : List Int) (h : ∀ x ∈ l, (Lit.int .u8 x).wf = true) : ∃ t, Ev (fun k => spec_DrawTreeText.f k l) t ∧ Drawn t := by
  obtain ⟨t, q, a1, a2, a3, a4⟩ := tree_ev _ (RdOk.open_ l h) 0 (by omega)
  exact ⟨t, Ev.bindc (l6Open_eq l) (Ev.bind a1 (Ev.pure rfl)), a2⟩
end Go.Proofs.YtdapbpgooehibaaDoor.P
