/- RowMade of the program and of the reference: one answer, for all integers; what the draws of row numbers give. -/
import Derived.Test.YtbafffcgmdmebaaDoorBaseRow
import Derived.Test.YtbafffcgmdmebaaDoorBaseRd
import Derived.Test.YtbafffcgmdmebaaDoorPx4
import Derived.Test.YtbafffcgmdmebaaDoorPx4
import Derived.Test.YtbafffcgmdmebaaDoorPx3
import Derived.Test.YtbafffcgmdmebaaDoorPx6
namespace Go.Proofs.YtbafffcgmdmebaaDoor.P
open Go.RowKit Go.Proofs.YtbafffcgmdmebaaDoorW.PrintWords Go.Proofs.YtbafffcgmdmebaaDoorW.PrintLast
set_option linter.unusedVariables false
set_option linter.unusedSimpArgs false

/-- The number of a row that somebody makes. -/
def rowMade (who n : Int) : Int := if (1 ≤ who ∧ who ≤ 3) ∧ (1 ≤ n ∧ n ≤ 6) then 10 * who + n else 0
theorem implRowMade_eq (a b : Int) : impl_RowMade.f a b = some (rowMade a b) := by
  unfold impl_RowMade.f impl_whoOk.f rowMade
  by_cases h1 : a ≥ 1
  · by_cases h2 : a ≤ 3
    · by_cases h3 : b < 1
      · simp [h1, h2, h3]; omega
      · by_cases h4 : b > 6
        · simp [h1, h2, h3, h4]; omega
        · have e1 : wrap64 (10 * a) = 10 * a := wrap64_id (by omega)
          have e2 : wrap64 (10 * a + b) = 10 * a + b := wrap64_id (by omega)
          rw [if_pos h1, decide_eq_true h2]
          simp only [Option.bind_some, if_true]
          rw [if_neg h3, if_neg h4, e1, e2, if_pos (by omega)]
    · simp [h1, h2]
  · simp [h1]
theorem specRowMade_eq (a b : Int) : spec_RowMade.f a b = some (rowMade a b) := by
  unfold spec_RowMade.f rowMade
  simp only [l6In_eq, Option.bind_some]
  by_cases h1 : 1 ≤ a ∧ a ≤ 3
  · rw [if_pos (decide_eq_true h1)]
    by_cases h2 : 1 ≤ b ∧ b ≤ 6
    · have e1 : wrap64 (10 * a) = 10 * a := wrap64_id (by omega)
      have e2 : wrap64 (10 * a + b) = 10 * a + b := wrap64_id (by omega)
      rw [if_pos (decide_eq_true h2), if_pos ⟨h1, h2⟩, e1, e2]
    · rw [if_neg (by simpa using h2), if_neg (fun h => h2 h.2)]
  · rw [if_neg (by simpa using h1), if_neg (fun h => h1 h.1)]
theorem rowMade_who {a b : Int} (h : rowMade a b ≠ 0) : (1 ≤ a ∧ a ≤ 3) ∧ (1 ≤ b ∧ b ≤ 6) ∧ rowMade a b = 10 * a + b ∧ rowWho (10 * a + b) = (a, true) := by
  unfold rowMade at h ⊢
  by_cases hc : (1 ≤ a ∧ a ≤ 3) ∧ (1 ≤ b ∧ b ≤ 6)
  · rw [if_pos hc]
    refine ⟨hc.1, hc.2, rfl, ?_⟩
    unfold rowWho
    rw [if_neg (by rw [rootB_iff]; omega), if_pos (by rw [madeB_iff]; omega)]
    congr 1; omega
  · rw [if_neg hc] at h; exact absurd rfl h
theorem drawRowMade_ev (l : List Int) (h : ∀ x ∈ l, (Lit.int .u8 x).wf = true) : ∃ a b, Ev (fun k => spec_DrawRowMade.f k l) (a, b) ∧ 0 ≤ a ∧ a < 5 ∧ 0 ≤ b ∧ b < 8 := by
  have hb := RdOk.open_ l h
  obtain ⟨a, ha, a0, a1⟩ := pick_ev _ hb 0 5 (by omega) (by omega)
  obtain ⟨b, hb', b0, b1⟩ := pick_ev _ hb (0 + 1) 8 (by omega) (by omega)
  refine ⟨a, b, ?_, a0, a1, b0, b1⟩
  unfold spec_DrawRowMade.f
  exact Ev.bindc (l6Open_eq l) (Ev.bind ha (Ev.bind hb' (Ev.pure rfl)))
theorem drawRowWho_ev (l : List Int) (h : ∀ x ∈ l, (Lit.int .u8 x).wf = true) : ∃ a, Ev (fun k => spec_DrawRowWho.f k l) a ∧ 0 ≤ a ∧ a < 100 := by
  have hb := RdOk.open_ l h
  obtain ⟨a, ha, a0, a1⟩ := pick_ev _ hb 0 5 (by omega) (by omega)
  obtain ⟨b, hb', b0, b1⟩ := pick_ev _ hb (0 + 1) 6 (by omega) (by omega)
  obtain ⟨c, hc, c0, c1⟩ := pick_ev _ hb (0 + 1 + 1) 6 (by omega) (by omega)
  obtain ⟨d, hd, d0, d1⟩ := pick_ev _ hb (0 + 1 + 1 + 1) 5 (by omega) (by omega)
  obtain ⟨e, he, e0, e1⟩ := pick_ev _ hb (0 + 1 + 1 + 1 + 1) 9 (by omega) (by omega)
  obtain ⟨f, hf, f0, f1⟩ := pick_ev _ hb (0 + 1 + 1 + 1 + 1 + 1) 99 (by omega) (by omega)
  obtain ⟨g, hg, g0, g1⟩ := pick_ev _ hb (0 + 1 + 1 + 1 + 1 + 1 + 1) 6 (by omega) (by omega)
  have w1 : wrap64 (11 + b) = 11 + b := wrap64_id (by omega)
  have w2 : wrap64 (21 + c) = 21 + c := wrap64_id (by omega)
  have w3 : wrap64 (10 * d) = 10 * d := wrap64_id (by omega)
  have w4 : wrap64 (31 + e) = 31 + e := wrap64_id (by omega)
  refine ⟨rd [a, 11 + b, 21 + c, 10 * d, 31 + e, f] g, ?_, ?_⟩
  · unfold spec_DrawRowWho.f
    refine Ev.bindc (l6Open_eq l) (Ev.bind ha (Ev.bind hb' (Ev.bind hc (Ev.bind hd (Ev.bind he (Ev.bind hf (Ev.bindc rfl (Ev.bind hg (Ev.pos g0 (Ev.pos ?_ (Ev.pure ?_)))))))))))
    · show g < 6; exact g1
    · simp only [w1, w2, w3, w4]
  · have : g = 0 ∨ g = 1 ∨ g = 2 ∨ g = 3 ∨ g = 4 ∨ g = 5 := by omega
    rcases this with rfl | rfl | rfl | rfl | rfl | rfl <;> simp [rd] <;> omega
end Go.Proofs.YtbafffcgmdmebaaDoor.P
