/- What the draw of an entry gives. Condition: the bytes that a reader reads. -/
import Derived.Test.YtlpfjabfhgfpmaaDoorBaseEntry
import Derived.Test.YtlpfjabfhgfpmaaDoorPx7
namespace Go.Proofs.YtlpfjabfhgfpmaaDoor.P
open Go.RowKit Go.Proofs.YtlpfjabfhgfpmaaDoorW.PrintWords Go.Proofs.YtlpfjabfhgfpmaaDoorW.PrintLast
set_option linter.unusedVariables false
set_option linter.unusedSimpArgs false
theorem drawEntryOk_ev (l : List Int) (h : ∀ x ∈ l, (Lit.int .u8 x).wf = true) : ∃ who seq kind id up at_ s, Ev (fun k => spec_DrawEntryOk.f k l) (who, seq, kind, id, up, at_, s) ∧ (-10 ≤ who ∧ who ≤ 10) ∧ (0 ≤ seq ∧ seq ≤ 50) ∧ OpLike kind id up at_ s := by
 have hb := RdOk.open_ l h
 obtain ⟨x, hx, x0, x1⟩ := pick_ev _ hb 0 3 (by omega) (by omega)
 obtain ⟨y, hy, y0, y1⟩ := pick_ev _ hb (0 + 1) 9 (by omega) (by omega)
 obtain ⟨kind, id, up, at_, s, q, ho, hl, q0, q1⟩ := op_ev _ hb (0 + 1 + 1) (by omega)
 have e1 : wrap64 (1 + x) = 1 + x := wrap64_id (by omega)
 have e2 : wrap64 (1 + y) = 1 + y := wrap64_id (by omega)
 have hid := hl.id
 have one : ∀ (who : Int) (p : Int), (-1 ≤ who ∧ who ≤ 10) → 0 ≤ p ∧ p ≤ 1000 → ∃ w2 s2, Ev (fun k => spec_DrawEntryOk.j1 k (l.take 2000) p who (1 + y) kind id up at_ s) (w2, s2, kind, id, up, at_, s) ∧ (-10 ≤ w2 ∧ w2 ≤ 10) ∧ (0 ≤ s2 ∧ s2 ≤ 50) := by
  intro who p hw hp
  have step : ∀ k, spec_DrawEntryOk.j1 (k + 1) (l.take 2000) p who (1 + y) kind id up at_ s = _ := fun k => by simp only [spec_DrawEntryOk.j1]; rfl
  obtain ⟨v, hv, v0, v1⟩ := pick_ev _ hb p 12 (by omega) (by omega)
  by_cases c0 : v = 0
  ·obtain ⟨u, hu, u0, u1⟩ := pick_ev _ hb (p + 1) 6 (by omega) (by omega)
   refine ⟨u - 1, 1 + y, Ev.step step (Ev.bind hv (Ev.pos c0 (Ev.bind hu (Ev.pure ?_)))), by omega, by omega⟩
   simp only; rw [wrap64_id (by omega)]
  ·by_cases c1 : v = 1
   ·obtain ⟨u, hu, u0, u1⟩ := pick_ev _ hb (p + 1) 3 (by omega) (by omega)
    refine ⟨who, rd [0, 40, 41] u, Ev.step step (Ev.bind hv (Ev.neg c0 (Ev.pos c1 (Ev.bindc rfl (Ev.bind hu (Ev.pos u0 (Ev.pos (by show u < 3; exact u1) (Ev.pure rfl)))))))), by omega, ?_⟩
    have : u = 0 ∨ u = 1 ∨ u = 2 := by omega
    rcases this with rfl | rfl | rfl <;> simp [rd]
   ·exact ⟨who, 1 + y, Ev.step step (Ev.bind hv (Ev.neg c0 (Ev.neg c1 (Ev.pure rfl)))), by omega, by omega⟩
 have zero : ∀ (c : Bool) (p : Int), 0 ≤ p ∧ p ≤ 1000 → ∃ w2 s2, Ev (fun k => spec_DrawEntryOk.j0 k c (l.take 2000) p (1 + x) (1 + y) kind id up at_ s) (w2, s2, kind, id, up, at_, s) ∧ (-10 ≤ w2 ∧ w2 ≤ 10) ∧ (0 ≤ s2 ∧ s2 ≤ 50) := by
  intro c p hp
  cases c with
  | true =>
   have d0 : 0 ≤ Int.tdiv id 10 ∧ Int.tdiv id 10 ≤ 10 := by rw [Int.tdiv_eq_ediv_of_nonneg hid.1]; omega
   obtain ⟨w2, s2, a1, a2, a3⟩ := one (Int.tdiv id 10) p (by omega) hp
   exact ⟨w2, s2, Ev.step (fun k => by simp only [spec_DrawEntryOk.j0]; rw [if_pos trivial, wrap64_id (a := Int.tdiv id 10) (by omega)]) a1, a2, a3⟩
  | false =>
   obtain ⟨w2, s2, a1, a2, a3⟩ := one (1 + x) p (by omega) hp
   exact ⟨w2, s2, Ev.step (fun k => by simp only [spec_DrawEntryOk.j0]; rw [if_neg (by decide)]) a1, a2, a3⟩
 unfold spec_DrawEntryOk.f
 by_cases ck : kind = 1
 ·obtain ⟨v, hv, v0, v1⟩ := pick_ev _ hb q 4 (by omega) (by omega)
  obtain ⟨w2, s2, a1, a2, a3⟩ := zero (decide (v > 0)) (q + 1) (by omega)
  refine ⟨w2, s2, kind, id, up, at_, s, Ev.bindc (l6Open_eq l) (Ev.bind hx (Ev.bind hy (Ev.bind ho (Ev.pos ck (Ev.bind hv ?_))))), a2, a3, hl⟩
  simp only [e1, e2]; exact a1
 ·obtain ⟨w2, s2, a1, a2, a3⟩ := zero false q (by omega)
  refine ⟨w2, s2, kind, id, up, at_, s, Ev.bindc (l6Open_eq l) (Ev.bind hx (Ev.bind hy (Ev.bind ho (Ev.neg ck ?_)))), a2, a3, hl⟩
  simp only [e1, e2]; exact a1
end Go.Proofs.YtlpfjabfhgfpmaaDoor.P
