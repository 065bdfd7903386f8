/- The pure statement of the law FnRowForm: at every code, the drawn row is valid for both or for none; a valid one is a root's just if it stands at 0, a root has no text, and with the text 'e' it is none. No further condition. -/
import Derived.Test.YtbafffcgmdmebaaDoorPx12
import Derived.Test.YtbafffcgmdmebaaDoorBaseMade
import Derived.Test.YtbafffcgmdmebaaDoorBaseRowOk
import Derived.Test.YtbafffcgmdmebaaDoorPx11
namespace Go.Proofs.YtbafffcgmdmebaaDoor.Pure
open Go.RowKit Go.Proofs.YtbafffcgmdmebaaDoor Go.Proofs.YtbafffcgmdmebaaDoor.P Go.Proofs.YtbafffcgmdmebaaDoorW.PrintWords Go.Proofs.YtbafffcgmdmebaaDoorW.PrintLast

theorem drawRowOk_ev (l : List Int) (h : ∀ x ∈ l, (Lit.int .u8 x).wf = true) : ∃ i d s, Ev (fun k => spec_DrawRowOk.f k l) (i, d, s) ∧ s.size ≤ 7 ∧ -100 ≤ i ∧ i ≤ 100 ∧ -100 ≤ d ∧ d ≤ 100 := by
  have hb := RdOk.open_ l h
  obtain ⟨a, ha, a0, a1⟩ := pick_ev _ hb 0 3 (by omega) (by omega)
  obtain ⟨b, hb', b0, b1⟩ := pick_ev _ hb (0 + 1) 6 (by omega) (by omega)
  obtain ⟨c, hc, c0, c1⟩ := pick_ev _ hb (0 + 1 + 1) 4 (by omega) (by omega)
  obtain ⟨s, q, hs, s1, q0, q1⟩ := text_ev _ hb (0 + 1 + 1 + 1) (by omega)
  obtain ⟨g, hg, g0, g1⟩ := pick_ev _ hb q 8 (by omega) (by omega)
  obtain ⟨d, hd, d0, d1⟩ := pick_ev _ hb (q + 1) 3 (by omega) (by omega)
  obtain ⟨e, he, e0, e1⟩ := pick_ev _ hb (q + 1 + 1) 2 (by omega) (by omega)
  obtain ⟨f, hf, f0, f1⟩ := pick_ev _ hb (q + 1) 45 (by omega) (by omega)
  obtain ⟨o, ho, o0, o1⟩ := pick_ev _ hb (q + 1) 4 (by omega) (by omega)
  have w1 : wrap64 (1 + a) = 1 + a := wrap64_id (by omega)
  have w2 : wrap64 (1 + b) = 1 + b := wrap64_id (by omega)
  have w3 : wrap64 (1 + c) = 1 + c := wrap64_id (by omega)
  have w4 : wrap64 (1 + d) = 1 + d := wrap64_id (by omega)
  have hm : 0 ≤ rowMade (1 + a) (1 + b) ∧ rowMade (1 + a) (1 + b) ≤ 36 := by unfold rowMade; split <;> omega
  have e1 : spec_RowMade.f (wrap64 (1 + a)) (wrap64 (1 + b)) = some (rowMade (1 + a) (1 + b)) := by rw [w1, w2]; exact specRowMade_eq _ _
  unfold spec_DrawRowOk.f
  by_cases g2 : g = 0
  · exact ⟨1 + d, e, ⟨#[]⟩, Ev.bindc (l6Open_eq l) (Ev.bind ha (Ev.bind hb' (Ev.bindc e1 (Ev.bind hc (Ev.bind hs (Ev.bind hg (Ev.pos g2 (Ev.bind hd (Ev.bind he (Ev.pure (by simp only [w4]))))))))))), by decide, by omega, by omega, by omega, by omega⟩
  · by_cases g3 : g = 1
    · exact ⟨f, 1 + c, s, Ev.bindc (l6Open_eq l) (Ev.bind ha (Ev.bind hb' (Ev.bindc e1 (Ev.bind hc (Ev.bind hs (Ev.bind hg (Ev.neg g2 (Ev.pos g3 (Ev.bind hf (Ev.pure (by simp only [w3]))))))))))), s1, by omega, by omega, by omega, by omega⟩
    · by_cases g4 : g = 2
      · refine ⟨rowMade (1 + a) (1 + b), rd [0, (-1), 18, 19] o, s, Ev.bindc (l6Open_eq l) (Ev.bind ha (Ev.bind hb' (Ev.bindc e1 (Ev.bind hc (Ev.bind hs (Ev.bind hg (Ev.neg g2 (Ev.neg g3 (Ev.pos g4 (Ev.bindc rfl (Ev.bind ho (Ev.pos o0 (Ev.pos o1 (Ev.pure rfl)))))))))))))), s1, by omega, by omega, ?_⟩
        have : o = 0 ∨ o = 1 ∨ o = 2 ∨ o = 3 := by omega
        rcases this with rfl | rfl | rfl | rfl <;> simp [rd]
      · exact ⟨rowMade (1 + a) (1 + b), 1 + c, s, Ev.bindc (l6Open_eq l) (Ev.bind ha (Ev.bind hb' (Ev.bindc e1 (Ev.bind hc (Ev.bind hs (Ev.bind hg (Ev.neg g2 (Ev.neg g3 (Ev.neg g4 (Ev.pure (by simp only [w3]))))))))))), s1, by omega, by omega, by omega, by omega⟩

theorem FnRowForm : laws_FnRowForm.Pure := by
  intro l0 _ h0
  apply Ev.rounds
  unfold laws_FnRowForm.f
  by_cases c0 : (l0.length : Int) > 1048576
  · exact Ev.pos c0 (Ev.pure rfl)
  refine Ev.neg c0 ?_
  obtain ⟨i, d, s, hd, hs, i0, i1, d0, d1⟩ := drawRowOk_ev l0 h0
  refine Ev.bind hd (Ev.bind (implRowOk_ev i d s) (Ev.bind (specRowOk_ev i d s (by omega) (by omega)) (Ev.neg (by simp) ?_)))
  by_cases hv : rowB i d s = true
  · simp only [hv]
    refine Ev.step (fun k => by simp only [laws_FnRowForm.j0]; rw [if_neg (by decide)]) ?_
    refine Ev.bindc (show impl_RowWho.f i = some (rowWho i) from rfl) ?_
    by_cases hr : rootB i = true
    · have e : rowWho i = (0, true) := by unfold rowWho; rw [if_pos hr]
      have hv2 := hv
      unfold rowB at hv2
      rw [if_pos hr, Bool.and_eq_true, decide_eq_true_eq, List.isEmpty_iff] at hv2
      simp only [e]
      refine Ev.pos trivial (Ev.pos (by rw [hv2.1]; rfl) (Ev.neg (by omega) (Ev.pos hv2.2 (Ev.bind (implRowOk_ev i d _) (Ev.pure ?_)))))
      unfold rowB; rw [if_pos hr, Lib.toList_data]; simp
    · have hr2 := Bool.eq_false_iff.2 hr
      have hv2 := hv
      unfold rowB at hv2
      rw [if_neg hr, Bool.and_eq_true, Bool.and_eq_true, decide_eq_true_eq] at hv2
      have hm := madeB_iff.1 hv2.1.1
      have e : rowWho i = (i / 10, true) := by unfold rowWho; rw [if_neg hr, if_pos hv2.1.1]
      simp only [e]
      refine Ev.pos trivial (Ev.pos ?_ (Ev.pos (by show i / 10 > 0; omega) (Ev.bind (implRowOk_ev i d _) (Ev.pure ?_))))
      · rw [beq_eq_false_iff_ne.2 (show ¬ i / 10 = 0 by omega), beq_eq_false_iff_ne.2 (show ¬ d = 0 by omega)]; rfl
      · unfold rowB; rw [if_neg hr, show textB (⟨#[101]⟩ : ByteArray) = false by unfold textB; rw [Lib.toList_data]; decide, Bool.and_false]; rfl
  · simp only [Bool.eq_false_iff.2 hv]
    refine Ev.step (fun k => by simp only [laws_FnRowForm.j0, Bool.not_false]; rw [if_pos trivial]) ?_
    refine Ev.bind (specRowOk_ev i d s (by omega) (by omega)) (Ev.pure ?_)
    rw [Bool.eq_false_iff.2 hv]; rfl
end Go.Proofs.YtbafffcgmdmebaaDoor.Pure
