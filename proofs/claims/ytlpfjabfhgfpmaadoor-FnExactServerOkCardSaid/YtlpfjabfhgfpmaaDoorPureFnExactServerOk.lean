/- The pure statement of the law FnExactServerOk: for every server the program's ServerOk and the reference's answer alike. Conditions: numbers of 64 bits, texts and entries as memory can hold them. -/
import Derived.Test.YtlpfjabfhgfpmaaDoorPx7
import Derived.Test.YtlpfjabfhgfpmaaDoorBaseEnts
namespace Go.Proofs.YtlpfjabfhgfpmaaDoor.Pure
open Go.RowKit Go.Proofs.YtlpfjabfhgfpmaaDoor Go.Proofs.YtlpfjabfhgfpmaaDoor.P Go.Proofs.YtlpfjabfhgfpmaaDoorW.PrintWords Go.Proofs.YtlpfjabfhgfpmaaDoorW.PrintLast

theorem FnExactServerOk : laws_FnExactServerOk.Pure := by
  intro l safe up hl hx ha
  apply Ev.rounds
  unfold laws_FnExactServerOk.f
  obtain ⟨t, ht, hfew⟩ := szEntryS_ev l hl (fun x h => (hx x h).2.2.2.2.2.2)
  have hsz : Ev (fun k => laws_szServer.f k l safe up 1048576) (if t < 0 then -1 else t) := by
    unfold laws_szServer.f
    refine Ev.bind ht ?_
    by_cases h : t < 0
    · refine Ev.pos h (Ev.pure ?_); rw [if_pos h]
    · refine Ev.neg h (Ev.pure ?_); rw [if_neg h]
  refine Ev.bind hsz ?_
  by_cases h : t < 0
  · rw [if_pos h]; exact Ev.pos (by decide) (Ev.pure rfl)
  · rw [if_neg h]
    have hlen := hfew h
    have tos : Ev (fun k => laws_toServer.f k l safe up) (l.map convEnt, safe, up) := by
      unfold laws_toServer.f; exact Ev.bind (toEntryS_ev l hlen) (Ev.pure rfl)
    have sp : Ev (fun k => spec_ServerOk.f k (l.map convEnt) safe up) (logB (l.map convEnt) && decide (0 ≤ safe ∧ safe ≤ ((l.map convEnt).length : Int))) := by
      unfold spec_ServerOk.f
      refine Ev.bind (specLogOk_ev _ (entsFit_conv l hlen hx)) ?_
      cases hb : logB (l.map convEnt) with
      | false => exact Ev.neg (by decide) (Ev.pure (Bool.false_and _).symm)
      | true => exact Ev.pos rfl (Ev.bindc (l6In_eq _ _ _) (Ev.pure (Bool.true_and _).symm))
    have im : impl_ServerOk.f (l.map convEnt) safe up = some (logB (l.map convEnt) && decide (0 ≤ safe ∧ safe ≤ ((l.map convEnt).length : Int))) := by
      unfold impl_ServerOk.f
      rw [implLogOk_eq, Option.bind_some]
      cases hb : logB (l.map convEnt) with
      | false => rw [if_neg (by decide), Bool.false_and]
      | true =>
        rw [if_pos rfl, Bool.true_and]
        by_cases h0 : safe ≥ 0
        · rw [if_pos h0]; congr 1; exact decide_eq_decide.2 ⟨fun h => ⟨h0, h⟩, fun h => h.2⟩
        · rw [if_neg h0, decide_eq_false (fun h => h0 h.1)]
    refine Ev.neg h (Ev.bind tos (Ev.bind sp (Ev.bind tos (Ev.bindc im (Ev.neg (by simp) (Ev.bind tos (Ev.bind ?_ (Ev.pos rfl (Ev.pure rfl)))))))))
    unfold laws_eqServer.f
    exact Ev.bind (eqEntryS_ev _ (by simp; omega)) (Ev.pos rfl (Ev.pos rfl (Ev.neg (by simp) (Ev.pure rfl))))
end Go.Proofs.YtlpfjabfhgfpmaaDoor.Pure
