/- The pure statement of the law FnTreeUnder: at every code, what stands under one stands under all under which that stands. No further condition. -/
import Derived.Test.YtaajcbbbmpdcnaaDoorPx15
import Derived.Test.YtaajcbbbmpdcnaaDoorBaseDraw
import Derived.Test.YtaajcbbbmpdcnaaDoorBaseLp
namespace Go.Proofs.YtaajcbbbmpdcnaaDoor.Pure
open Go.RowKit Go.Proofs.YtaajcbbbmpdcnaaDoor Go.Proofs.YtaajcbbbmpdcnaaDoor.P Go.Proofs.YtaajcbbbmpdcnaaDoorW.PrintWords Go.Proofs.YtaajcbbbmpdcnaaDoorW.PrintLast

theorem same_bool (b : Bool) : (b == b) = true := by cases b <;> rfl
theorem j0_true (t : List S47) (ht : RowsFit t) (id un : Int) : Ev (fun k => laws_FnTreeUnder.j0 k t id un (treeUnder t id un) true) true := by
  refine Ev.step (fun k => by simp only [laws_FnTreeUnder.j0]; rw [if_pos trivial]) ?_
  exact Ev.bind (specTreeUnder_ev t ht id un) (Ev.pure (same_bool _))
theorem FnTreeUnder : laws_FnTreeUnder.Pure := by
  intro l0 _ h0
  apply Ev.rounds
  unfold laws_FnTreeUnder.f
  by_cases c0 : (l0.length : Int) > 1048576
  · exact Ev.pos c0 (Ev.pure rfl)
  obtain ⟨t, id, un, hd, ht⟩ := drawTreeUnder_ev l0 h0
  refine Ev.neg c0 (Ev.bind hd (Ev.bindc rfl (Ev.bind (specTreeUnder_ev t ht.fits id un) (Ev.neg (by simp) (Ev.bind (specTreeOk_ev t ht.fits) ?_)))))
  by_cases hv : tok t [] 0 (-1) = true
  · refine Ev.pos hv (Ev.bind (lpAt_ev t ht.fits.1 id) ?_)
    cases hp : placeOf t t.length id with
    | none => exact j0_true t ht.fits id un
    | some i =>
      obtain ⟨hi, rfl⟩ := place_of hp
      rw [decide_eq_false (show ¬ placeInt (some i) < 0 by simp [placeInt])]
      refine Ev.step (fun k => by simp only [laws_FnTreeUnder.j0]; rw [if_neg (by decide)]) ?_
      refine Ev.bindc rfl ?_
      rw [up_self hv hi]
      by_cases he : idAt t i = un
      · subst he
        exact Ev.pos rfl (Ev.pure ((under_self hv hi hi).2 (Tree.under_refl _ _)))
      · refine Ev.neg he ?_
        cases hpa : Tree.par (depthAt t) i with
        | none =>
          refine Ev.neg (by simp [upId]) (Ev.pure ?_)
          have hb : treeUnder t (idAt t i) un = false := by
            rw [Bool.eq_false_iff]
            intro h
            obtain ⟨_, i', u, _, hu⟩ := under_places h
            obtain ⟨hul, rfl⟩ := place_of hu
            rw [under_self hv hi hul] at h
            exact Tree.under_top hpa (fun e => he (by rw [e])) h
          rw [hb]; rfl
        | some p =>
          have hpl := Tree.par_lt hpa
          refine Ev.pos (by have := id_pos hv (show p < t.length by omega); simp [upId]; omega) (Ev.bindc rfl (Ev.pure ?_))
          have hb : treeUnder t (idAt t i) un = treeUnder t (upId t (some p)) un := by
            cases hu : placeOf t t.length un with
            | none =>
              have h1 : ∀ x, treeUnder t x un = false := fun x => by
                rw [Bool.eq_false_iff]
                intro h
                obtain ⟨_, _, u, _, hu2⟩ := under_places h
                rw [hu] at hu2; cases hu2
              rw [h1, h1]
            | some u =>
              obtain ⟨hul, rfl⟩ := place_of hu
              rw [Bool.eq_iff_iff, under_self hv hi hul]
              show _ ↔ treeUnder t (idAt t p) (idAt t u) = true
              rw [under_self hv (by omega) hul]
              exact Tree.under_par hpa (fun e => he (by rw [e]))
          rw [hb]; exact same_bool _
  · exact Ev.neg hv (j0_true t ht.fits id un)
end Go.Proofs.YtaajcbbbmpdcnaaDoor.Pure
