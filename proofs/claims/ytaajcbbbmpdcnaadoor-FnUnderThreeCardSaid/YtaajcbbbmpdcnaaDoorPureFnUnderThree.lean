/- The pure statement of the law FnUnderThree: at every code, what stands under one that stands under a third stands under that. No further condition. -/
import Derived.Test.YtaajcbbbmpdcnaaDoorPx14
import Derived.Test.YtaajcbbbmpdcnaaDoorBaseDraw
import Derived.Test.YtaajcbbbmpdcnaaDoorBaseLp
namespace Go.Proofs.YtaajcbbbmpdcnaaDoor.Pure
open Go.RowKit Go.Proofs.YtaajcbbbmpdcnaaDoor Go.Proofs.YtaajcbbbmpdcnaaDoor.P Go.Proofs.YtaajcbbbmpdcnaaDoorW.PrintWords Go.Proofs.YtaajcbbbmpdcnaaDoorW.PrintLast

theorem same_bool (b : Bool) : (b == b) = true := by cases b <;> rfl
theorem three_j1_true (x1 : List Int) (t : List S47) (ht : RowsFit t) (id un : Int) : Ev (fun k => laws_FnUnderThree.j1 k x1 t id un (treeUnder t id un) true) true := by
  refine Ev.step (fun k => by simp only [laws_FnUnderThree.j1]; rw [if_pos trivial]) ?_
  exact Ev.bind (specTreeUnder_ev t ht id un) (Ev.pure (same_bool _))
theorem three_j0 (l0 l1 : List Int) (h0 : ∀ x ∈ l0, (Lit.int .u8 x).wf = true) : Ev (fun k => laws_FnUnderThree.j0 k l0 l1 false) true := by
  obtain ⟨t, id, un, hd, ht⟩ := drawTreeUnder_ev l0 h0
  have hl1 := ht.1
  refine Ev.step (fun k => by simp only [laws_FnUnderThree.j0]; rw [if_neg (by decide)]) ?_
  refine Ev.bind hd (Ev.bindc rfl (Ev.bind (specTreeUnder_ev t ht.fits id un) (Ev.neg (by simp) (Ev.bind (specTreeOk_ev t ht.fits) ?_))))
  by_cases hv : tok t [] 0 (-1) = true
  · refine Ev.pos hv ?_
    cases hb : treeUnder t id un with
    | false =>
      have := three_j1_true l1 t ht.fits id un
      rw [hb] at this
      exact this
    | true =>
      have hm0 : 0 ≤ (l1.length : Int) % (t.length : Int) := Int.emod_nonneg _ (by omega)
      have hm1 : (l1.length : Int) % (t.length : Int) < (t.length : Int) := Int.emod_lt_of_pos _ (by omega)
      refine Ev.step (fun k => by simp only [Bool.not_true, laws_FnUnderThree.j1]; rw [if_neg (by decide), if_neg (by omega), if_pos hm0, if_pos hm1]) ?_
      refine Ev.bindc rfl ?_
      by_cases h2 : treeUnder t un ((rd_T47 t ((l1.length : Int) % (t.length : Int))).f0) = true
      · exact Ev.pos h2 (Ev.bindc rfl (Ev.pure (under_three hb h2)))
      · exact Ev.neg h2 (Ev.pure rfl)
  · exact Ev.neg hv (three_j1_true l1 t ht.fits id un)
theorem three_stop (l0 l1 : List Int) : Ev (fun k => laws_FnUnderThree.j0 k l0 l1 true) true :=
  Ev.step (f := fun _ => some true) (fun k => by simp only [laws_FnUnderThree.j0]; rw [if_pos trivial]) (Ev.pure rfl)
theorem FnUnderThree : laws_FnUnderThree.Pure := by
  intro l0 l1 _ h0 _ h1
  apply Ev.rounds
  unfold laws_FnUnderThree.f
  by_cases c0 : (l0.length : Int) > 1048576
  · exact Ev.pos c0 (three_stop l0 l1)
  · refine Ev.neg c0 ?_
    by_cases c1 : (l1.length : Int) > 1048576
    · rw [decide_eq_true c1]; exact three_stop l0 l1
    · rw [decide_eq_false c1]; exact three_j0 l0 l1 h0
end Go.Proofs.YtaajcbbbmpdcnaaDoor.Pure
