/- The pure statement of the law FnTreeUp: at every code, a row stands under the one of which it is a kid. No further condition. -/
import Derived.Test.YtaajcbbbmpdcnaaDoorPx14
import Derived.Test.YtaajcbbbmpdcnaaDoorBaseLk
namespace Go.Proofs.YtaajcbbbmpdcnaaDoor.Pure
open Go.RowKit Go.Proofs.YtaajcbbbmpdcnaaDoor Go.Proofs.YtaajcbbbmpdcnaaDoor.P Go.Proofs.YtaajcbbbmpdcnaaDoorW.PrintWords Go.Proofs.YtaajcbbbmpdcnaaDoorW.PrintLast

theorem treeKids_len (l : List S47) (id : Int) : (treeKids l id).length ≤ l.length := by
  by_cases hv : tok l [] 0 (-1) = true
  · rw [← kidIds_valid hv]; exact kidIds_len l id
  · unfold treeKids; rw [if_neg hv]; simp
theorem kid_of {t : List S47} (hv : tok t [] 0 (-1) = true) {i j : Nat} (hi : i < t.length) (hj : j < t.length) : idAt t j ∈ treeKids t (idAt t i) ↔ Tree.par (depthAt t) j = some i := by
  rw [kids_self hv hi, List.mem_map]
  constructor
  · rintro ⟨q, hq, e⟩
    obtain ⟨hql, hqp⟩ := Tree.mem_kids.1 hq
    rw [← valid_id hv hql hj e]; exact hqp
  · intro h; exact ⟨j, Tree.mem_kids.2 ⟨hj, h⟩, rfl⟩
theorem up_loop (t : List S47) (ht : Drawn t) (hv : tok t [] 0 (-1) = true) {p : Nat} (hp : p < t.length) : ∀ (d i : Nat), i + d = t.length → Ev (fun k => laws_FnTreeUp.l0 k t (idAt t p) (upId t (Tree.par (depthAt t) p)) (i : Int)) true := by
  have hl := ht.fits.1
  intro d
  induction d with
  | zero =>
    intro i hi
    refine Ev.step (fun k => by simp only [laws_FnTreeUp.l0]; rw [if_neg (by omega)]) (Ev.bind (lpAt_ev t hl _) (Ev.pure ?_))
    rw [place_self hv hp]
    simp [placeInt]
  | succ d ih =>
    intro i hi
    have hil : i < t.length := by omega
    have hk := treeKids_len t (idAt t i)
    refine Ev.step (fun k => by simp only [laws_FnTreeUp.l0]; rw [if_pos (by omega), if_pos (by omega), rd_row t hil, wrap_succ i (by omega)]) ?_
    refine Ev.bindc (show impl_TreeKids.f t (rowAt t i).f0 = some (treeKids t (idAt t i)) from rfl) (Ev.bind (lpAmong_ev _ (by omega) _) (Ev.neg ?_ (ih (i + 1) (by omega))))
    have e : decide (idAt t p ∈ treeKids t (idAt t i)) = ((rowAt t i).f0 == upId t (Tree.par (depthAt t) p)) := by
      rw [Bool.eq_iff_iff, decide_eq_true_iff, kid_of hv hil hp, beq_iff_eq]
      cases hpa : Tree.par (depthAt t) p with
      | none =>
        have := id_pos hv hil
        constructor
        · intro h; cases h
        · intro h
          have h2 : idAt t i = 0 := h
          omega
      | some u =>
        have hu := Tree.par_lt hpa
        constructor
        · intro h; cases h; rfl
        · intro h
          have h2 : idAt t i = idAt t u := h
          rw [valid_id hv hil (by omega) h2]
    rw [e]; simp
theorem FnTreeUp : laws_FnTreeUp.Pure := by
  intro l0 _ h0
  apply Ev.rounds
  unfold laws_FnTreeUp.f
  by_cases c0 : (l0.length : Int) > 1048576
  · exact Ev.pos c0 (Ev.pure rfl)
  obtain ⟨t, id, hd, ht, _⟩ := drawTreeUp_ev l0 h0
  refine Ev.neg c0 (Ev.bind hd (Ev.bind (specTreeUp_ev t ht.fits id) (Ev.bindc rfl (Ev.neg (by simp) (Ev.pos rfl ?_)))))
  cases hb : (treeUp t id).2 with
  | false =>
    refine Ev.step (fun k => by simp only [Bool.not_false, laws_FnTreeUp.j0]; rw [if_pos trivial]) ?_
    exact Ev.pos rfl (Ev.pure (beq_self_eq_true _))
  | true =>
    have hv : tok t [] 0 (-1) = true := by
      by_cases hv : tok t [] 0 (-1) = true
      · exact hv
      · unfold treeUp at hb; rw [if_neg hv] at hb; cases hb
    cases hp : placeOf t t.length id with
    | none => unfold treeUp at hb; rw [if_pos hv, hp] at hb; cases hb
    | some i =>
      obtain ⟨hi, rfl⟩ := place_of hp
      refine Ev.step (fun k => by simp only [Bool.not_true, laws_FnTreeUp.j0]; rw [if_neg (by decide)]) ?_
      rw [up_self hv hi]
      exact up_loop t ht hv hi t.length 0 (by omega)
end Go.Proofs.YtaajcbbbmpdcnaaDoor.Pure
