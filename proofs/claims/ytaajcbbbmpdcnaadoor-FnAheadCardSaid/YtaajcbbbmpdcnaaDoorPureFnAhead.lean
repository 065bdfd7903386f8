/- The pure statement of the law FnAhead: at every code, who is right ahead stands under the same. No further condition. -/
import Derived.Test.YtaajcbbbmpdcnaaDoorPx20
import Derived.Test.YtaajcbbbmpdcnaaDoorBaseLk
namespace Go.Proofs.YtaajcbbbmpdcnaaDoor.Pure
open Go.RowKit Go.Proofs.YtaajcbbbmpdcnaaDoor Go.Proofs.YtaajcbbbmpdcnaaDoor.P Go.Proofs.YtaajcbbbmpdcnaaDoorW.PrintWords Go.Proofs.YtaajcbbbmpdcnaaDoorW.PrintLast

theorem ahead_loop (t : List S47) (hl : t.length ≤ 1099511627776) (hv : tok t [] 0 (-1) = true) {i q u : Nat} {pre rest : List Nat} (hi : i < t.length) (hs : Tree.kidsOf (depthAt t) t.length u = pre ++ i :: rest) (hlast : pre.getLast? = some q) (up : Int) : ∀ (d j : Nat), j + d = pre.length → 1 ≤ j → Ev (fun k => laws_FnAhead.l0 k (idAt t i) (idAt t q) up up ((Tree.kidsOf (depthAt t) t.length u).map (idAt t)) (j : Int)) true := by
  have hkl : (Tree.kidsOf (depthAt t) t.length u).length ≤ t.length := by unfold Tree.kidsOf; exact Nat.le_trans (List.length_filter_le _ _) (by simp)
  have hlen : (Tree.kidsOf (depthAt t) t.length u).length = pre.length + 1 + rest.length := by rw [hs]; simp; omega
  have hsort := Tree.kids_sorted (depthAt t) t.length u
  have hlt : ∀ x ∈ Tree.kidsOf (depthAt t) t.length u, x < t.length := fun x hx => (Tree.mem_kids.1 hx).1
  rw [hs] at hsort hlt hkl hlen ⊢
  intro d
  induction d with
  | zero =>
    intro j hj h1
    have hjp : j = pre.length := by omega
    subst hjp
    obtain ⟨m, hm⟩ : ∃ m, pre.length = m + 1 := ⟨pre.length - 1, by omega⟩
    have hr : rd ((pre ++ i :: rest).map (idAt t)) (pre.length : Int) = idAt t i := by rw [rd_int' _ (by simp)]; simp
    have hw1 : wrap64 ((pre.length : Int) - 1) = (m : Int) := by rw [hm, show ((m + 1 : Nat) : Int) - 1 = (m : Int) by omega]; exact wrap64_id (by omega)
    have hq : pre[m]'(by omega) = q := by
      rw [List.getLast?_eq_getElem?, hm, Nat.add_sub_cancel, List.getElem?_eq_getElem (by omega)] at hlast
      exact Option.some.inj hlast
    have hr2 : rd ((pre ++ i :: rest).map (idAt t)) (m : Int) = idAt t q := by
      rw [rd_int' _ (by simp; omega), List.getElem_map, List.getElem_append_left (by omega), hq]
    refine Ev.step (f := fun _ => some (up == up)) (fun k => ?_) (Ev.pure (beq_self_eq_true _))
    simp only [laws_FnAhead.l0]
    rw [if_pos (by rw [List.length_map]; omega), if_pos (by omega), hr, if_pos rfl, hw1, if_pos (by omega), if_pos (by rw [List.length_map]; omega), hr2, if_pos rfl]
  | succ d ih =>
    intro j hj h1
    have hjl : j < pre.length := by omega
    have hr : rd ((pre ++ i :: rest).map (idAt t)) (j : Int) = idAt t (pre[j]) := by
      rw [rd_int' _ (by simp; omega), List.getElem_map, List.getElem_append_left hjl]
    have hne : ¬ idAt t pre[j] = idAt t i := by
      intro e
      have hm : pre[j] ∈ pre ++ i :: rest := List.mem_append_left _ (List.getElem_mem _)
      have := valid_id hv (hlt _ hm) hi e
      have h3 := (List.pairwise_append.1 hsort).2.2 _ (List.getElem_mem hjl) i (by simp)
      omega
    refine Ev.step (fun k => by simp only [laws_FnAhead.l0]; rw [if_pos (by rw [List.length_map]; omega), if_pos (by omega), hr, if_neg hne, wrap_succ j (by omega)]) ?_
    exact ih (j + 1) (by omega) (by omega)
theorem FnAhead : laws_FnAhead.Pure := by
  intro l0 _ h0
  apply Ev.rounds
  unfold laws_FnAhead.f
  by_cases c0 : (l0.length : Int) > 1048576
  · exact Ev.pos c0 (Ev.pure rfl)
  obtain ⟨t, id, hd, ht, _⟩ := drawTreeAhead_ev l0 h0
  have hl := ht.fits.1
  refine Ev.neg c0 (Ev.bind hd (Ev.bind (specTreeAhead_ev t ht.fits id) (Ev.bindc rfl (Ev.neg (by simp) (Ev.pos rfl ?_)))))
  have stop : ∀ a b, Ev (fun k => laws_FnAhead.j0 k t id a b a b true) true := fun a b => by
    refine Ev.step (fun k => by simp only [laws_FnAhead.j0]; rw [if_pos trivial]) ?_
    exact Ev.pos (beq_self_eq_true _) (Ev.pure (beq_self_eq_true _))
  by_cases hb : (treeAhead t id).2 = true
  · refine Ev.pos hb ?_
    cases hz : ((treeAhead t id).1 == 0) with
    | true => exact stop _ _
    | false =>
      have hz2 : (treeAhead t id).1 ≠ 0 := by simpa using hz
      have hv : tok t [] 0 (-1) = true := by
        by_cases hv : tok t [] 0 (-1) = true
        · exact hv
        · unfold treeAhead at hb; rw [if_neg hv] at hb; cases hb
      cases hp : placeOf t t.length id with
      | none => unfold treeAhead at hb; rw [if_pos hv, hp] at hb; cases hb
      | some i =>
        obtain ⟨hi, rfl⟩ := place_of hp
        cases hpa : Tree.par (depthAt t) i with
        | none => unfold treeAhead at hb; rw [if_pos hv, hp] at hb; dsimp only at hb; rw [hpa] at hb; cases hb
        | some u =>
          have hul := Tree.par_lt hpa
          have ha := ahead_self hv hi hpa
          rw [ha] at hz2 ⊢
          cases hpv : Tree.prev (depthAt t) i with
          | none => rw [hpv] at hz2; exact absurd rfl hz2
          | some q =>
            have hq := Tree.prev_some.1 hpv
            have hqp : Tree.par (depthAt t) q = some u := by rw [hq.2.1, hpa]
            obtain ⟨pre, rest, hs⟩ := Tree.kids_split (n := t.length) hi hpa
            have hlast := Tree.prev_last hs
            rw [hpv] at hlast
            have hpre : 1 ≤ pre.length := by
              cases pre with
              | nil => cases hlast
              | cons a b => simp
            refine Ev.step (fun k => by simp only [laws_FnAhead.j0]; rw [if_neg (by decide)]) ?_
            refine Ev.bindc (show impl_TreeUp.f t (idAt t i) = some (idAt t u, true) by show some (treeUp t _) = _; rw [up_self hv hi, hpa]; rfl) ?_
            refine Ev.bindc (show impl_TreeUp.f t (aheadId t (some q)) = some (idAt t u, true) by show some (treeUp t (idAt t q)) = _; rw [up_self hv (by omega), hqp]; rfl) ?_
            refine Ev.bindc (show impl_TreeKids.f t (idAt t u) = some ((Tree.kidsOf (depthAt t) t.length u).map (idAt t)) by show some (treeKids t _) = _; rw [kids_self hv (by omega)]) ?_
            exact ahead_loop t hl hv hi hs hlast.symm (idAt t u) (pre.length - 1) 1 (by omega) (Nat.le_refl _)
  · refine Ev.neg hb (stop _ _)
end Go.Proofs.YtaajcbbbmpdcnaaDoor.Pure
