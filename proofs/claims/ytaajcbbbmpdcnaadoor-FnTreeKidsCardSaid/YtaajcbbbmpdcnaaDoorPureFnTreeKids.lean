/- The pure statement of the law FnTreeKids: at every code, kids stand one behind the other. No further condition. -/
import Derived.Test.YtaajcbbbmpdcnaaDoorPx17
import Derived.Test.YtaajcbbbmpdcnaaDoorBaseLk
namespace Go.Proofs.YtaajcbbbmpdcnaaDoor.Pure
open Go.RowKit Go.Proofs.YtaajcbbbmpdcnaaDoor Go.Proofs.YtaajcbbbmpdcnaaDoor.P Go.Proofs.YtaajcbbbmpdcnaaDoorW.PrintWords Go.Proofs.YtaajcbbbmpdcnaaDoorW.PrintLast

theorem treeKids_len (l : List S47) (id : Int) : (treeKids l id).length ≤ l.length := by
  by_cases hv : tok l [] 0 (-1) = true
  · rw [← kidIds_valid hv]; exact kidIds_len l id
  · unfold treeKids; rw [if_neg hv]; simp
theorem kids_loop (t : List S47) (ht : Drawn t) (hv : tok t [] 0 (-1) = true) {u : Nat} : ∀ (d i : Nat), i + d = (Tree.kidsOf (depthAt t) t.length u).length → Ev (fun k => laws_FnTreeKids.l0 k t (idAt t u) ((Tree.kidsOf (depthAt t) t.length u).map (idAt t)) (i : Int)) true := by
  have hl := ht.fits.1
  have hkl : (Tree.kidsOf (depthAt t) t.length u).length ≤ t.length := by unfold Tree.kidsOf; exact Nat.le_trans (List.length_filter_le _ _) (by simp)
  intro d
  induction d with
  | zero =>
    intro i hi
    exact Ev.step (f := fun _ => some true) (fun k => by simp only [laws_FnTreeKids.l0]; rw [if_neg (by rw [List.length_map]; omega)]) (Ev.pure rfl)
  | succ d ih =>
    intro i hi
    obtain ⟨ks, hks⟩ : ∃ ks, ks = Tree.kidsOf (depthAt t) t.length u := ⟨_, rfl⟩
    have hsort : ks.Pairwise (· < ·) := by rw [hks]; exact Tree.kids_sorted _ _ _
    rw [← hks] at hi hkl ih ⊢
    have hik : i < ks.length := by omega
    have hmem : ks[i] ∈ Tree.kidsOf (depthAt t) t.length u := by rw [← hks]; exact List.getElem_mem _
    obtain ⟨hq, hqp⟩ := Tree.mem_kids.1 hmem
    have hsplit : Tree.kidsOf (depthAt t) t.length u = ks.take i ++ ks[i] :: ks.drop (i + 1) := by rw [← hks, ← List.drop_eq_getElem_cons hik, List.take_append_drop]
    have hprev := Tree.prev_last hsplit
    have hr : rd (ks.map (idAt t)) (i : Int) = idAt t ks[i] := by rw [rd_int' _ (by simpa using hik)]; simp
    have hup : impl_TreeUp.f t (idAt t ks[i]) = some (idAt t u, true) := by show some (treeUp t _) = _; rw [up_self hv hq, hqp]; rfl
    have hah : impl_TreeAhead.f t (idAt t ks[i]) = some (aheadId t ((ks.take i).getLast?), true) := by show some (treeAhead t _) = _; rw [ahead_self hv hq hqp, hprev]
    have hw : wrap64 ((i : Int) + 1) = ((i + 1 : Nat) : Int) := wrap_succ i (by omega)
    refine Ev.step (fun k => by simp only [laws_FnTreeKids.l0]; rw [if_pos (by rw [List.length_map]; omega), if_pos (by omega), hr]) (Ev.bindc hup (Ev.bindc hah ?_))
    by_cases c : (i : Int) > 0
    · obtain ⟨j, rfl⟩ : ∃ j, i = j + 1 := ⟨i - 1, by omega⟩
      have hjk : j < ks.length := by omega
      have hjm : ks[j] ∈ Tree.kidsOf (depthAt t) t.length u := by rw [← hks]; exact List.getElem_mem _
      obtain ⟨hq2, _⟩ := Tree.mem_kids.1 hjm
      have hw1 : wrap64 (((j + 1 : Nat) : Int) - 1) = (j : Int) := by rw [show ((j + 1 : Nat) : Int) - 1 = (j : Int) by omega]; exact wrap64_id (by omega)
      have hr2 : rd (ks.map (idAt t)) (j : Int) = idAt t ks[j] := by rw [rd_int' _ (by simpa using hjk)]; simp
      have hlast : (ks.take (j + 1)).getLast? = some ks[j] := by
        rw [List.take_succ_eq_append_getElem hjk, List.getLast?_append]; rfl
      refine Ev.pos c ?_
      rw [hw1, hr2]
      refine Ev.pos (by omega) (Ev.pos (by rw [List.length_map]; omega) ?_)
      refine Ev.step (fun k => by simp only [laws_FnTreeKids.j2]; rw [if_pos trivial, if_pos trivial, if_pos trivial, if_pos (by rw [hlast]; rfl), if_pos c, if_pos (by omega), if_pos (by rw [List.length_map]; omega), hr, hw, hw1, hr2]) ?_
      refine Ev.bind (lpAt_ev t hl _) (Ev.pos (by omega) (Ev.pos (by rw [List.length_map]; omega) (Ev.bind (lpAt_ev t hl _) (Ev.neg ?_ (ih (j + 1 + 1) (by omega))))))
      rw [place_self hv hq, place_self hv hq2]
      have := List.pairwise_iff_getElem.1 hsort j (j + 1) hjk hik (by omega)
      simp only [placeInt]; omega
    · have hi0 : i = 0 := by omega
      subst hi0
      refine Ev.neg c ?_
      refine Ev.step (fun k => by simp only [laws_FnTreeKids.j2]; rw [if_pos trivial, if_pos trivial, if_pos trivial, if_pos (by rfl), if_neg c, hw]) ?_
      exact ih 1 (by omega)
theorem FnTreeKids : laws_FnTreeKids.Pure := by
  intro l0 _ h0
  apply Ev.rounds
  unfold laws_FnTreeKids.f
  by_cases c0 : (l0.length : Int) > 1048576
  · exact Ev.pos c0 (Ev.pure rfl)
  obtain ⟨t, id, hd, ht, _⟩ := drawTreeKids_ev l0 h0
  have hl := ht.fits.1
  have hk := treeKids_len t id
  refine Ev.neg c0 (Ev.bind hd (Ev.bindc rfl (Ev.bind (specTreeKids_ev t ht.fits id) (Ev.bind (lpInts_ev _ (show (treeKids t id).length ≤ 1099511627776 by omega)) (Ev.pos rfl (Ev.bind (specTreeOk_ev t ht.fits) ?_))))))
  by_cases hv : tok t [] 0 (-1) = true
  · rw [hv]
    refine Ev.step (fun k => by simp only [Bool.not_true, laws_FnTreeKids.j0]; rw [if_neg (by decide)]) ?_
    cases hp : placeOf t t.length id with
    | none =>
      have e : treeKids t id = [] := by unfold treeKids; rw [if_pos hv, hp]
      rw [e]
      exact Ev.step (f := fun _ => some true) (fun k => by simp only [laws_FnTreeKids.l0]; rw [if_neg (by decide)]) (Ev.pure rfl)
    | some u =>
      obtain ⟨hu, rfl⟩ := place_of hp
      rw [kids_self hv hu]
      exact kids_loop t ht hv (u := u) (Tree.kidsOf (depthAt t) t.length u).length 0 (by omega)
  · rw [Bool.eq_false_iff.2 hv]
    refine Ev.step (fun k => by simp only [Bool.not_false, laws_FnTreeKids.j0]; rw [if_pos trivial]) ?_
    exact Ev.bind (specTreeKids_ev t ht.fits id) (Ev.bind (lpInts_ev _ (by omega)) (Ev.pure rfl))
end Go.Proofs.YtaajcbbbmpdcnaaDoor.Pure
