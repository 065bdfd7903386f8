/- The reference's commands on a row answer as the program's do, in plain words on places. Conditions: rows and numbers as Go can hold them. -/
import Derived.Test.YtaajcbbbmpdcnaaDoorBaseTreeA
import Derived.Test.YtaajcbbbmpdcnaaDoorBaseLp
import Derived.Test.YtaajcbbbmpdcnaaDoorTreeZ
import Derived.Test.YtaajcbbbmpdcnaaDoorPx12
import Derived.Test.YtaajcbbbmpdcnaaDoorPx9
import Derived.Test.YtaajcbbbmpdcnaaDoorPx6
import Derived.Test.YtaajcbbbmpdcnaaDoorPx7
namespace Go.Proofs.YtaajcbbbmpdcnaaDoor.P
open Go.RowKit Go.Proofs.YtaajcbbbmpdcnaaDoorW.PrintWords Go.Proofs.YtaajcbbbmpdcnaaDoorW.PrintLast
set_option linter.unusedVariables false
set_option linter.unusedSimpArgs false

theorem made_of_par {l : List S47} (hv : tok l [] 0 (-1) = true) {i u : Nat} (hi : i < l.length) (hp : Tree.par (depthAt l) i = some u) : madeB (idAt l i) = true := by
  have h := valid_row hv hi
  unfold rowB at h
  by_cases hr : rootB (idAt l i) = true
  · have := (root_par hv hi).1 hr
    rw [hp] at this; cases this
  · rw [if_neg hr, Bool.and_eq_true, Bool.and_eq_true] at h
    exact h.1.1
theorem made_not_root {l : List S47} (hv : tok l [] 0 (-1) = true) {i : Nat} (hi : i < l.length) : madeB (idAt l i) = !rootB (idAt l i) := by
  cases hr : rootB (idAt l i) with
  | true =>
    have := rootB_iff.1 hr
    rw [madeB_false.2 (by omega)]; rfl
  | false =>
    obtain ⟨u, hp⟩ := made_par hv hi hr
    rw [made_of_par hv hi hp]; rfl
theorem onRow_bad {l : List S47} {id : Int} {f : Nat → Key} (h : ¬ tok l [] 0 (-1) = true) : onRow l id f = noOp := by unfold onRow; rw [if_neg h]
theorem onRow_gone {l : List S47} {id : Int} {f : Nat → Key} (h : placeOf l l.length id = none) : onRow l id f = noOp := by
  unfold onRow; rw [h]
  split
  · split <;> rfl
  · rfl
theorem onRow_other {l : List S47} {id : Int} {f : Nat → Key} (h : madeB id = false) : onRow l id f = noOp := by
  unfold onRow; rw [h]
  split
  · rfl
  · rfl
theorem onRow_at {l : List S47} {id : Int} {f : Nat → Key} {i : Nat} (hv : tok l [] 0 (-1) = true) (hm : madeB id = true) (hp : placeOf l l.length id = some i) : onRow l id f = f i := by
  unfold onRow; rw [if_pos hv, if_pos hm, hp]
theorem keyIn_stop (l : List S47) (id a : Int) : Ev (fun k => spec_KeyIn.j0 k l id a true) noOp :=
  Ev.step (f := fun _ => some noOp) (fun k => by simp only [spec_KeyIn.j0]; rw [if_pos trivial]; rfl) (Ev.pure rfl)
theorem specKeyIn_ev (l : List S47) (hl : RowsFit l) (id : Int) : Ev (fun k => spec_KeyIn.f k l id) (onRow l id (inAt l)) := by
  unfold spec_KeyIn.f
  refine Ev.bind (specTreeAhead_ev l hl id) ?_
  by_cases hv : tok l [] 0 (-1) = true
  · cases hp : placeOf l l.length id with
    | none =>
      have e : treeAhead l id = (0, false) := by unfold treeAhead; rw [if_pos hv, hp]
      rw [e, onRow_gone hp]
      exact Ev.neg (by decide) (keyIn_stop l id 0)
    | some i =>
      obtain ⟨hi, rfl⟩ := place_of hp
      cases hpa : Tree.par (depthAt l) i with
      | none =>
        have e : treeAhead l (idAt l i) = (0, false) := by unfold treeAhead; rw [if_pos hv, hp]; dsimp only; rw [hpa]
        have hr := (root_par hv hi).2 hpa
        rw [e, onRow_other (by rw [made_not_root hv hi, hr]; rfl)]
        exact Ev.neg (by decide) (keyIn_stop l _ 0)
      | some u =>
        have e : treeAhead l (idAt l i) = (aheadId l (Tree.prev (depthAt l) i), true) := by
          unfold treeAhead; rw [if_pos hv, hp]; dsimp only; rw [hpa]; dsimp only
          cases Tree.prev (depthAt l) i <;> rfl
        rw [e, onRow_at hv (made_of_par hv hi hpa) hp]
        refine Ev.pos rfl ?_
        unfold inAt
        cases hpv : Tree.prev (depthAt l) i with
        | none => exact keyIn_stop l _ 0
        | some a =>
          have hal : a < l.length := by have := (Tree.prev_some.1 hpv).1; omega
          have hpos := id_pos hv hal
          have hk : kidIds l (idAt l a) = (Tree.kidsOf (depthAt l) l.length a).map (idAt l) := by
            rw [kidIds_valid hv]; unfold treeKids; rw [if_pos hv, place_self hv hal]
          dsimp only [aheadId]
          rw [beq_eq_false_iff_ne.2 (show idAt l a ≠ 0 by omega)]
          refine Ev.step (fun k => by simp only [spec_KeyIn.j0]; rw [if_neg (by decide)]) (Ev.bind (l2Kids_ev l hl.1 _) ?_)
          have hlen := kidIds_len l (idAt l a)
          have h40 := hl.1
          rw [hk] at hlen ⊢
          generalize Tree.kidsOf (depthAt l) l.length a = ks at hlen ⊢
          by_cases h0 : (((ks.map (idAt l)).length : Nat) : Int) = 0
          · refine Ev.pos h0 (Ev.bindc rfl (Ev.pure ?_))
            have : ks = [] := by
              have h1 : ks.length = 0 := by rw [List.length_map] at h0; omega
              exact List.eq_nil_of_length_eq_zero h1
            rw [this]; rfl
          · obtain ⟨m, hm⟩ : ∃ m, ks.length = m + 1 := ⟨ks.length - 1, by rw [List.length_map] at h0; omega⟩
            have hw : wrap64 (((ks.map (idAt l)).length : Int) - 1) = (m : Int) := by
              rw [List.length_map, hm, show ((m + 1 : Nat) : Int) - 1 = (m : Int) by omega]
              exact wrap64_id (by rw [List.length_map] at hlen; omega)
            have hlast : ks.getLast? = some (ks[m]'(by omega)) := by
              rw [List.getLast?_eq_getElem?, show ks.length - 1 = m by omega, List.getElem?_eq_getElem (by omega)]
            refine Ev.neg h0 ?_
            rw [hw]
            refine Ev.pos (by omega) (Ev.pos (by rw [List.length_map]; omega) (Ev.bindc rfl (Ev.pure ?_)))
            rw [rd_int' _ (by rw [List.length_map]; omega), hlast]
            simp [moveOp, lastId]
  · have e : treeAhead l id = (0, false) := by unfold treeAhead; rw [if_neg hv]
    rw [e, onRow_bad hv]
    exact Ev.neg (by decide) (keyIn_stop l id 0)
theorem keyOut_stop (l : List S47) (id a : Int) : Ev (fun k => spec_KeyOut.j0 k l id a true) noOp :=
  Ev.step (f := fun _ => some noOp) (fun k => by simp only [spec_KeyOut.j0]; rw [if_pos trivial]; rfl) (Ev.pure rfl)
theorem specKeyOut_ev (l : List S47) (hl : RowsFit l) (id : Int) (hid : -9223372036854775808 ≤ id ∧ id ≤ 9223372036854775807) : Ev (fun k => spec_KeyOut.f k l id) (onRow l id (outAt l)) := by
  unfold spec_KeyOut.f
  refine Ev.bind (specTreeUp_ev l hl id) ?_
  by_cases hv : tok l [] 0 (-1) = true
  · cases hp : placeOf l l.length id with
    | none =>
      have e : treeUp l id = (0, false) := by unfold treeUp; rw [if_pos hv, hp]
      rw [e, onRow_gone hp]
      exact Ev.neg (by decide) (keyOut_stop l id 0)
    | some i =>
      obtain ⟨hi, rfl⟩ := place_of hp
      rw [up_self hv hi]
      refine Ev.pos rfl (Ev.bindc (l1Made_eq _ hid) ?_)
      by_cases hm : madeB (idAt l i) = true
      · rw [onRow_at hv hm hp]
        refine Ev.pos hm ?_
        have hr : rootB (idAt l i) = false := by
          have := made_not_root hv hi
          rw [hm] at this
          cases h : rootB (idAt l i) with
          | false => rfl
          | true => rw [h] at this; cases this
        obtain ⟨u, hpa⟩ := made_par hv hi hr
        have hul : u < l.length := by have := Tree.par_lt hpa; omega
        have hpos := id_pos hv hul
        unfold outAt
        rw [hpa]
        dsimp only [upId]
        refine Ev.bindc (l1Made_eq _ (by omega)) ?_
        rw [made_not_root hv hul, Bool.not_not]
        cases hru : rootB (idAt l u) with
        | true => rw [if_pos rfl]; exact keyOut_stop l _ _
        | false =>
          rw [if_neg (by decide)]
          obtain ⟨v, hpv⟩ := made_par hv hul hru
          refine Ev.step (fun k => by simp only [spec_KeyOut.j0]; rw [if_neg (by decide)]) (Ev.bind (specTreeUp_ev l hl _) (Ev.bindc rfl (Ev.pure ?_)))
          rw [up_self hv hul, hpv]
          rfl
      · rw [onRow_other (by simpa using hm)]
        exact Ev.neg hm (keyOut_stop l _ _)
  · have e : treeUp l id = (0, false) := by unfold treeUp; rw [if_neg hv]
    rw [e, onRow_bad hv]
    exact Ev.neg (by decide) (keyOut_stop l id 0)
theorem specKeyGone_ev (l : List S47) (hl : RowsFit l) (id : Int) (hid : -9223372036854775808 ≤ id ∧ id ≤ 9223372036854775807) : Ev (fun k => spec_KeyGone.f k l id) (onRow l id (goneAt l)) := by
  unfold spec_KeyGone.f
  refine Ev.bind (specTreeOk_ev l hl) ?_
  by_cases hv : tok l [] 0 (-1) = true
  · refine Ev.pos hv (Ev.bindc (l1Made_eq _ hid) ?_)
    by_cases hm : madeB id = true
    · refine Ev.pos hm (Ev.bind (l2At_ev l hl.1 id) ?_)
      cases hp : placeOf l l.length id with
      | none =>
        rw [onRow_gone hp]
        exact Ev.pos (by simp [placeInt]) (Ev.pure rfl)
      | some i =>
        rw [onRow_at hv hm hp]
        refine Ev.neg (by simp [placeInt]) (Ev.bind (l2Under_ev l hl.1 id 2) ?_)
        obtain ⟨tr, ht⟩ := root_place hv (r := 2) (by omega) (by omega)
        have e : underB l id 2 = Tree.metB (depthAt l) tr (i + 2) (some i) := by unfold underB; rw [hp, ht]
        have e2 : goneAt l i = if underB l id 2 = true then noOp else moveOp (idAt l i) 2 0 := by unfold goneAt; rw [ht, e]
        rw [e2]
        by_cases hu : underB l id 2 = true
        · refine Ev.pos hu ?_
          rw [if_pos hu]; exact Ev.pure rfl
        · refine Ev.neg hu ?_
          rw [if_neg hu]
          refine Ev.bindc rfl (Ev.pure ?_)
          rw [place_id hp]; rfl
    · rw [onRow_other (by simpa using hm)]
      exact Ev.neg hm (Ev.pure rfl)
  · rw [onRow_bad hv]
    exact Ev.neg hv (Ev.pure rfl)
theorem eqOp_same (a b c d : Int) (s : ByteArray) : laws_eqOp.f a b c d s a b c d s = some true := by
  unfold laws_eqOp.f
  rw [if_pos rfl, if_pos rfl, if_pos rfl, if_pos rfl, if_pos rfl]
end Go.Proofs.YtaajcbbbmpdcnaaDoor.P
