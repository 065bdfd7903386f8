/- The reference's question 'stands under' answers as the plain words on places do. Conditions: rows as Go can hold them. -/
import Derived.Test.YtaajcbbbmpdcnaaDoorBaseTree
import Derived.Test.YtaajcbbbmpdcnaaDoorTreeW
import Derived.Test.YtaajcbbbmpdcnaaDoorPx5
import Derived.Test.YtaajcbbbmpdcnaaDoorPx5
import Derived.Test.YtaajcbbbmpdcnaaDoorPx6
namespace Go.Proofs.YtaajcbbbmpdcnaaDoor.P
open Go.RowKit Go.Proofs.YtaajcbbbmpdcnaaDoorW.PrintWords Go.Proofs.YtaajcbbbmpdcnaaDoorW.PrintLast
set_option linter.unusedVariables false
set_option linter.unusedSimpArgs false

theorem rd_row (l : List S47) {i : Nat} (hi : i < l.length) : rd_T47 l (i : Int) = rowAt l i := by simp [rd_T47, rowAt, hi]
theorem l2End_loop (l : List S47) (hl : l.length ≤ 1099511627776) (u : Nat) (hu : u < l.length) : ∀ (d e : Nat), u < e → e + d = l.length → (∀ k, u < k → k < e → depthAt l u < depthAt l k) → Ev (fun k => spec_l2End.l0 k l (u : Int) (e : Int)) (Tree.endOf (depthAt l) l.length u : Int) := by
  have hru := rd_row l hu
  intro d
  induction d with
  | zero =>
    intro e h1 h2 h3
    have he : Tree.endOf (depthAt l) l.length u = e := Tree.endOf_unique hu h1 (by omega) h3 (fun h => by omega)
    rw [he]
    exact Ev.step (f := fun _ => some (e : Int)) (fun k => by simp only [spec_l2End.l0]; rw [if_neg (by omega)]) (Ev.pure rfl)
  | succ d ih =>
    intro e h1 h2 h3
    have hel : e < l.length := by omega
    by_cases h : depthAt l u < depthAt l e
    · refine Ev.step (fun k => by simp only [spec_l2End.l0]; rw [if_pos (by omega), if_pos (by omega), if_pos (by omega), if_pos (by omega), rd_row l hel, hru, if_pos (show (rowAt l e).f1 > (rowAt l u).f1 from h), wrap_succ e (by omega)]) ?_
      exact ih (e + 1) (by omega) (by omega) (fun k k1 k2 => by
        by_cases c : k = e
        · rw [c]; exact h
        · exact h3 k k1 (by omega))
    · have he : Tree.endOf (depthAt l) l.length u = e := Tree.endOf_unique hu h1 (by omega) h3 (fun _ => by omega)
      rw [he]
      exact Ev.step (f := fun _ => some (e : Int)) (fun k => by simp only [spec_l2End.l0]; rw [if_pos (by omega), if_pos (by omega), if_pos (by omega), if_pos (by omega), rd_row l hel, hru, if_neg (show ¬ (rowAt l e).f1 > (rowAt l u).f1 from h)]) (Ev.pure rfl)
theorem l2End_ev (l : List S47) (hl : l.length ≤ 1099511627776) (u : Nat) (hu : u < l.length) : Ev (fun k => spec_l2End.f k l (u : Int)) (Tree.endOf (depthAt l) l.length u : Int) := by
  unfold spec_l2End.f
  rw [wrap_succ u (by omega)]
  exact l2End_loop l hl u hu (l.length - (u + 1)) (u + 1) (by omega) (by omega) (fun k k1 k2 => by omega)
/-- Whether a number's row stands under another's: by places. -/
def underB (l : List S47) (id under : Int) : Bool :=
  match placeOf l l.length id, placeOf l l.length under with
    | some i, some u => Tree.metB (depthAt l) u (i + 2) (some i)
    | _, _ => false
theorem place_lt {l : List S47} {id : Int} {i : Nat} (h : placeOf l l.length id = some i) : i < l.length := (Tree.firstB_some.1 h).1
theorem place_id {l : List S47} {id : Int} {i : Nat} (h : placeOf l l.length id = some i) : idAt l i = id := by simpa using (Tree.firstB_some.1 h).2.1
theorem underB_some {l : List S47} {id under : Int} {i u : Nat} (hi : placeOf l l.length id = some i) (hu : placeOf l l.length under = some u) : underB l id under = true ↔ Tree.under (depthAt l) u i := by
  unfold underB; rw [hi, hu]; exact Tree.metB_under _ _ (Nat.le_refl _)
theorem l2Under_ev (l : List S47) (hl : l.length ≤ 1099511627776) (id under : Int) : Ev (fun k => spec_l2Under.f k l id under) (underB l id under) := by
  unfold spec_l2Under.f
  refine Ev.bind (l2At_ev l hl id) (Ev.bind (l2At_ev l hl under) ?_)
  cases hi : placeOf l l.length id with
  | none =>
    have e : underB l id under = false := by unfold underB; rw [hi]
    rw [e]; exact Ev.neg (by simp [placeInt]) (Ev.pure rfl)
  | some i =>
    have hil := place_lt hi
    refine Ev.pos (by simp [placeInt]) ?_
    cases hu : placeOf l l.length under with
    | none =>
      have e : underB l id under = false := by unfold underB; rw [hi, hu]
      rw [e]; exact Ev.neg (by simp [placeInt]) (Ev.pure rfl)
    | some u =>
      have hul := place_lt hu
      refine Ev.pos (by simp [placeInt]) (Ev.bind (l2End_ev l hl u hul) (Ev.bindc (l6In_eq _ _ _) (Ev.pure ?_)))
      obtain ⟨a1, a2, _, _⟩ := Tree.endOf_spec (D := depthAt l) hul
      rw [wrap64_id (by omega), Bool.eq_iff_iff, underB_some hi hu, Tree.under_end hul hil]
      rw [decide_eq_true_iff]
      show ((u : Int) ≤ (i : Int) ∧ (i : Int) ≤ (Tree.endOf (depthAt l) l.length u : Int) - 1) ↔ _
      constructor
      · rintro ⟨h1, h2⟩; exact ⟨by omega, by omega⟩
      · rintro ⟨h1, h2⟩; exact ⟨by omega, by omega⟩
theorem treeUnder_eq (l : List S47) (id under : Int) : treeUnder l id under = if tok l [] 0 (-1) = true then underB l id under else false := rfl
theorem specTreeUnder_ev (l : List S47) (hl : RowsFit l) (id under : Int) : Ev (fun k => spec_TreeUnder.f k l id under) (treeUnder l id under) := by
  unfold spec_TreeUnder.f
  rw [treeUnder_eq]
  refine Ev.bind (specTreeOk_ev l hl) ?_
  by_cases hv : tok l [] 0 (-1) = true
  · rw [if_pos hv]
    exact Ev.pos hv (Ev.bind (l2Under_ev l hl.1 id under) (Ev.pure rfl))
  · rw [if_neg hv]
    exact Ev.neg hv (Ev.pure rfl)
end Go.Proofs.YtaajcbbbmpdcnaaDoor.P
