/- The reference's tree questions answer as the plain words on places do. Conditions: rows as Go can hold them. -/
import Derived.Test.YtaajcbbbmpdcnaaDoorBaseRows
import Derived.Test.YtaajcbbbmpdcnaaDoorTreeQ
import Derived.Test.YtaajcbbbmpdcnaaDoorPx5
import Derived.Test.YtaajcbbbmpdcnaaDoorPx8
import Derived.Test.YtaajcbbbmpdcnaaDoorPx9
namespace Go.Proofs.YtaajcbbbmpdcnaaDoor.P
open Go.RowKit Go.Proofs.YtaajcbbbmpdcnaaDoorW.PrintWords Go.Proofs.YtaajcbbbmpdcnaaDoorW.PrintLast
set_option linter.unusedVariables false
set_option linter.unusedSimpArgs false

def placeInt : Option Nat → Int
  | none => -1
  | some j => (j : Int)
theorem l2At_loop (l : List S47) (hl : l.length ≤ 1099511627776) (id : Int) : ∀ (d i : Nat), i + d = l.length → (∀ k, k < i → idAt l k ≠ id) → Ev (fun k => spec_l2At.l0 k l id (i : Int)) (placeInt (placeOf l l.length id)) := by
  intro d
  induction d with
  | zero =>
    intro i hi hno
    have : placeOf l l.length id = none := Tree.firstB_none.2 fun k hk => by simpa using hno k (by omega)
    rw [this]
    exact Ev.step (f := fun _ => some (-1)) (fun k => by simp only [spec_l2At.l0]; rw [if_neg (by omega)]) (Ev.pure rfl)
  | succ d ih =>
    intro i hi hno
    have hlt : i < l.length := by omega
    have hr : rd_T47 l (i : Int) = rowAt l i := by simp [rd_T47, rowAt, hlt]
    by_cases h : idAt l i = id
    · have : placeOf l l.length id = some i := Tree.firstB_some.2 ⟨hlt, by simpa using h, fun k hk => by simpa using hno k hk⟩
      rw [this]
      exact Ev.step (f := fun _ => some (i : Int)) (fun k => by simp only [spec_l2At.l0]; rw [if_pos (by omega), if_pos (by omega), hr, if_pos (show (rowAt l i).f0 = id from h)]) (Ev.pure rfl)
    · refine Ev.step (fun k => by simp only [spec_l2At.l0]; rw [if_pos (by omega), if_pos (by omega), hr, if_neg (show ¬ (rowAt l i).f0 = id from h), wrap_succ i (by omega)]) ?_
      exact ih (i + 1) (by omega) (fun k hk => by
        by_cases e : k = i
        · rw [e]; exact h
        · exact hno k (by omega))
theorem l2At_ev (l : List S47) (hl : l.length ≤ 1099511627776) (id : Int) : Ev (fun k => spec_l2At.f k l id) (placeInt (placeOf l l.length id)) :=
  l2At_loop l hl id l.length 0 (by omega) (fun k hk => absurd hk (by omega))
def upId (l : List S47) : Option Nat → Int
  | none => 0
  | some u => idAt l u
theorem l2Up_loop (l : List S47) (hl : l.length ≤ 1099511627776) (i : Nat) (hi : i < l.length) : ∀ j : Nat, j ≤ i → Ev (fun k => spec_l2Up.l0 k l (i : Int) ((j : Int) - 1)) (upId l (Tree.lastB (fun q => decide (depthAt l q < depthAt l i)) j)) := by
  intro j
  have hri : rd_T47 l (i : Int) = rowAt l i := by simp [rd_T47, rowAt, hi]
  induction j with
  | zero =>
    intro _
    exact Ev.step (f := fun _ => some 0) (fun k => by simp only [spec_l2Up.l0]; rw [if_neg (by omega)]) (Ev.pure rfl)
  | succ j ih =>
    intro hj
    have hlt : j < l.length := by omega
    have hr : rd_T47 l (j : Int) = rowAt l j := by simp [rd_T47, rowAt, hlt]
    have e : ((j + 1 : Nat) : Int) - 1 = (j : Int) := by omega
    rw [e, Tree.lastB]
    by_cases h : depthAt l j < depthAt l i
    · rw [if_pos (decide_eq_true h)]
      exact Ev.step (f := fun _ => some (idAt l j)) (fun k => by simp only [spec_l2Up.l0]; rw [if_pos (by omega), if_pos (by omega), if_pos (by omega), if_pos (by omega), if_pos (by omega), hr, hri, if_pos (show (rowAt l j).f1 < (rowAt l i).f1 from h)]; rfl) (Ev.pure rfl)
    · rw [if_neg (by simpa using h)]
      refine Ev.step (fun k => by simp only [spec_l2Up.l0]; rw [if_pos (by omega), if_pos (by omega), if_pos (by omega), if_pos (by omega), if_pos (by omega), hr, hri, if_neg (show ¬ (rowAt l j).f1 < (rowAt l i).f1 from h), wrap64_id (a := (j : Int) - 1) (by omega)]) ?_
      exact ih (by omega)
theorem l2Up_ev (l : List S47) (hl : l.length ≤ 1099511627776) (i : Nat) (hi : i < l.length) : Ev (fun k => spec_l2Up.f k l (i : Int)) (upId l (Tree.par (depthAt l) i)) := by
  unfold spec_l2Up.f
  rw [wrap64_id (a := (i : Int) - 1) (by omega)]
  exact l2Up_loop l hl i hi i (Nat.le_refl _)
theorem specTreeUp_ev (l : List S47) (hl : RowsFit l) (id : Int) : Ev (fun k => spec_TreeUp.f k l id) (treeUp l id) := by
  unfold spec_TreeUp.f treeUp
  refine Ev.bind (l2At_ev l hl.1 id) (Ev.bind (specTreeOk_ev l hl) ?_)
  by_cases hv : tok l [] 0 (-1) = true
  · rw [if_pos hv]
    refine Ev.pos hv ?_
    cases hp : placeOf l l.length id with
    | none => exact Ev.pos (by decide) (Ev.pure rfl)
    | some i =>
      have hi : i < l.length := (Tree.firstB_some.1 hp).1
      refine Ev.neg (by simp [placeInt]) (Ev.bind (l2Up_ev l hl.1 i hi) (Ev.pure ?_))
      dsimp only
      cases Tree.par (depthAt l) i <;> rfl
  · rw [if_neg hv]
    exact Ev.neg hv (Ev.pure rfl)
end Go.Proofs.YtaajcbbbmpdcnaaDoor.P
