/- The reference's tree questions answer as the plain words on places do. Conditions: rows as Go can hold them. -/
import Derived.Test.YtdapbpgooehibaaDoorBaseRows
import Derived.Test.YtdapbpgooehibaaDoorTreeQ
import Derived.Test.YtdapbpgooehibaaDoorPx4
namespace Go.Proofs.YtdapbpgooehibaaDoor.P
open Go.RowKit Go.Proofs.YtdapbpgooehibaaDoorW.PrintWords Go.Proofs.YtdapbpgooehibaaDoorW.PrintLast
set_option linter.unusedVariables false
set_option linter.unusedSimpArgs false

def placeInt : Option Nat → Int
  | none => -1
  | some j => (j : Int)
theorem l2At_loop (l : List S29) (hl : l.length ≤ 1099511627776) (id : Int) : ∀ (d i : Nat), i + d = l.length → (∀ k, k < i → idAt l k ≠ id) → Ev (fun k => spec_l2At.l0 k l id (i : Int)) (placeInt (placeOf l l.length id)) := by
  intro d
  induction d with
  | zero =>
    intro i hi hno
    have : placeOf l l.length id = none := Tree.firstB_none.2 fun k hk => by simpa using hno k (by omega)
    rw [this]
    exact Ev.step (f := fun _ => some (-1)) (fun k => by simp only [spec_l2At.l0]; rw [if_neg (by omega)]) (Ev.pure rfl)
  | succ d ih =>
    intro i hi hno
    have hlt : i < l.length := by omega
    have hr : rd_T29 l (i : Int) = rowAt l i := by simp [rd_T29, rowAt, hlt]
    by_cases h : idAt l i = id
    · have : placeOf l l.length id = some i := Tree.firstB_some.2 ⟨hlt, by simpa using h, fun k hk => by simpa using hno k hk⟩
      rw [this]
      exact Ev.step (f := fun _ => some (i : Int)) (fun k => by simp only [spec_l2At.l0]; rw [if_pos (by omega), if_pos (by omega), hr, if_pos (show (rowAt l i).f0 = id from h)]) (Ev.pure rfl)
    · refine Ev.step (fun k => by simp only [spec_l2At.l0]; rw [if_pos (by omega), if_pos (by omega), hr, if_neg (show ¬ (rowAt l i).f0 = id from h), wrap_succ i (by omega)]) ?_
      exact ih (i + 1) (by omega) (fun k hk => by
        by_cases e : k = i
        · rw [e]; exact h
        · exact hno k (by omega))
theorem l2At_ev (l : List S29) (hl : l.length ≤ 1099511627776) (id : Int) : Ev (fun k => spec_l2At.f k l id) (placeInt (placeOf l l.length id)) :=
  l2At_loop l hl id l.length 0 (by omega) (fun k hk => absurd hk (by omega))
def upId (l : List S29) : Option Nat → Int
  | none => 0
  | some u => idAt l u
end Go.Proofs.YtdapbpgooehibaaDoor.P
