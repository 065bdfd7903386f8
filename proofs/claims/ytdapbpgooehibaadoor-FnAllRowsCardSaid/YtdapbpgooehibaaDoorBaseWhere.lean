/- Under which row, and behind which one, a change puts a row: the reference's answer in plain words on places, for any rows. Conditions: rows as Go can hold them. -/
import Derived.Test.YtdapbpgooehibaaDoorBaseTreeU
import Derived.Test.YtdapbpgooehibaaDoorPx5
namespace Go.Proofs.YtdapbpgooehibaaDoor.P
open Go.RowKit Go.Proofs.YtdapbpgooehibaaDoorW.PrintWords Go.Proofs.YtdapbpgooehibaaDoorW.PrintLast
set_option linter.unusedVariables false
set_option linter.unusedSimpArgs false

/-- Behind which one: the wished one, where that is a kid and another row. -/
def atOf (kids : List Int) (id at_ x : Int) : Int := if at_ ∈ kids ∧ at_ ≠ id then at_ else x
theorem where_loop (kids : List Int) (hk : kids.length ≤ 1099511627776) (kind id up at_ : Int) (text : ByteArray) : ∀ (d i : Nat) (x : Int), i + d = kids.length → Ev (fun k => spec_l3Where.l0 k up x kids (i : Int) kind id up at_ text) (up, atOf (kids.drop i) id at_ x, true) := by
  intro d
  induction d with
  | zero =>
    intro i x hi
    refine Ev.step (f := fun _ => some (up, x, true)) (fun k => by simp only [spec_l3Where.l0]; rw [if_neg (by omega)]) (Ev.pure ?_)
    rw [List.drop_of_length_le (by omega)]
    simp [atOf]
  | succ d ih =>
    intro i x hi
    have hlt : i < kids.length := by omega
    have hd : kids.drop i = kids[i] :: kids.drop (i + 1) := List.drop_eq_getElem_cons hlt
    have hr : rd kids (i : Int) = kids[i] := by simp [rd, hlt]
    by_cases h : kids[i] = at_
    · by_cases h2 : at_ = id
      · refine Ev.step (fun k => by simp only [spec_l3Where.l0]; rw [if_pos (by omega), if_pos (by omega), hr, if_pos h, if_pos h2, wrap_succ i (by omega)]) (Ev.cong (ih (i + 1) x (by omega)) ?_)
        simp [atOf, h2]
      · refine Ev.step (fun k => by simp only [spec_l3Where.l0]; rw [if_pos (by omega), if_pos (by omega), hr, if_pos h, if_neg h2, wrap_succ i (by omega)]) (Ev.cong (ih (i + 1) at_ (by omega)) ?_)
        rw [hd, h]
        simp [atOf, h2]
    · refine Ev.step (fun k => by simp only [spec_l3Where.l0]; rw [if_pos (by omega), if_pos (by omega), hr, if_neg h, wrap_succ i (by omega)]) (Ev.cong (ih (i + 1) x (by omega)) ?_)
      have h3 : ¬ at_ = kids[i] := fun e => h e.symm
      have hm : (at_ ∈ kids.drop i) = (at_ ∈ kids.drop (i + 1)) := propext ⟨fun m => by rw [hd] at m; exact (List.mem_cons.1 m).resolve_left h3, fun m => by rw [hd]; exact List.mem_cons_of_mem _ m⟩
      unfold atOf
      simp only [hm]
/-- Where a change puts a row; false, where nowhere. -/
def where3 (l : List S29) (kind id up at_ : Int) : Int × Int × Bool :=
  if kind = 2 ∨ (placeOf l l.length id).isSome ≠ (kind == 3) ∨ ((placeOf l l.length id).isSome = true ∧ underB l up id = true) then (0, 0, false)
  else if (placeOf l l.length up).isSome = true then (up, atOf (kidIds l up) id at_ 0, true) else (3, 0, true)
theorem placeInt_nonneg (o : Option Nat) : decide (placeInt o ≥ 0) = o.isSome := by cases o <;> simp [placeInt]
theorem where_j0 (l : List S29) (hl : l.length ≤ 1099511627776) (b : Bool) (kind id up at_ : Int) (text : ByteArray) : Ev (fun k => spec_l3Where.j0 k l b kind id up at_ text) (if b = true then (0, 0, false) else if (placeOf l l.length up).isSome = true then (up, atOf (kidIds l up) id at_ 0, true) else (3, 0, true)) := by
  cases b with
  | true => exact Ev.step (f := fun _ => some (0, 0, false)) (fun k => by simp only [spec_l3Where.j0]; rw [if_pos trivial]) (Ev.pure rfl)
  | false =>
    refine Ev.step (fun k => by simp only [spec_l3Where.j0]; rw [if_neg (by decide)]) ?_
    refine Ev.bind (l2At_ev l hl up) ?_
    cases hp : placeOf l l.length up with
    | none => exact Ev.pos (by simp [placeInt]) (Ev.pure rfl)
    | some u =>
      have hk := kidIds_len l up
      exact Ev.neg (by simp [placeInt]) (Ev.bind (l2Kids_ev l hl up) (Ev.cong (where_loop (kidIds l up) (by omega) kind id up at_ text (kidIds l up).length 0 0 (by omega)) (by simp)))
theorem l3Where_ev (l : List S29) (hl : l.length ≤ 1099511627776) (kind id up at_ : Int) (text : ByteArray) : Ev (fun k => spec_l3Where.f k l kind id up at_ text) (where3 l kind id up at_) := by
  unfold spec_l3Where.f where3
  refine Ev.bind (l2At_ev l hl id) ?_
  by_cases h1 : kind = 2
  · exact Ev.pos h1 (Ev.cong (where_j0 l hl true kind id up at_ text) (by rw [if_pos rfl, if_pos (.inl h1)]))
  · refine Ev.neg h1 ?_
    rw [placeInt_nonneg]
    by_cases h2 : (placeOf l l.length id).isSome = (kind == 3)
    · refine Ev.neg (by rw [h2]; simp) ?_
      cases hp : placeOf l l.length id with
      | none =>
        refine Ev.neg (by simp [placeInt]) (Ev.cong (where_j0 l hl false kind id up at_ text) ?_)
        rw [hp] at h2
        rw [if_neg (by decide), if_neg (c := kind = 2 ∨ _) (by simp [h1]; simpa using h2)]
      | some i =>
        rw [hp] at h2
        refine Ev.pos (by simp [placeInt]) (Ev.bind (l2Under_ev l hl up id) (Ev.cong (where_j0 l hl (underB l up id) kind id up at_ text) ?_))
        by_cases h3 : underB l up id = true
        · rw [if_pos h3, if_pos (c := kind = 2 ∨ _) (.inr (.inr ⟨rfl, h3⟩))]
        · rw [if_neg h3, if_neg (c := kind = 2 ∨ _) (by
            rintro (h | h | h)
            · exact h1 h
            · exact h h2
            · exact h3 h.2)]
    · refine Ev.pos (bne_iff_ne.2 h2) (Ev.cong (where_j0 l hl true kind id up at_ text) ?_)
      rw [if_pos rfl, if_pos (.inr (.inl h2))]
end Go.Proofs.YtdapbpgooehibaaDoor.P
