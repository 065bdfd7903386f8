/- The reference's helpers on rows answer by places: where a number's row is, where its rows end, who stands under whom, its kids, where a change puts a row; for any rows. Conditions: rows as Go can hold them. -/
import Derived.Test.YtlpfjabfhgfpmaaDoorBaseLog
import Derived.Test.YtlpfjabfhgfpmaaDoorTreeM
import Derived.Test.YtlpfjabfhgfpmaaDoorPx7
import Derived.Test.YtlpfjabfhgfpmaaDoorPx7
import Derived.Test.YtlpfjabfhgfpmaaDoorPx9
import Derived.Test.YtlpfjabfhgfpmaaDoorPx7
import Derived.Test.YtlpfjabfhgfpmaaDoorPx9
namespace Go.Proofs.YtlpfjabfhgfpmaaDoor.P
open Go.RowKit Go.Proofs.YtlpfjabfhgfpmaaDoorW.PrintWords Go.Proofs.YtlpfjabfhgfpmaaDoorW.PrintLast
set_option linter.unusedVariables false
set_option linter.unusedSimpArgs false
theorem wrap_succ (i : Nat) (h : i ≤ 1099511627776) : wrap64 ((i : Int) + 1) = ((i + 1 : Nat) : Int) := wrapS i h
def rowAt (l : List S105) (i : Nat) : S105 := l.getD i z105
theorem rowAt_get {l : List S105} {i : Nat} (h : i < l.length) : rowAt l i = l[i] := by simp [rowAt, h]
def depthAt (l : List S105) (i : Nat) : Int := (rowAt l i).f1
def idAt (l : List S105) (i : Nat) : Int := (rowAt l i).f0
def textAt (l : List S105) (i : Nat) : ByteArray := (rowAt l i).f2
def placeOf (l : List S105) (m : Nat) (id : Int) : Option Nat := Tree.firstB (fun i => idAt l i == id) m
def placeInt : Option Nat → Int
 | none => -1
 | some j => (j : Int)
theorem l2At_loop (l : List S105) (hl : l.length ≤ 1099511627776) (id : Int) : ∀ (d i : Nat), i + d = l.length → (∀ k, k < i → idAt l k ≠ id) → Ev (fun k => spec_l2At.l0 k l id (i : Int)) (placeInt (placeOf l l.length id)) := by
 intro d
 induction d with
 | zero =>
  intro i hi hno
  have : placeOf l l.length id = none := Tree.firstB_none.2 fun k hk => by simpa using hno k (by omega)
  rw [this]
  exact Ev.step (f := fun _ => some (-1)) (fun k => by simp only [spec_l2At.l0]; rw [if_neg (by omega)]) (Ev.pure rfl)
 | succ d ih =>
  intro i hi hno
  have hlt : i < l.length := by omega
  have hr : rd_T105 l (i : Int) = rowAt l i := by simp [rd_T105, rowAt, hlt]
  by_cases h : idAt l i = id
  ·have : placeOf l l.length id = some i := Tree.firstB_some.2 ⟨hlt, by simpa using h, fun k hk => by simpa using hno k hk⟩
   rw [this]
   exact Ev.step (f := fun _ => some (i : Int)) (fun k => by simp only [spec_l2At.l0]; rw [if_pos (by omega), if_pos (by omega), hr, if_pos (show (rowAt l i).f0 = id from h)]) (Ev.pure rfl)
  ·refine Ev.step (fun k => by simp only [spec_l2At.l0]; rw [if_pos (by omega), if_pos (by omega), hr, if_neg (show ¬ (rowAt l i).f0 = id from h), wrap_succ i (by omega)]) ?_
   exact ih (i + 1) (by omega) (fun k hk => by
    by_cases e : k = i
    ·rw [e]; exact h
    ·exact hno k (by omega))
theorem l2At_ev (l : List S105) (hl : l.length ≤ 1099511627776) (id : Int) : Ev (fun k => spec_l2At.f k l id) (placeInt (placeOf l l.length id)) :=
 l2At_loop l hl id l.length 0 (by omega) (fun k hk => absurd hk (by omega))
theorem rd_row (l : List S105) {i : Nat} (hi : i < l.length) : rd_T105 l (i : Int) = rowAt l i := by simp [rd_T105, rowAt, hi]
theorem l2End_loop (l : List S105) (hl : l.length ≤ 1099511627776) (u : Nat) (hu : u < l.length) : ∀ (d e : Nat), u < e → e + d = l.length → (∀ k, u < k → k < e → depthAt l u < depthAt l k) → Ev (fun k => spec_l2End.l0 k l (u : Int) (e : Int)) (Tree.endOf (depthAt l) l.length u : Int) := by
 have hru := rd_row l hu
 intro d
 induction d with
 | zero =>
  intro e h1 h2 h3
  have he : Tree.endOf (depthAt l) l.length u = e := Tree.endOf_unique hu h1 (by omega) h3 (fun h => by omega)
  rw [he]
  exact Ev.step (f := fun _ => some (e : Int)) (fun k => by simp only [spec_l2End.l0]; rw [if_neg (by omega)]) (Ev.pure rfl)
 | succ d ih =>
  intro e h1 h2 h3
  have hel : e < l.length := by omega
  by_cases h : depthAt l u < depthAt l e
  ·refine Ev.step (fun k => by simp only [spec_l2End.l0]; rw [if_pos (by omega), if_pos (by omega), if_pos (by omega), if_pos (by omega), rd_row l hel, hru, if_pos (show (rowAt l e).f1 > (rowAt l u).f1 from h), wrap_succ e (by omega)]) ?_
   exact ih (e + 1) (by omega) (by omega) (fun k k1 k2 => by
    by_cases c : k = e
    ·rw [c]; exact h
    ·exact h3 k k1 (by omega))
  ·have he : Tree.endOf (depthAt l) l.length u = e := Tree.endOf_unique hu h1 (by omega) h3 (fun _ => by omega)
   rw [he]
   exact Ev.step (f := fun _ => some (e : Int)) (fun k => by simp only [spec_l2End.l0]; rw [if_pos (by omega), if_pos (by omega), if_pos (by omega), if_pos (by omega), rd_row l hel, hru, if_neg (show ¬ (rowAt l e).f1 > (rowAt l u).f1 from h)]) (Ev.pure rfl)
theorem l2End_ev (l : List S105) (hl : l.length ≤ 1099511627776) (u : Nat) (hu : u < l.length) : Ev (fun k => spec_l2End.f k l (u : Int)) (Tree.endOf (depthAt l) l.length u : Int) := by
 unfold spec_l2End.f
 rw [wrap_succ u (by omega)]
 exact l2End_loop l hl u hu (l.length - (u + 1)) (u + 1) (by omega) (by omega) (fun k k1 k2 => by omega)
def underB (l : List S105) (id under : Int) : Bool :=
 match placeOf l l.length id, placeOf l l.length under with
  | some i, some u => Tree.metB (depthAt l) u (i + 2) (some i)
  | _, _ => false
theorem place_lt {l : List S105} {id : Int} {i : Nat} (h : placeOf l l.length id = some i) : i < l.length := (Tree.firstB_some.1 h).1
theorem place_id {l : List S105} {id : Int} {i : Nat} (h : placeOf l l.length id = some i) : idAt l i = id := by simpa using (Tree.firstB_some.1 h).2.1
theorem underB_some {l : List S105} {id under : Int} {i u : Nat} (hi : placeOf l l.length id = some i) (hu : placeOf l l.length under = some u) : underB l id under = true ↔ Tree.under (depthAt l) u i := by
 unfold underB; rw [hi, hu]; exact Tree.metB_under _ _ (Nat.le_refl _)
theorem l2Under_ev (l : List S105) (hl : l.length ≤ 1099511627776) (id under : Int) : Ev (fun k => spec_l2Under.f k l id under) (underB l id under) := by
 unfold spec_l2Under.f
 refine Ev.bind (l2At_ev l hl id) (Ev.bind (l2At_ev l hl under) ?_)
 cases hi : placeOf l l.length id with
 | none =>
  have e : underB l id under = false := by unfold underB; rw [hi]
  rw [e]; exact Ev.neg (by simp [placeInt]) (Ev.pure rfl)
 | some i =>
  have hil := place_lt hi
  refine Ev.pos (by simp [placeInt]) ?_
  cases hu : placeOf l l.length under with
  | none =>
   have e : underB l id under = false := by unfold underB; rw [hi, hu]
   rw [e]; exact Ev.neg (by simp [placeInt]) (Ev.pure rfl)
  | some u =>
   have hul := place_lt hu
   refine Ev.pos (by simp [placeInt]) (Ev.bind (l2End_ev l hl u hul) (Ev.bindc (l6In_eq _ _ _) (Ev.pure ?_)))
   obtain ⟨a1, a2, _, _⟩ := Tree.endOf_spec (D := depthAt l) hul
   rw [wrap64_id (by omega), Bool.eq_iff_iff, underB_some hi hu, Tree.under_end hul hil]
   rw [decide_eq_true_iff]
   show ((u : Int) ≤ (i : Int) ∧ (i : Int) ≤ (Tree.endOf (depthAt l) l.length u : Int) - 1) ↔ _
   constructor
   ·rintro ⟨h1, h2⟩; exact ⟨by omega, by omega⟩
   ·rintro ⟨h1, h2⟩; exact ⟨by omega, by omega⟩
def segIds (l : List S105) (c : Int) (i d : Nat) : List Int := ((List.range' i d).filter fun j => decide (depthAt l j = c)).map (idAt l)
theorem segIds_len (l : List S105) (c : Int) (i d : Nat) : (segIds l c i d).length ≤ d := by
 unfold segIds; rw [List.length_map]; exact Nat.le_trans (List.length_filter_le _ _) (by simp)
theorem segIds_succ (l : List S105) (c : Int) (i d : Nat) : segIds l c i (d + 1) = if depthAt l i = c then idAt l i :: segIds l c (i + 1) d else segIds l c (i + 1) d := by
 unfold segIds
 rw [List.range'_succ]
 by_cases h : depthAt l i = c
 ·rw [if_pos h, List.filter_cons_of_pos (by simpa using h)]; rfl
 ·rw [if_neg h, List.filter_cons_of_neg (by simpa using h)]
theorem l2Kids_loop (l : List S105) (hl : l.length ≤ 1099511627776) (u : Nat) (hu : u < l.length) : ∀ (d i : Nat) (out : List Int), u < i → i + d = Tree.endOf (depthAt l) l.length u → out.length ≤ i → Ev (fun k => spec_l2Kids.l0 k l out (u : Int) (i : Int)) (out ++ segIds l (wrap64 (depthAt l u + 1)) i d) := by
 obtain ⟨a1, a2, a3, a4⟩ := Tree.endOf_spec (D := depthAt l) hu
 intro d
 induction d with
 | zero =>
  intro i out h1 h2 h3
  refine Ev.step (fun k => by simp only [spec_l2Kids.l0]; rfl) ?_
  refine Ev.bind (l2End_ev l hl u hu) (Ev.neg (by omega) (Ev.pure ?_))
  simp [segIds]
 | succ d ih =>
  intro i out h1 h2 h3
  have hil : i < l.length := by omega
  refine Ev.step (fun k => by simp only [spec_l2Kids.l0]; rfl) ?_
  refine Ev.bind (l2End_ev l hl u hu) (Ev.pos (by omega) (Ev.pos (by omega) (Ev.pos (by omega) (Ev.pos (by omega) (Ev.pos (by omega) ?_)))))
  simp only [rd_row l hil, rd_row l hu]
  rw [segIds_succ]
  by_cases h : depthAt l i = wrap64 (depthAt l u + 1)
  ·rw [if_pos h]
   refine Ev.pos h (Ev.pos (by omega) ?_)
   rw [wrap_succ i (by omega)]
   have := ih (i + 1) (out ++ [idAt l i]) (by omega) (by omega) (by simp; omega)
   rw [List.append_assoc] at this
   exact this
  ·rw [if_neg h]
   refine Ev.neg h ?_
   rw [wrap_succ i (by omega)]
   exact ih (i + 1) out (by omega) (by omega) (by omega)
def kidIds (l : List S105) (id : Int) : List Int :=
 match placeOf l l.length id with
 | none => []
 | some u => segIds l (wrap64 (depthAt l u + 1)) (u + 1) (Tree.endOf (depthAt l) l.length u - (u + 1))
theorem l2Kids_ev (l : List S105) (hl : l.length ≤ 1099511627776) (id : Int) : Ev (fun k => spec_l2Kids.f k l id) (kidIds l id) := by
 unfold spec_l2Kids.f
 refine Ev.bindc rfl (Ev.bind (l2At_ev l hl id) ?_)
 unfold kidIds
 cases hp : placeOf l l.length id with
 | none => exact Ev.pos (by simp [placeInt]) (Ev.pure rfl)
 | some u =>
  have hu := place_lt hp
  obtain ⟨a1, a2, _, _⟩ := Tree.endOf_spec (D := depthAt l) hu
  refine Ev.neg (by simp [placeInt]) ?_
  simp only [placeInt]
  rw [wrap_succ u (by omega)]
  have := l2Kids_loop l hl u hu (Tree.endOf (depthAt l) l.length u - (u + 1)) (u + 1) [] (by omega) (by omega) (by simp)
  rw [List.nil_append] at this
  exact this
theorem kidIds_mem {l : List S105} {id x : Int} (h : x ∈ kidIds l id) : ∃ j, j < l.length ∧ idAt l j = x := by
 unfold kidIds at h
 cases hp : placeOf l l.length id with
 | none => rw [hp] at h; cases h
 | some u =>
  rw [hp] at h
  obtain ⟨a1, a2, _, _⟩ := Tree.endOf_spec (D := depthAt l) (place_lt hp)
  simp only [segIds, List.mem_map, List.mem_filter, List.mem_range'_1] at h
  obtain ⟨j, ⟨⟨h1, h2⟩, _⟩, e⟩ := h
  exact ⟨j, by omega, e⟩
theorem kidIds_len (l : List S105) (id : Int) : (kidIds l id).length ≤ l.length := by
 unfold kidIds
 cases hp : placeOf l l.length id with
 | none => simp
 | some u =>
  obtain ⟨a1, a2, _, _⟩ := Tree.endOf_spec (D := depthAt l) (place_lt hp)
  exact Nat.le_trans (segIds_len _ _ _ _) (by omega)
def atOf (kids : List Int) (id at_ x : Int) : Int := if at_ ∈ kids ∧ at_ ≠ id then at_ else x
theorem where_loop (kids : List Int) (hk : kids.length ≤ 1099511627776) (kind id up at_ : Int) (text : ByteArray) : ∀ (d i : Nat) (x : Int), i + d = kids.length → Ev (fun k => spec_l3Where.l0 k up x kids (i : Int) kind id up at_ text) (up, atOf (kids.drop i) id at_ x, true) := by
 intro d
 induction d with
 | zero =>
  intro i x hi
  refine Ev.step (f := fun _ => some (up, x, true)) (fun k => by simp only [spec_l3Where.l0]; rw [if_neg (by omega)]) (Ev.pure ?_)
  rw [List.drop_of_length_le (by omega)]
  simp [atOf]
 | succ d ih =>
  intro i x hi
  have hlt : i < kids.length := by omega
  have hd : kids.drop i = kids[i] :: kids.drop (i + 1) := List.drop_eq_getElem_cons hlt
  have hr : rd kids (i : Int) = kids[i] := by simp [rd, hlt]
  by_cases h : kids[i] = at_
  ·by_cases h2 : at_ = id
   ·refine Ev.step (fun k => by simp only [spec_l3Where.l0]; rw [if_pos (by omega), if_pos (by omega), hr, if_pos h, if_pos h2, wrap_succ i (by omega)]) (Ev.cong (ih (i + 1) x (by omega)) ?_)
    simp [atOf, h2]
   ·refine Ev.step (fun k => by simp only [spec_l3Where.l0]; rw [if_pos (by omega), if_pos (by omega), hr, if_pos h, if_neg h2, wrap_succ i (by omega)]) (Ev.cong (ih (i + 1) at_ (by omega)) ?_)
    rw [hd, h]
    simp [atOf, h2]
  ·refine Ev.step (fun k => by simp only [spec_l3Where.l0]; rw [if_pos (by omega), if_pos (by omega), hr, if_neg h, wrap_succ i (by omega)]) (Ev.cong (ih (i + 1) x (by omega)) ?_)
   have h3 : ¬ at_ = kids[i] := fun e => h e.symm
   have hm : (at_ ∈ kids.drop i) = (at_ ∈ kids.drop (i + 1)) := propext ⟨fun m => by rw [hd] at m; exact (List.mem_cons.1 m).resolve_left h3, fun m => by rw [hd]; exact List.mem_cons_of_mem _ m⟩
   unfold atOf
   simp only [hm]
def where3 (l : List S105) (kind id up at_ : Int) : Int × Int × Bool :=
 if kind = 2 ∨ (placeOf l l.length id).isSome ≠ (kind == 3) ∨ ((placeOf l l.length id).isSome = true ∧ underB l up id = true) then (0, 0, false)
 else if (placeOf l l.length up).isSome = true then (up, atOf (kidIds l up) id at_ 0, true) else (3, 0, true)
theorem placeInt_nonneg (o : Option Nat) : decide (placeInt o ≥ 0) = o.isSome := by cases o <;> simp [placeInt]
theorem where_j0 (l : List S105) (hl : l.length ≤ 1099511627776) (b : Bool) (kind id up at_ : Int) (text : ByteArray) : Ev (fun k => spec_l3Where.j0 k l b kind id up at_ text) (if b = true then (0, 0, false) else if (placeOf l l.length up).isSome = true then (up, atOf (kidIds l up) id at_ 0, true) else (3, 0, true)) := by
 cases b with
 | true => exact Ev.step (f := fun _ => some (0, 0, false)) (fun k => by simp only [spec_l3Where.j0]; rw [if_pos trivial]) (Ev.pure rfl)
 | false =>
  refine Ev.step (fun k => by simp only [spec_l3Where.j0]; rw [if_neg (by decide)]) ?_
  refine Ev.bind (l2At_ev l hl up) ?_
  cases hp : placeOf l l.length up with
  | none => exact Ev.pos (by simp [placeInt]) (Ev.pure rfl)
  | some u =>
   have hk := kidIds_len l up
   exact Ev.neg (by simp [placeInt]) (Ev.bind (l2Kids_ev l hl up) (Ev.cong (where_loop (kidIds l up) (by omega) kind id up at_ text (kidIds l up).length 0 0 (by omega)) (by simp)))
theorem l3Where_ev (l : List S105) (hl : l.length ≤ 1099511627776) (kind id up at_ : Int) (text : ByteArray) : Ev (fun k => spec_l3Where.f k l kind id up at_ text) (where3 l kind id up at_) := by
 unfold spec_l3Where.f where3
 refine Ev.bind (l2At_ev l hl id) ?_
 by_cases h1 : kind = 2
 ·exact Ev.pos h1 (Ev.cong (where_j0 l hl true kind id up at_ text) (by rw [if_pos rfl, if_pos (.inl h1)]))
 ·refine Ev.neg h1 ?_
  rw [placeInt_nonneg]
  by_cases h2 : (placeOf l l.length id).isSome = (kind == 3)
  ·refine Ev.neg (by rw [h2]; simp) ?_
   cases hp : placeOf l l.length id with
   | none =>
    refine Ev.neg (by simp [placeInt]) (Ev.cong (where_j0 l hl false kind id up at_ text) ?_)
    rw [hp] at h2
    rw [if_neg (by decide), if_neg (c := kind = 2 ∨ _) (by simp [h1]; simpa using h2)]
   | some i =>
    rw [hp] at h2
    refine Ev.pos (by simp [placeInt]) (Ev.bind (l2Under_ev l hl up id) (Ev.cong (where_j0 l hl (underB l up id) kind id up at_ text) ?_))
    by_cases h3 : underB l up id = true
    ·rw [if_pos h3, if_pos (c := kind = 2 ∨ _) (.inr (.inr ⟨rfl, h3⟩))]
    ·rw [if_neg h3, if_neg (c := kind = 2 ∨ _) (by
      rintro (h | h | h)
      ·exact h1 h
      ·exact h h2
      ·exact h3 h.2)]
  ·refine Ev.pos (bne_iff_ne.2 h2) (Ev.cong (where_j0 l hl true kind id up at_ text) ?_)
   rw [if_pos rfl, if_pos (.inr (.inl h2))]
end Go.Proofs.YtlpfjabfhgfpmaaDoor.P
