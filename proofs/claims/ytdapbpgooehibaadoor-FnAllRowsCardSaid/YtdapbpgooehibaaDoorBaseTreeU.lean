/- The reference's question 'stands under' answers as the plain words on places do. Conditions: rows as Go can hold them. -/
import Derived.Test.YtdapbpgooehibaaDoorBaseTree
import Derived.Test.YtdapbpgooehibaaDoorTreeW
import Derived.Test.YtdapbpgooehibaaDoorPx4
import Derived.Test.YtdapbpgooehibaaDoorPx5
import Derived.Test.YtdapbpgooehibaaDoorPx5
namespace Go.Proofs.YtdapbpgooehibaaDoor.P
open Go.RowKit Go.Proofs.YtdapbpgooehibaaDoorW.PrintWords Go.Proofs.YtdapbpgooehibaaDoorW.PrintLast
set_option linter.unusedVariables false
set_option linter.unusedSimpArgs false

/-- In a valid outline a root is what stands under none. -/
theorem root_par {l : List S29} (hv : tok l [] 0 (-1) = true) {i : Nat} (hi : i < l.length) : rootB (idAt l i) = true ↔ Tree.par (depthAt l) i = none := by
  have h := valid_row hv hi
  rw [rowB_depth h, Tree.par_zero (valid_steps hv) hi]
  have := (rowB_bounds h).2.1
  omega
theorem rd_row (l : List S29) {i : Nat} (hi : i < l.length) : rd_T29 l (i : Int) = rowAt l i := by simp [rd_T29, rowAt, hi]
theorem l2End_loop (l : List S29) (hl : l.length ≤ 1099511627776) (u : Nat) (hu : u < l.length) : ∀ (d e : Nat), u < e → e + d = l.length → (∀ k, u < k → k < e → depthAt l u < depthAt l k) → Ev (fun k => spec_l2End.l0 k l (u : Int) (e : Int)) (Tree.endOf (depthAt l) l.length u : Int) := by
  have hru := rd_row l hu
  intro d
  induction d with
  | zero =>
    intro e h1 h2 h3
    have he : Tree.endOf (depthAt l) l.length u = e := Tree.endOf_unique hu h1 (by omega) h3 (fun h => by omega)
    rw [he]
    exact Ev.step (f := fun _ => some (e : Int)) (fun k => by simp only [spec_l2End.l0]; rw [if_neg (by omega)]) (Ev.pure rfl)
  | succ d ih =>
    intro e h1 h2 h3
    have hel : e < l.length := by omega
    by_cases h : depthAt l u < depthAt l e
    · refine Ev.step (fun k => by simp only [spec_l2End.l0]; rw [if_pos (by omega), if_pos (by omega), if_pos (by omega), if_pos (by omega), rd_row l hel, hru, if_pos (show (rowAt l e).f1 > (rowAt l u).f1 from h), wrap_succ e (by omega)]) ?_
      exact ih (e + 1) (by omega) (by omega) (fun k k1 k2 => by
        by_cases c : k = e
        · rw [c]; exact h
        · exact h3 k k1 (by omega))
    · have he : Tree.endOf (depthAt l) l.length u = e := Tree.endOf_unique hu h1 (by omega) h3 (fun _ => by omega)
      rw [he]
      exact Ev.step (f := fun _ => some (e : Int)) (fun k => by simp only [spec_l2End.l0]; rw [if_pos (by omega), if_pos (by omega), if_pos (by omega), if_pos (by omega), rd_row l hel, hru, if_neg (show ¬ (rowAt l e).f1 > (rowAt l u).f1 from h)]) (Ev.pure rfl)
theorem l2End_ev (l : List S29) (hl : l.length ≤ 1099511627776) (u : Nat) (hu : u < l.length) : Ev (fun k => spec_l2End.f k l (u : Int)) (Tree.endOf (depthAt l) l.length u : Int) := by
  unfold spec_l2End.f
  rw [wrap_succ u (by omega)]
  exact l2End_loop l hl u hu (l.length - (u + 1)) (u + 1) (by omega) (by omega) (fun k k1 k2 => by omega)
/-- Whether a number's row stands under another's: by places. -/
def underB (l : List S29) (id under : Int) : Bool :=
  match placeOf l l.length id, placeOf l l.length under with
    | some i, some u => Tree.metB (depthAt l) u (i + 2) (some i)
    | _, _ => false
theorem place_lt {l : List S29} {id : Int} {i : Nat} (h : placeOf l l.length id = some i) : i < l.length := (Tree.firstB_some.1 h).1
theorem place_id {l : List S29} {id : Int} {i : Nat} (h : placeOf l l.length id = some i) : idAt l i = id := by simpa using (Tree.firstB_some.1 h).2.1
theorem underB_some {l : List S29} {id under : Int} {i u : Nat} (hi : placeOf l l.length id = some i) (hu : placeOf l l.length under = some u) : underB l id under = true ↔ Tree.under (depthAt l) u i := by
  unfold underB; rw [hi, hu]; exact Tree.metB_under _ _ (Nat.le_refl _)
theorem l2Under_ev (l : List S29) (hl : l.length ≤ 1099511627776) (id under : Int) : Ev (fun k => spec_l2Under.f k l id under) (underB l id under) := by
  unfold spec_l2Under.f
  refine Ev.bind (l2At_ev l hl id) (Ev.bind (l2At_ev l hl under) ?_)
  cases hi : placeOf l l.length id with
  | none =>
    have e : underB l id under = false := by unfold underB; rw [hi]
    rw [e]; exact Ev.neg (by simp [placeInt]) (Ev.pure rfl)
  | some i =>
    have hil := place_lt hi
    refine Ev.pos (by simp [placeInt]) ?_
    cases hu : placeOf l l.length under with
    | none =>
      have e : underB l id under = false := by unfold underB; rw [hi, hu]
      rw [e]; exact Ev.neg (by simp [placeInt]) (Ev.pure rfl)
    | some u =>
      have hul := place_lt hu
      refine Ev.pos (by simp [placeInt]) (Ev.bind (l2End_ev l hl u hul) (Ev.bindc (l6In_eq _ _ _) (Ev.pure ?_)))
      obtain ⟨a1, a2, _, _⟩ := Tree.endOf_spec (D := depthAt l) hul
      rw [wrap64_id (by omega), Bool.eq_iff_iff, underB_some hi hu, Tree.under_end hul hil]
      rw [decide_eq_true_iff]
      show ((u : Int) ≤ (i : Int) ∧ (i : Int) ≤ (Tree.endOf (depthAt l) l.length u : Int) - 1) ↔ _
      constructor
      · rintro ⟨h1, h2⟩; exact ⟨by omega, by omega⟩
      · rintro ⟨h1, h2⟩; exact ⟨by omega, by omega⟩
theorem treeUnder_eq (l : List S29) (id under : Int) : treeUnder l id under = if tok l [] 0 (-1) = true then underB l id under else false := rfl
/-- The numbers one deeper than u, from a place on. -/
def segIds (l : List S29) (c : Int) (i d : Nat) : List Int := ((List.range' i d).filter fun j => decide (depthAt l j = c)).map (idAt l)
theorem segIds_len (l : List S29) (c : Int) (i d : Nat) : (segIds l c i d).length ≤ d := by
  unfold segIds; rw [List.length_map]; exact Nat.le_trans (List.length_filter_le _ _) (by simp)
theorem segIds_succ (l : List S29) (c : Int) (i d : Nat) : segIds l c i (d + 1) = if depthAt l i = c then idAt l i :: segIds l c (i + 1) d else segIds l c (i + 1) d := by
  unfold segIds
  rw [List.range'_succ]
  by_cases h : depthAt l i = c
  · rw [if_pos h, List.filter_cons_of_pos (by simpa using h)]; rfl
  · rw [if_neg h, List.filter_cons_of_neg (by simpa using h)]
theorem l2Kids_loop (l : List S29) (hl : l.length ≤ 1099511627776) (u : Nat) (hu : u < l.length) : ∀ (d i : Nat) (out : List Int), u < i → i + d = Tree.endOf (depthAt l) l.length u → out.length ≤ i → Ev (fun k => spec_l2Kids.l0 k l out (u : Int) (i : Int)) (out ++ segIds l (wrap64 (depthAt l u + 1)) i d) := by
  obtain ⟨a1, a2, a3, a4⟩ := Tree.endOf_spec (D := depthAt l) hu
  intro d
  induction d with
  | zero =>
    intro i out h1 h2 h3
    refine Ev.step (fun k => by simp only [spec_l2Kids.l0]; rfl) ?_
    refine Ev.bind (l2End_ev l hl u hu) (Ev.neg (by omega) (Ev.pure ?_))
    simp [segIds]
  | succ d ih =>
    intro i out h1 h2 h3
    have hil : i < l.length := by omega
    refine Ev.step (fun k => by simp only [spec_l2Kids.l0]; rfl) ?_
    refine Ev.bind (l2End_ev l hl u hu) (Ev.pos (by omega) (Ev.pos (by omega) (Ev.pos (by omega) (Ev.pos (by omega) (Ev.pos (by omega) ?_)))))
    simp only [rd_row l hil, rd_row l hu]
    rw [segIds_succ]
    by_cases h : depthAt l i = wrap64 (depthAt l u + 1)
    · rw [if_pos h]
      refine Ev.pos h (Ev.pos (by omega) ?_)
      rw [wrap_succ i (by omega)]
      have := ih (i + 1) (out ++ [idAt l i]) (by omega) (by omega) (by simp; omega)
      rw [List.append_assoc] at this
      exact this
    · rw [if_neg h]
      refine Ev.neg h ?_
      rw [wrap_succ i (by omega)]
      exact ih (i + 1) out (by omega) (by omega) (by omega)
/-- The rows right under a number's: for any rows. -/
def kidIds (l : List S29) (id : Int) : List Int :=
  match placeOf l l.length id with
  | none => []
  | some u => segIds l (wrap64 (depthAt l u + 1)) (u + 1) (Tree.endOf (depthAt l) l.length u - (u + 1))
theorem l2Kids_ev (l : List S29) (hl : l.length ≤ 1099511627776) (id : Int) : Ev (fun k => spec_l2Kids.f k l id) (kidIds l id) := by
  unfold spec_l2Kids.f
  refine Ev.bindc rfl (Ev.bind (l2At_ev l hl id) ?_)
  unfold kidIds
  cases hp : placeOf l l.length id with
  | none => exact Ev.pos (by simp [placeInt]) (Ev.pure rfl)
  | some u =>
    have hu := place_lt hp
    obtain ⟨a1, a2, _, _⟩ := Tree.endOf_spec (D := depthAt l) hu
    refine Ev.neg (by simp [placeInt]) ?_
    simp only [placeInt]
    rw [wrap_succ u (by omega)]
    have := l2Kids_loop l hl u hu (Tree.endOf (depthAt l) l.length u - (u + 1)) (u + 1) [] (by omega) (by omega) (by simp)
    rw [List.nil_append] at this
    exact this
theorem kidIds_mem {l : List S29} {id x : Int} (h : x ∈ kidIds l id) : ∃ j, j < l.length ∧ idAt l j = x := by
  unfold kidIds at h
  cases hp : placeOf l l.length id with
  | none => rw [hp] at h; cases h
  | some u =>
    rw [hp] at h
    obtain ⟨a1, a2, _, _⟩ := Tree.endOf_spec (D := depthAt l) (place_lt hp)
    simp only [segIds, List.mem_map, List.mem_filter, List.mem_range'_1] at h
    obtain ⟨j, ⟨⟨h1, h2⟩, _⟩, e⟩ := h
    exact ⟨j, by omega, e⟩
theorem kidIds_len (l : List S29) (id : Int) : (kidIds l id).length ≤ l.length := by
  unfold kidIds
  cases hp : placeOf l l.length id with
  | none => simp
  | some u =>
    obtain ⟨a1, a2, _, _⟩ := Tree.endOf_spec (D := depthAt l) (place_lt hp)
    exact Nat.le_trans (segIds_len _ _ _ _) (by omega)
theorem range_cut (p : Nat → Bool) {n a e : Nat} (h1 : a ≤ e) (h2 : e ≤ n) : (List.range n).filter (fun j => decide (a ≤ j) && decide (j < e) && p j) = (List.range' a (e - a)).filter p := by
  have e1 : List.range n = List.range' 0 a ++ (List.range' a (e - a) ++ List.range' e (n - e)) := by
    rw [List.range_eq_range']
    have x1 : List.range' a (e - a) ++ List.range' e (n - e) = List.range' a (n - a) := by
      have := List.range'_append (s := a) (m := e - a) (n := n - e) (step := 1)
      rw [show a + 1 * (e - a) = e by omega, show e - a + (n - e) = n - a by omega] at this
      exact this
    rw [x1]
    have := List.range'_append (s := 0) (m := a) (n := n - a) (step := 1)
    rw [show 0 + 1 * a = a by omega, show a + (n - a) = n by omega] at this
    exact this.symm
  rw [e1, List.filter_append, List.filter_append]
  rw [List.filter_eq_nil_iff.2 (fun j hj => by have := List.mem_range'_1.1 hj; simp; omega), List.nil_append]
  have e3 : (List.range' e (n - e)).filter (fun j => decide (a ≤ j) && decide (j < e) && p j) = [] := List.filter_eq_nil_iff.2 (fun j hj => by have := List.mem_range'_1.1 hj; simp; omega)
  rw [e3, List.append_nil]
  apply List.filter_congr
  intro j hj
  have := List.mem_range'_1.1 hj
  simp; omega
end Go.Proofs.YtdapbpgooehibaaDoor.P
