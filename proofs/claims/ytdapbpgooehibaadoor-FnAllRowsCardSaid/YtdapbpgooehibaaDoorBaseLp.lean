/- The laws' own words on rows and numbers answer as plain words do; what holds in a valid outline of places, kids and roots. Conditions: rows as Go can hold them. -/
import Derived.Test.YtdapbpgooehibaaDoorBaseTreeU
namespace Go.Proofs.YtdapbpgooehibaaDoor.P
open Go.RowKit Go.Proofs.YtdapbpgooehibaaDoorW.PrintWords Go.Proofs.YtdapbpgooehibaaDoorW.PrintLast
set_option linter.unusedVariables false
set_option linter.unusedSimpArgs false

theorem rd_int' (l : List Int) {i : Nat} (h : i < l.length) : rd l (i : Int) = l[i] := by simp [rd, h]
/-! ### in a valid outline -/
theorem place_self {l : List S29} (hv : tok l [] 0 (-1) = true) {i : Nat} (hi : i < l.length) : placeOf l l.length (idAt l i) = some i :=
  Tree.firstB_some.2 ⟨hi, by simp, fun k hk => by
    simp only [beq_eq_false_iff_ne]
    intro e
    have := valid_id hv (by omega) hi e; omega⟩
theorem id_pos {l : List S29} (hv : tok l [] 0 (-1) = true) {i : Nat} (hi : i < l.length) : 1 ≤ idAt l i ∧ idAt l i ≤ 36 := by
  have h := valid_row hv hi
  unfold rowB at h
  by_cases hr : rootB (idAt l i) = true
  · have := rootB_iff.1 hr; omega
  · rw [if_neg hr, Bool.and_eq_true, Bool.and_eq_true] at h
    have := madeB_iff.1 h.1.1; omega
theorem up_self {l : List S29} (hv : tok l [] 0 (-1) = true) {i : Nat} (hi : i < l.length) : treeUp l (idAt l i) = (upId l (Tree.par (depthAt l) i), true) := by
  unfold treeUp
  rw [if_pos hv, place_self hv hi]
  dsimp only
  cases Tree.par (depthAt l) i <;> rfl
theorem under_self {l : List S29} (hv : tok l [] 0 (-1) = true) {i u : Nat} (hi : i < l.length) (hu : u < l.length) : treeUnder l (idAt l i) (idAt l u) = true ↔ Tree.under (depthAt l) u i := by
  rw [treeUnder_eq, if_pos hv, underB_some (place_self hv hi) (place_self hv hu)]
/-- A number's row that is there stands at a place. -/
theorem place_of {l : List S29} {id : Int} {i : Nat} (h : placeOf l l.length id = some i) : i < l.length ∧ id = idAt l i := ⟨place_lt h, (place_id h).symm⟩
theorem under_places {l : List S29} {id un : Int} (h : treeUnder l id un = true) : tok l [] 0 (-1) = true ∧ ∃ i u, placeOf l l.length id = some i ∧ placeOf l l.length un = some u := by
  rw [treeUnder_eq] at h
  by_cases hv : tok l [] 0 (-1) = true
  · rw [if_pos hv] at h
    refine ⟨hv, ?_⟩
    unfold underB at h
    cases hi : placeOf l l.length id with
    | none => rw [hi] at h; cases h
    | some i =>
      cases hu : placeOf l l.length un with
      | none => rw [hi, hu] at h; cases h
      | some u => exact ⟨i, u, rfl, rfl⟩
  · rw [if_neg hv] at h; cases h
theorem under_three {l : List S29} {a b c : Int} (h1 : treeUnder l a b = true) (h2 : treeUnder l b c = true) : treeUnder l a c = true := by
  obtain ⟨hv, i, u, hi, hu⟩ := under_places h1
  obtain ⟨_, u', o, hu', ho⟩ := under_places h2
  rw [hu] at hu'; cases hu'
  obtain ⟨hil, rfl⟩ := place_of hi
  obtain ⟨hul, rfl⟩ := place_of hu
  obtain ⟨hol, rfl⟩ := place_of ho
  rw [under_self hv hil hul] at h1
  rw [under_self hv hul hol] at h2
  rw [under_self hv hil hol]
  exact Tree.under_trans h2 h1
/-- How many rows are roots, told by the check itself. -/
theorem tok_roots : ∀ (rest : List S29) (seen : List Int) (ro de : Int), tok rest seen ro de = true → ((rest.countP fun x => rootB x.f0 : Nat) : Int) + ro = 3
  | [], _, ro, _, h => by simp only [tok, beq_iff_eq] at h; simp [h]
  | x :: rest, seen, ro, de, h => by
    simp only [tok] at h
    by_cases hc : rowB x.f0 x.f1 x.f2 = true ∧ x.f0 ∉ seen ∧ x.f1 ≤ de + 1
    · rw [if_pos hc] at h
      by_cases h1 : rootB x.f0 = true
      · rw [if_pos h1] at h
        by_cases h2 : x.f0 = ro + 1
        · rw [if_pos h2] at h
          have := tok_roots rest _ _ _ h
          rw [List.countP_cons_of_pos (by simpa using h1)]; omega
        · rw [if_neg h2] at h; cases h
      · rw [if_neg h1] at h
        have := tok_roots rest _ _ _ h
        rw [List.countP_cons_of_neg (by simpa using h1)]; omega
    · rw [if_neg hc] at h; cases h
theorem rows_range (l : List S29) : (List.range l.length).map (rowAt l) = l := by
  apply List.ext_getElem
  · simp
  · intro i h1 h2
    simp [rowAt_get h2]
theorem roots_three {l : List S29} (hv : tok l [] 0 (-1) = true) : (List.range l.length).countP (fun i => rootB (idAt l i)) = 3 := by
  have h := tok_roots l [] 0 (-1) hv
  have e : l.countP (fun x => rootB x.f0) = (List.range l.length).countP (fun i => rootB (idAt l i)) := by
    conv => lhs; rw [← rows_range l]
    rw [List.countP_map]; rfl
  omega
end Go.Proofs.YtdapbpgooehibaaDoor.P
