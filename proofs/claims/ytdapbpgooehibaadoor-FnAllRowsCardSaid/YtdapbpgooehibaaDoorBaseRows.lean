/- What the helpers on rows answer, and that the reference's TreeOk answers as the plain word 'tok' does. Conditions: 64-bit numbers, texts of at most 2^47 bytes, at most 2^40 rows. -/
import Derived.Test.YtdapbpgooehibaaDoorBaseRowOk
import Derived.Test.YtdapbpgooehibaaDoorTreeOkC
import Derived.Test.YtdapbpgooehibaaDoorPx2
namespace Go.Proofs.YtdapbpgooehibaaDoor.P
open Go.RowKit Go.Proofs.YtdapbpgooehibaaDoorW.PrintWords Go.Proofs.YtdapbpgooehibaaDoorW.PrintLast
set_option linter.unusedVariables false
set_option linter.unusedSimpArgs false

theorem Ev.cong {α : Type} {g : Nat → Option α} {r s : α} (h : Ev g r) (e : r = s) : Ev g s := e ▸ h
/-- Rows as Go can hold them. -/
def RowsFit (l : List S29) : Prop := l.length ≤ 1099511627776 ∧ ∀ x ∈ l, (-9223372036854775808 ≤ x.f0 ∧ x.f0 ≤ 9223372036854775807) ∧ (-9223372036854775808 ≤ x.f1 ∧ x.f1 ≤ 9223372036854775807) ∧ x.f2.size ≤ 140737488351232
theorem rd_at (l : List S29) (i : Nat) (h : i < l.length) : rd_T29 l (i : Int) = l[i] := by simp [rd_T29, h]
theorem rd_at' (l : List S29) (h : 0 < l.length) : rd_T29 l 0 = l[0] := by simp [rd_T29, h]
theorem wrap_succ (i : Nat) (h : i ≤ 1099511627776) : wrap64 ((i : Int) + 1) = ((i + 1 : Nat) : Int) := by
  rw [wrap64_id (by omega)]; omega
theorem wrap_pred (i : Nat) (h : i ≤ 1099511627776) (h1 : 1 ≤ i) : wrap64 ((i : Int) - 1) = ((i - 1 : Nat) : Int) := by
  rw [wrap64_id (by omega)]; omega

/-- The reference looks for a number twice. -/
theorem dup_loop (l : List S29) (hl : l.length ≤ 1099511627776) (ro : Int) (i : Nat) (hi : i < l.length) (r : Bool) (hn : Ev (fun k => spec_TreeOk.l0 k l ro ((i + 1 : Nat) : Int)) r) :
    ∀ (d j : Nat), j + d = i → Ev (fun k => spec_TreeOk.l1 k l ro (i : Int) (j : Int)) (if l[i].f0 ∈ ((l.take i).drop j).map (·.f0) then false else r) := by
  intro d
  induction d with
  | zero =>
    intro j hj
    have : j = i := by omega
    subst this
    rw [if_neg (by simp)]
    refine Ev.step (fun k => by simp only [spec_TreeOk.l1]; rw [if_neg (by omega), wrap_succ j (by omega)]) hn
  | succ d ih =>
    intro j hj
    have hj2 : j < l.length := by omega
    have e : (l.take i).drop j = l[j] :: (l.take i).drop (j + 1) := by
      rw [List.drop_eq_getElem_cons (by simp; omega)]; simp
    rw [e, List.map_cons]
    by_cases h : l[j].f0 = l[i].f0
    · rw [if_pos (by rw [h]; exact List.mem_cons_self ..)]
      refine Ev.step (f := fun _ => some false) (fun k => by simp only [spec_TreeOk.l1]; rw [if_pos (by omega), if_pos (by omega), if_pos (by omega), if_pos (by omega), if_pos (by omega), rd_at l j hj2, rd_at l i hi, if_pos h]) (Ev.pure rfl)
    · refine Ev.step (fun k => by simp only [spec_TreeOk.l1]; rw [if_pos (by omega), if_pos (by omega), if_pos (by omega), if_pos (by omega), if_pos (by omega), rd_at l j hj2, rd_at l i hi, if_neg h, wrap_succ j (by omega)]) ?_
      have h2 := ih (j + 1) (by omega)
      have e2 : (l[i].f0 ∈ l[j].f0 :: ((l.take i).drop (j + 1)).map (·.f0)) ↔ l[i].f0 ∈ ((l.take i).drop (j + 1)).map (·.f0) := by
        simp only [List.mem_cons]; exact ⟨fun h3 => h3.resolve_left (fun h4 => h h4.symm), .inr⟩
      simp only [e2]
      exact h2
/-- One row of the reference's loop, where the row ahead allows its depth. -/
theorem tree_row (l : List S29) (hl : RowsFit l) (ro : Int) (hr : 0 ≤ ro ∧ ro ≤ 3) (i : Nat) (hi : i < l.length) (r : Bool)
    (hn : (rowB l[i].f0 l[i].f1 l[i].f2 = true) → (rootB l[i].f0 = true → l[i].f0 = ro + 1) → Ev (fun k => spec_TreeOk.l0 k l (if rootB l[i].f0 = true then ro + 1 else ro) ((i + 1 : Nat) : Int)) r) (hb : rowB l[i].f0 l[i].f1 l[i].f2 = true) :
    Ev (fun k => spec_TreeOk.j1 k l ro (i : Int) false) (if (rootB l[i].f0 = true → l[i].f0 = ro + 1) ∧ l[i].f0 ∉ (l.take i).map (·.f0) then r else false) := by
  have hl1 := hl.1
  refine Ev.step (fun k => by simp only [spec_TreeOk.j1]; rw [if_neg (by decide), if_pos (by omega), if_pos (by omega), rd_at l i hi]) ?_
  refine Ev.bindc (l1Root_eq _) ?_
  by_cases hrt : rootB l[i].f0 = true
  · refine Ev.pos hrt ?_
    rw [wrap64_id (a := ro + 1) (by omega)]
    by_cases he : l[i].f0 = ro + 1
    · refine Ev.pos he ?_
      have h2 := hn hb (fun _ => he)
      rw [if_pos hrt] at h2
      refine Ev.step (fun k => by simp only [spec_TreeOk.j2]; rfl) ?_
      have h3 := dup_loop l hl1 (ro + 1) i hi r h2 i 0 (by omega)
      rw [List.drop_zero] at h3
      by_cases hs : l[i].f0 ∈ (l.take i).map (·.f0)
      · rw [if_pos hs] at h3; rw [if_neg (fun h => h.2 hs)]; exact h3
      · rw [if_neg hs] at h3; rw [if_pos ⟨fun _ => he, hs⟩]; exact h3
    · rw [if_neg (fun h => he (h.1 hrt))]
      exact Ev.neg he (Ev.pure rfl)
  · refine Ev.neg hrt ?_
    have h2 := hn hb (fun h => absurd h hrt)
    rw [if_neg hrt] at h2
    refine Ev.step (fun k => by simp only [spec_TreeOk.j2]; rfl) ?_
    have h3 := dup_loop l hl1 ro i hi r h2 i 0 (by omega)
    rw [List.drop_zero] at h3
    by_cases hs : l[i].f0 ∈ (l.take i).map (·.f0)
    · rw [if_pos hs] at h3; rw [if_neg (fun h => h.2 hs)]; exact h3
    · rw [if_neg hs] at h3; rw [if_pos ⟨fun h => absurd h hrt, hs⟩]; exact h3
theorem tok_step (x : S29) (rest : List S29) (seen : List Int) (ro de : Int) :
    tok (x :: rest) seen ro de = (if rowB x.f0 x.f1 x.f2 = true ∧ x.f1 ≤ de + 1 then (if (rootB x.f0 = true → x.f0 = ro + 1) ∧ x.f0 ∉ seen then tok rest (seen ++ [x.f0]) (if rootB x.f0 = true then ro + 1 else ro) x.f1 else false) else false) := by
  simp only [tok]
  by_cases h1 : rowB x.f0 x.f1 x.f2 = true <;> by_cases h2 : x.f1 ≤ de + 1 <;> by_cases h3 : x.f0 ∈ seen <;> by_cases h4 : rootB x.f0 = true <;> by_cases h5 : x.f0 = ro + 1 <;> first | simp [h1, h2, h3, h4, eq_true h5] | simp [h1, h2, h3, h4, eq_false h5]
/-- The reference's loop from its second row on. -/
theorem tree_loop (l : List S29) (hl : RowsFit l) : ∀ (d i : Nat) (ro : Int) (h1 : 1 ≤ i) (hd : i + d = l.length), 0 ≤ ro ∧ ro ≤ 3 → (0 ≤ (l[i - 1]'(by omega)).f1 ∧ (l[i - 1]'(by omega)).f1 ≤ 18) →
    Ev (fun k => spec_TreeOk.l0 k l ro (i : Int)) (tok (l.drop i) ((l.take i).map (·.f0)) ro (l[i - 1]'(by omega)).f1 && ((l[0]'(by omega)).f0 == 1)) := by
  intro d
  induction d with
  | zero =>
    intro i ro h1 hd hr hp
    rw [List.drop_of_length_le (by omega)]
    simp only [tok]
    by_cases h3 : ro = 3
    · refine Ev.step (f := fun _ => some ((l[0]'(by omega)).f0 == 1)) (fun k => by simp only [spec_TreeOk.l0]; rw [if_neg (by omega), if_pos h3, if_pos (by omega), rd_at' l (by omega)]) (Ev.pure ?_)
      rw [beq_iff_eq.2 h3, Bool.true_and]
    · refine Ev.step (f := fun _ => some false) (fun k => by simp only [spec_TreeOk.l0]; rw [if_neg (by omega), if_neg h3]) (Ev.pure ?_)
      rw [beq_eq_false_iff_ne.2 h3, Bool.false_and]
  | succ d ih =>
    intro i ro h1 hd hr hp
    have hi : i < l.length := by omega
    have hl1 := hl.1
    obtain ⟨f0, f1, f2⟩ := hl.2 l[i] (List.getElem_mem _)
    refine Ev.step (fun k => by simp only [spec_TreeOk.l0]; rw [if_pos (by omega), if_pos (by omega), rd_at l i hi]) ?_
    refine Ev.bind (specRowOk_ev _ _ _ f0 (by omega)) ?_
    rw [List.drop_eq_getElem_cons hi, tok_step]
    by_cases hb : rowB l[i].f0 l[i].f1 l[i].f2 = true
    · refine Ev.pos hb (Ev.pos (by omega) ?_)
      rw [wrap_pred i (by omega) h1]
      refine Ev.pos (by omega) (Ev.pos (by omega) ?_)
      rw [rd_at l (i - 1) (by omega), wrap64_id (a := (l[i - 1]'(by omega)).f1 + 1) (by omega)]
      by_cases hd2 : l[i].f1 ≤ (l[i - 1]'(by omega)).f1 + 1
      · rw [if_pos ⟨hb, hd2⟩, decide_eq_false (by omega)]
        have hbd := rowB_bounds hb
        have h2 := tree_row l hl ro hr i hi (tok (l.drop (i + 1)) ((l.take i).map (·.f0) ++ [l[i].f0]) (if rootB l[i].f0 = true then ro + 1 else ro) l[i].f1 && ((l[0]'(by omega)).f0 == 1)) (fun _ hrr => by
          have h3 := ih (i + 1) (if rootB l[i].f0 = true then ro + 1 else ro) (by omega) (by omega) (by
            split
            · rename_i hrt; have := hrr hrt; have := (rootB_iff.1 hrt); omega
            · exact hr) (by simpa using hbd.2)
          have e : (l.take (i + 1)).map (·.f0) = (l.take i).map (·.f0) ++ [l[i].f0] := by rw [List.take_succ_eq_append_getElem hi, List.map_append]; rfl
          rw [e] at h3
          simpa using h3) hb
        split
        · rename_i h4; rw [if_pos h4] at h2; exact h2
        · rename_i h4; rw [if_neg h4] at h2; rw [Bool.false_and]; exact h2
      · rw [if_neg (fun h => hd2 h.2), decide_eq_true (by omega), Bool.false_and]
        exact Ev.step (f := fun _ => some false) (fun k => by simp only [spec_TreeOk.j1, if_true]) (Ev.pure rfl)
    · rw [if_neg (fun h => hb h.1), Bool.false_and]
      exact Ev.neg hb (Ev.step (f := fun _ => some false) (fun k => by simp only [spec_TreeOk.j1, if_true]) (Ev.pure rfl))
theorem rowB_depth {id d : Int} {t : ByteArray} (h : rowB id d t = true) : rootB id = true ↔ d ≤ 0 := by
  unfold rowB at h
  constructor
  · intro hr; rw [if_pos hr] at h; simp at h; omega
  · intro hd
    by_cases hr : rootB id = true
    · exact hr
    · rw [if_neg hr] at h; simp at h; omega
/-- The reference's TreeOk. -/
theorem specTreeOk_ev (l : List S29) (hl : RowsFit l) : Ev (fun k => spec_TreeOk.f k l) (tok l [] 0 (-1)) := by
  unfold spec_TreeOk.f
  by_cases h0 : l.length = 0
  · obtain rfl := List.eq_nil_of_length_eq_zero h0
    exact Ev.step (f := fun _ => some false) (fun k => by simp only [spec_TreeOk.l0]; rw [if_neg (by simp), if_neg (by omega)]) (Ev.pure rfl)
  · have hi : 0 < l.length := by omega
    have hl1 := hl.1
    obtain ⟨f0, f1, f2⟩ := hl.2 l[0] (List.getElem_mem _)
    have ed : l = l[0] :: l.drop 1 := by
      have := List.drop_eq_getElem_cons hi
      simpa using this
    refine Ev.step (fun k => by simp only [spec_TreeOk.l0]; rw [if_pos (by omega), if_pos (by omega), rd_at' l hi]) ?_
    refine Ev.bind (specRowOk_ev _ _ _ f0 (by omega)) ?_
    rw [show tok l [] 0 (-1) = tok (l[0] :: l.drop 1) [] 0 (-1) from congrArg (fun z => tok z [] 0 (-1)) ed, tok_step]
    by_cases hb : rowB l[0].f0 l[0].f1 l[0].f2 = true
    · refine Ev.pos hb (Ev.neg (by omega) ?_)
      have hbd := rowB_bounds hb
      have hdp := rowB_depth hb
      have h2 := tree_row l hl 0 (by omega) 0 hi (tok (l.drop 1) [l[0].f0] (if rootB l[0].f0 = true then 0 + 1 else 0) l[0].f1 && (l[0].f0 == 1)) (fun _ hrr => by
        have h3 := tree_loop l hl (l.length - 1) 1 (if rootB l[0].f0 = true then 0 + 1 else 0) (by omega) (by omega) (by split <;> omega) (by simpa using hbd.2)
        have e : (l.take 1).map (·.f0) = [l[0].f0] := by rw [List.take_succ_eq_append_getElem hi, List.map_append]; rfl
        rw [e] at h3
        simpa using h3) hb
      have h5 : (l.take 0).map (·.f0) = [] := by simp
      rw [h5] at h2
      refine Ev.cong h2 ?_
      by_cases hd : l[0].f1 ≤ 0
      · have hr := hdp.2 hd
        have hBC : rowB l[0].f0 l[0].f1 l[0].f2 = true ∧ l[0].f1 ≤ -1 + 1 := ⟨hb, by omega⟩
        rw [if_pos hBC]
        by_cases hid : l[0].f0 = 1
        · have hA : (rootB l[0].f0 = true → l[0].f0 = 0 + 1) ∧ l[0].f0 ∉ [] := ⟨fun _ => by omega, by simp⟩
          rw [if_pos hA, if_pos hA, beq_iff_eq.2 hid, Bool.and_true, List.nil_append]
        · have hA : ¬ ((rootB l[0].f0 = true → l[0].f0 = 0 + 1) ∧ l[0].f0 ∉ []) := fun h => hid (by have := h.1 hr; omega)
          rw [if_neg hA, if_neg hA]
      · have hBC : ¬ (rowB l[0].f0 l[0].f1 l[0].f2 = true ∧ l[0].f1 ≤ -1 + 1) := fun h => hd (by have := h.2; omega)
        rw [if_neg hBC]
        have hr : ¬ rootB l[0].f0 = true := fun h => hd (hdp.1 h)
        have hn1 : (l[0].f0 == 1) = false := beq_eq_false_iff_ne.2 (fun h => hr (by rw [h]; decide))
        rw [hn1, Bool.and_false]; simp
    · have hBC : ¬ (rowB l[0].f0 l[0].f1 l[0].f2 = true ∧ l[0].f1 ≤ -1 + 1) := fun h => hb h.1
      rw [if_neg hBC]
      exact Ev.neg hb (Ev.step (f := fun _ => some false) (fun k => by simp only [spec_TreeOk.j1, if_true]) (Ev.pure rfl))
end Go.Proofs.YtdapbpgooehibaaDoor.P
