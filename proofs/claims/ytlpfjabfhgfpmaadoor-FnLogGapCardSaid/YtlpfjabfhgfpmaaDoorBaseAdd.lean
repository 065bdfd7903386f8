/- LogAdd of the program and of the reference answer by one plain word. Conditions: 64-bit numbers, texts of at most 2^47 bytes, at most 2^40 entries. -/
import Derived.Test.YtlpfjabfhgfpmaaDoorBaseLog
import Derived.Test.YtlpfjabfhgfpmaaDoorPx3
import Derived.Test.YtlpfjabfhgfpmaaDoorPx4
import Derived.Test.YtlpfjabfhgfpmaaDoorPx5
namespace Go.Proofs.YtlpfjabfhgfpmaaDoor.P
open Go.RowKit Go.Proofs.YtlpfjabfhgfpmaaDoorW.PrintWords Go.Proofs.YtlpfjabfhgfpmaaDoorW.PrintLast
set_option linter.unusedVariables false
set_option linter.unusedSimpArgs false
def sameE (x y : S26) : Bool := (x.f0 == y.f0 && (x.f1 == y.f1 && ((x.f2.f0 == y.f2.f0 && (x.f2.f1 == y.f2.f1 && (x.f2.f2 == y.f2.f2 && (x.f2.f3 == y.f2.f3 && (x.f2.f4.toList == y.f2.f4.toList))))))))
theorem sameE_comm (x y : S26) : sameE x y = sameE y x := by
 unfold sameE
 rw [BEq.comm (a := x.f0), BEq.comm (a := x.f1), BEq.comm (a := x.f2.f0), BEq.comm (a := x.f2.f1), BEq.comm (a := x.f2.f2), BEq.comm (a := x.f2.f3), BEq.comm (a := x.f2.f4.toList)]
theorem sameE_who {x y : S26} (h : sameE x y = true) : x.f0 = y.f0 ∧ x.f1 = y.f1 := by
 unfold sameE at h
 simp only [Bool.and_eq_true, beq_iff_eq] at h
 exact ⟨h.1, h.2.1⟩
def hasE (l : List S26) (e : S26) : Bool := l.any fun x => sameE x e
def logAdd (l : List S26) (e : S26) : List S26 × Int :=
 if logB l = true ∧ entB e = true then
  (if hasE l e = true then (l, 0) else if e.f1 = ((l.map whoOf).count e.f0 : Int) + 1 ∧ l.length < 40 then (l ++ [e], 1) else (l, -1))
 else ([], -1)
theorem has_loop (l : List S26) (hl : l.length ≤ 1099511627776) (e : S26) : ∀ (d i : Nat), i + d = l.length → Ev (fun k => spec_l12Has.l0 k l (i : Int) e.f0 e.f1 e.f2.f0 e.f2.f1 e.f2.f2 e.f2.f3 e.f2.f4) (hasE (l.drop i) e) := by
 intro d
 induction d with
 | zero =>
  intro i hi
  refine Ev.step (f := fun _ => some false) (fun k => by simp only [spec_l12Has.l0]; rw [if_neg (by omega)]) (Ev.pure ?_)
  rw [List.drop_of_length_le (by omega)]; rfl
 | succ d ih =>
  intro i hi
  have hlt : i < l.length := by omega
  rw [List.drop_eq_getElem_cons hlt]
  unfold hasE
  rw [List.any_cons]
  refine Ev.step (f := fun k => if sameE l[i] e = true then some true else spec_l12Has.l0 k l ((i + 1 : Nat) : Int) e.f0 e.f1 e.f2.f0 e.f2.f1 e.f2.f2 e.f2.f3 e.f2.f4) (fun k => by simp only [spec_l12Has.l0]; rw [if_pos (by omega), if_pos (by omega), rd_ent l i hlt, wrapS i (by omega)]; rfl) ?_
  by_cases h : sameE l[i] e = true
  ·rw [h, Bool.true_or]; exact Ev.pos rfl (Ev.pure rfl)
  ·rw [Bool.eq_false_iff.2 h, Bool.false_or]; exact Ev.neg (by decide) (ih (i + 1) (by omega))
theorem has_ev (l : List S26) (hl : l.length ≤ 1099511627776) (e : S26) : Ev (fun k => spec_l12Has.f k l e.f0 e.f1 e.f2.f0 e.f2.f1 e.f2.f2 e.f2.f3 e.f2.f4) (hasE l e) :=
 has_loop l hl e l.length 0 (by omega)
theorem specLogAdd_ev (l : List S26) (hf : EntsFit l) (e : S26) (he : EntFit e) : Ev (fun k => spec_LogAdd.f k l e.f0 e.f1 e.f2.f0 e.f2.f1 e.f2.f2 e.f2.f3 e.f2.f4) (logAdd l e) := by
 have hl := hf.1
 unfold spec_LogAdd.f logAdd
 refine Ev.bind (specLogOk_ev l hf) ?_
 by_cases h1 : logB l = true
 ·refine Ev.pos h1 (Ev.bind (ent_ev e he) ?_)
  by_cases h2 : entB e = true
  ·rw [if_pos ⟨h1, h2⟩]
   refine Ev.pos h2 ?_
   have hlen := logB_len h1
   have hc := List.count_le_length (a := e.f0) (l := l.map whoOf)
   rw [List.length_map] at hc
   have h3 : Ev (fun k => spec_l12Add.f k l e.f0 e.f1 e.f2.f0 e.f2.f1 e.f2.f2 e.f2.f3 e.f2.f4) (if hasE l e = true then (l, 0) else if e.f1 = ((l.map whoOf).count e.f0 : Int) + 1 ∧ l.length < 40 then (l ++ [e], 1) else (l, -1)) := by
    unfold spec_l12Add.f
    refine Ev.bind (seq_ev l hl e.f0) (Ev.bind (has_ev l hl e) ?_)
    rw [wrapS _ (by omega)]
    by_cases h4 : hasE l e = true
    ·refine Ev.pos h4 (Ev.pure ?_); rw [if_pos h4]
    ·refine Ev.neg h4 ?_
     rw [if_neg h4]
     by_cases h5 : e.f1 = ((l.map whoOf).count e.f0 : Int) + 1
     ·refine Ev.pos (by omega) ?_
      by_cases h6 : l.length < 40
      ·refine Ev.neg (by omega) (Ev.bindc rfl (Ev.pos (by simp; omega) (Ev.bindc rfl (Ev.bindc rfl (Ev.pos (by simp; omega) (Ev.pure ?_))))))
       rw [if_pos ⟨h5, h6⟩]; rfl
      ·refine Ev.pos (by omega) (Ev.pure ?_)
       rw [if_neg (fun h => h6 h.2)]
     ·refine Ev.neg (by omega) (Ev.pure ?_)
      rw [if_neg (fun h => h5 h.1)]
   refine Ev.bind h3 (Ev.bindc rfl ?_)
   have h7 : (if hasE l e = true then (l, (0 : Int)) else if e.f1 = ((l.map whoOf).count e.f0 : Int) + 1 ∧ l.length < 40 then (l ++ [e], 1) else (l, -1)).1.length ≤ 1099511627776 := by
    split
    ·exact hl
    ·split
     ·simp; omega
     ·exact hl
   exact Ev.pos (by rw [List.length_nil]; omega) (Ev.pure (by rw [List.nil_append]))
  ·rw [if_neg (fun h => h2 h.2)]
   exact Ev.neg h2 (Ev.pure rfl)
 ·rw [if_neg (fun h => h1 h.1)]
  exact Ev.neg h1 (Ev.pure rfl)
theorem ihas_loop (l : List S26) (hl : l.length ≤ 1099511627776) (e : S26) : ∀ (d i : Nat), i + d = l.length → ∃ r : Int, Ev (fun k => impl_Entry_63.l0 k l (l.length : Int) (i : Int) e.f0 e.f1 e.f2.f0 e.f2.f1 e.f2.f2 e.f2.f3 e.f2.f4) r ∧ decide (r ≥ 0) = hasE (l.drop i) e := by
 intro d
 induction d with
 | zero =>
  intro i hi
  refine ⟨-1, Ev.step (f := fun _ => some (-1)) (fun k => by simp only [impl_Entry_63.l0]; rw [if_neg (by omega)]) (Ev.pure rfl), ?_⟩
  rw [List.drop_of_length_le (by omega)]; rfl
 | succ d ih =>
  intro i hi
  have hlt : i < l.length := by omega
  rw [List.drop_eq_getElem_cons hlt]
  unfold hasE
  rw [List.any_cons]
  have step : ∀ k, impl_Entry_63.l0 (k + 1) l (l.length : Int) (i : Int) e.f0 e.f1 e.f2.f0 e.f2.f1 e.f2.f2 e.f2.f3 e.f2.f4 = if sameE e l[i] = true then some (i : Int) else impl_Entry_63.l0 k l (l.length : Int) ((i + 1 : Nat) : Int) e.f0 e.f1 e.f2.f0 e.f2.f1 e.f2.f2 e.f2.f3 e.f2.f4 := fun k => by
   simp only [impl_Entry_63.l0]; rw [if_pos (by omega), if_pos (by omega), if_pos (by omega), rd_ent l i hlt, wrapS i (by omega)]; rfl
  by_cases h : sameE e l[i] = true
  ·refine ⟨(i : Int), Ev.step step (Ev.pos h (Ev.pure rfl)), ?_⟩
   rw [sameE_comm l[i] e, h, Bool.true_or]; exact decide_eq_true (by omega)
  ·obtain ⟨r, h1, h2⟩ := ih (i + 1) (by omega)
   refine ⟨r, Ev.step step (Ev.neg h h1), ?_⟩
   rw [sameE_comm l[i] e, Bool.eq_false_iff.2 h, Bool.false_or]; exact h2
theorem contains_ev (l : List S26) (hl : l.length ≤ 1099511627776) (e : S26) : Ev (fun k => impl_Entry_52.f k l e.f0 e.f1 e.f2.f0 e.f2.f1 e.f2.f2 e.f2.f3 e.f2.f4) (hasE l e) := by
 obtain ⟨r, h1, h2⟩ := ihas_loop l hl e l.length 0 (by omega)
 unfold impl_Entry_52.f
 exact Ev.bind h1 (Ev.pure h2)
theorem implLogAdd_ev (l : List S26) (hl : l.length ≤ 1099511627776) (e : S26) : Ev (fun k => impl_LogAdd.f k l e.f0 e.f1 e.f2.f0 e.f2.f1 e.f2.f2 e.f2.f3 e.f2.f4) (logAdd l e) := by
 unfold impl_LogAdd.f logAdd
 refine Ev.bindc (implLogOk_eq l) ?_
 by_cases h1 : logB l = true
 ·refine Ev.pos h1 (Ev.bindc (implEntryOk_eq _ _ _ _ _ _ _) ?_)
  by_cases h2 : entB e = true
  ·rw [if_pos ⟨h1, h2⟩]
   have h2' : entryB e.f0 e.f1 e.f2.f0 e.f2.f1 e.f2.f2 e.f2.f3 e.f2.f4 = true := h2
   have hlen := logB_len h1
   have hb := entB_bounds h2
   have hc := List.count_le_length (a := e.f0) (l := l.map whoOf)
   rw [List.length_map] at hc
   have hs : logSeq l e.f0 = ((l.map whoOf).count e.f0 : Int) := by unfold logSeq; rw [if_pos h1]
   refine Ev.step (fun k => by simp only [impl_LogAdd.j0]; rw [h2', Bool.not_true, if_neg (by decide)]) ?_
   refine Ev.bindc (show impl_Entry_51.f l = some l from by unfold impl_Entry_51.f; rw [if_pos (by omega)]) (Ev.bind (contains_ev l hl e) ?_)
   by_cases h4 : hasE l e = true
   ·refine Ev.pos h4 (Ev.pure ?_); rw [if_pos h4]
   ·refine Ev.neg h4 ?_
    rw [if_neg h4]
    refine (Ev.bindc (implLogSeq_eq l e.f0 (wf64.2 (by omega))) ?_)
    rw [hs, wrapS _ (by omega)]
    by_cases h5 : e.f1 = ((l.map whoOf).count e.f0 : Int) + 1
    ·refine Ev.pos (by omega) ?_
     by_cases h6 : l.length < 40
     ·refine Ev.neg (by omega) (Ev.pos (by omega) (Ev.pure ?_))
      rw [if_pos ⟨h5, h6⟩]
     ·refine Ev.pos (by omega) (Ev.pure ?_)
      rw [if_neg (fun h => h6 h.2)]
    ·refine Ev.neg (by omega) (Ev.pure ?_)
     rw [if_neg (fun h => h5 h.1)]
  ·rw [if_neg (fun h => h2 h.2)]
   have h2' : entryB e.f0 e.f1 e.f2.f0 e.f2.f1 e.f2.f2 e.f2.f3 e.f2.f4 = false := Bool.eq_false_iff.2 h2
   exact Ev.step (f := fun _ => some ([], -1)) (fun k => by simp only [impl_LogAdd.j0]; rw [h2', Bool.not_false, if_pos rfl]) (Ev.pure rfl)
 ·rw [if_neg (fun h => h1 h.1)]
  refine Ev.neg h1 ?_
  exact Ev.step (f := fun _ => some ([], -1)) (fun k => by simp only [impl_LogAdd.j0]; rw [if_pos trivial]) (Ev.pure rfl)
theorem logAdd_ok {l : List S26} {e : S26} (h1 : logB l = true) (h2 : entB e = true) (h3 : e.f1 = ((l.map whoOf).count e.f0 : Int) + 1) (h4 : l.length < 40) : logB (l ++ [e]) = true := by
 unfold logB lokE
 rw [LogM.lok_snoc, show LogM.lok entB whoOf seqOf l [] = true from logB_lok h1, h2, decide_eq_true (show seqOf e = ((l.map whoOf).count (whoOf e) : Int) + 1 from h3)]
 simp; omega
theorem logAdd_len {l : List S26} {e : S26} : (logAdd l e).1.length ≤ l.length + 1 := by
 unfold logAdd
 repeat' split
 all_goals simp
theorem not_has {l : List S26} (h : logB l = true) {e : S26} (h1 : ((l.map whoOf).count e.f0 : Int) < e.f1) : hasE l e = false := by
 unfold hasE
 rw [Bool.eq_false_iff]
 intro h2
 obtain ⟨x, hx, h3⟩ := List.any_eq_true.1 h2
 obtain ⟨a, b⟩ := sameE_who h3
 have := (LogM.lok_mem entB whoOf seqOf (logB_lok h) hx).2.2
 simp only [whoOf, seqOf] at this
 rw [a, b] at this
 omega
end Go.Proofs.YtlpfjabfhgfpmaaDoor.P
