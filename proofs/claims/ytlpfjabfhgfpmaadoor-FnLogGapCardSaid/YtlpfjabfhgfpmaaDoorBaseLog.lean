/- The reference's LogOk and LogSeq answer as the plain words 'logB', 'logSeq' do. Conditions: 64-bit numbers, texts of at most 2^47 bytes, at most 2^40 entries. -/
import Derived.Test.YtlpfjabfhgfpmaaDoorBaseEntry
import Derived.Test.YtlpfjabfhgfpmaaDoorLogC
import Derived.Test.YtlpfjabfhgfpmaaDoorPx2
import Derived.Test.YtlpfjabfhgfpmaaDoorPx3
import Derived.Test.YtlpfjabfhgfpmaaDoorPx4
import Derived.Test.YtlpfjabfhgfpmaaDoorPx4
namespace Go.Proofs.YtlpfjabfhgfpmaaDoor.P
open Go.RowKit Go.Proofs.YtlpfjabfhgfpmaaDoorW.PrintWords Go.Proofs.YtlpfjabfhgfpmaaDoorW.PrintLast
set_option linter.unusedVariables false
set_option linter.unusedSimpArgs false
theorem Ev.cong {α : Type} {g : Nat → Option α} {r s : α} (h : Ev g r) (e : r = s) : Ev g s := e ▸ h
def EntFit (x : S26) : Prop := I64 x.f0 ∧ I64 x.f1 ∧ I64 x.f2.f0 ∧ I64 x.f2.f1 ∧ I64 x.f2.f2 ∧ I64 x.f2.f3 ∧ x.f2.f4.size ≤ 140737488351232
def EntsFit (l : List S26) : Prop := l.length ≤ 1099511627776 ∧ ∀ x ∈ l, EntFit x
theorem rd_ent (l : List S26) (i : Nat) (h : i < l.length) : rd_T26 l (i : Int) = l[i] := by simp [rd_T26, h]
theorem wrapS (i : Nat) (h : i ≤ 1099511627776) : wrap64 ((i : Int) + 1) = ((i + 1 : Nat) : Int) := by
 rw [wrap64_id (by omega)]; omega
theorem seq_loop (l : List S26) (hl : l.length ≤ 1099511627776) (who : Int) : ∀ (d i n : Nat), i + d = l.length → n ≤ i → Ev (fun k => spec_l12Seq.l0 k l who (n : Int) (i : Int)) ((n + ((l.drop i).map whoOf).count who : Nat) : Int) := by
 intro d
 induction d with
 | zero =>
  intro i n hi hn
  refine Ev.step (f := fun _ => some (n : Int)) (fun k => by simp only [spec_l12Seq.l0]; rw [if_neg (by omega)]) (Ev.pure ?_)
  rw [List.drop_of_length_le (by omega)]; simp
 | succ d ih =>
  intro i n hi hn
  have hlt : i < l.length := by omega
  rw [List.drop_eq_getElem_cons hlt, List.map_cons, List.count_cons]
  by_cases h : l[i].f0 = who
  ·refine Ev.step (f := fun k => spec_l12Seq.l0 k l who ((n + 1 : Nat) : Int) ((i + 1 : Nat) : Int)) (fun k => by simp only [spec_l12Seq.l0]; rw [if_pos (by omega), if_pos (by omega), rd_ent l i hlt, if_pos h, wrapS i (by omega), wrapS n (by omega)]) ?_
   refine Ev.cong (ih (i + 1) (n + 1) (by omega) (by omega)) ?_
   rw [if_pos (beq_iff_eq.2 h)]; omega
  ·refine Ev.step (f := fun k => spec_l12Seq.l0 k l who (n : Int) ((i + 1 : Nat) : Int)) (fun k => by simp only [spec_l12Seq.l0]; rw [if_pos (by omega), if_pos (by omega), rd_ent l i hlt, if_neg h, wrapS i (by omega)]) ?_
   refine Ev.cong (ih (i + 1) n (by omega) (by omega)) ?_
   rw [if_neg (fun e => h (beq_iff_eq.1 e))]; omega
theorem seq_ev (l : List S26) (hl : l.length ≤ 1099511627776) (who : Int) : Ev (fun k => spec_l12Seq.f k l who) (((l.map whoOf).count who : Nat) : Int) := by
 unfold spec_l12Seq.f
 refine Ev.cong (seq_loop l hl who l.length 0 0 (by omega) (by omega)) ?_
 rw [List.drop_zero]; omega
theorem ent_ev (x : S26) (h : EntFit x) : Ev (fun k => spec_EntryOk.f k x.f0 x.f1 x.f2.f0 x.f2.f1 x.f2.f2 x.f2.f3 x.f2.f4) (entB x) :=
 specEntryOk_ev _ _ _ _ _ _ _ h.2.2.2.1 h.2.2.2.2.1 h.2.2.2.2.2.1 (by have := h.2.2.2.2.2.2; omega)
theorem log_loop (l : List S26) (hf : EntsFit l) : ∀ (d i : Nat), i + d = l.length → Ev (fun k => spec_LogOk.l0 k l (i : Int)) (lokE (l.drop i) ((l.take i).map whoOf) && decide (l.length ≤ 40)) := by
 intro d
 have hl := hf.1
 induction d with
 | zero =>
  intro i hi
  refine Ev.step (f := fun _ => some (decide ((l.length : Int) ≤ 40))) (fun k => by simp only [spec_LogOk.l0]; rw [if_neg (by omega)]) (Ev.pure ?_)
  rw [List.drop_of_length_le (by omega)]
  simp only [lokE, LogM.lok, Bool.true_and]
  exact decide_eq_decide.2 (by omega)
 | succ d ih =>
  intro i hi
  have hlt : i < l.length := by omega
  refine Ev.step (fun k => by simp only [spec_LogOk.l0]; rw [if_pos (by omega), if_pos (by omega), rd_ent l i hlt, wrapS i (by omega), Int.toNat_natCast]) ?_
  have hx := hf.2 l[i] (List.getElem_mem _)
  refine Ev.bind (ent_ev l[i] hx) ?_
  rw [List.drop_eq_getElem_cons hlt]
  simp only [lokE, LogM.lok]
  cases hb : entB l[i] with
  | false => exact Ev.neg (by decide) (Ev.pure (by simp))
  | true =>
   refine Ev.pos rfl (Ev.pos (by omega) (Ev.bind (seq_ev (l.take i) (by rw [List.length_take]; omega) _) ?_))
   have hc := List.count_le_length (a := l[i].f0) (l := (l.take i).map whoOf)
   rw [List.length_map, List.length_take] at hc
   rw [wrapS _ (by omega)]
   have h2 := ih (i + 1) (by omega)
   rw [List.take_succ_eq_append_getElem hlt, List.map_append] at h2
   by_cases hs : l[i].f1 = (((l.take i).map whoOf).count l[i].f0 : Int) + 1
   ·refine Ev.pos (by omega) (Ev.cong h2 ?_)
    rw [decide_eq_true (show seqOf l[i] = (((l.take i).map whoOf).count (whoOf l[i]) : Int) + 1 from hs)]
    simp
   ·refine Ev.neg (by omega) (Ev.pure ?_)
    rw [decide_eq_false (show ¬ seqOf l[i] = (((l.take i).map whoOf).count (whoOf l[i]) : Int) + 1 from hs)]
    simp
theorem specLogOk_ev (l : List S26) (hf : EntsFit l) : Ev (fun k => spec_LogOk.f k l) (logB l) := by
 unfold spec_LogOk.f logB
 refine Ev.cong (log_loop l hf l.length 0 (by omega)) ?_
 rw [List.drop_zero, List.take_zero, List.map_nil, Bool.and_comm]
theorem implLogOk_eq (l : List S26) : impl_LogOk.f l = some (logB l) := rfl
theorem implLogSeq_eq (l : List S26) (who : Int) (hw : (Lit.int .i64 who).wf = true) : impl_LogSeq.f l who = some (logSeq l who) := by
 unfold impl_LogSeq.f; rw [if_pos hw]
end Go.Proofs.YtlpfjabfhgfpmaaDoor.P
