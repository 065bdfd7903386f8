/- The pure statement of the law FnEntryForm: at every code, the drawn entry is valid for both or for none; a valid one is none with nobody's number, with number 0, or without a change; with another maker it is valid just if it makes no row. No further condition. -/
import Derived.Test.YtlpfjabfhgfpmaaDoorPx4
import Derived.Test.YtlpfjabfhgfpmaaDoorBaseEntD
namespace Go.Proofs.YtlpfjabfhgfpmaaDoor.Pure
open Go.RowKit Go.Proofs.YtlpfjabfhgfpmaaDoor Go.Proofs.YtlpfjabfhgfpmaaDoor.P Go.Proofs.YtlpfjabfhgfpmaaDoorW.PrintWords Go.Proofs.YtlpfjabfhgfpmaaDoorW.PrintLast
set_option linter.unusedVariables false

theorem entry_who (seq kind id up at_ : Int) (s : ByteArray) : entryB 0 seq kind id up at_ s = false := by
  unfold entryB; rw [decide_eq_false (by omega), Bool.false_and, Bool.false_and]
theorem entry_seq (who kind id up at_ : Int) (s : ByteArray) : entryB who 0 kind id up at_ s = false := by
  unfold entryB; rw [decide_eq_false (p := 1 ≤ (0 : Int) ∧ (0 : Int) ≤ 40) (by omega), Bool.and_false, Bool.false_and]
theorem entry_op (who seq : Int) : entryB who seq 0 0 0 0 (⟨#[]⟩ : ByteArray) = false := by
  have h : opB 0 0 0 0 (⟨#[]⟩ : ByteArray) = false := by unfold opB; rw [if_neg (by decide)]
  unfold entryB; rw [h, Bool.false_and, Bool.and_false]
theorem entry_other {who d seq kind id up at_ : Int} {s : ByteArray} (h : entryB who seq kind id up at_ s = true) (hd : 1 ≤ d ∧ d ≤ 3) : entryB d seq kind id up at_ s = (decide (kind ≠ 1) || decide (d = who)) := by
  unfold entryB at h ⊢
  simp only [Bool.and_eq_true, decide_eq_true_eq, Bool.or_eq_true] at h
  obtain ⟨⟨_, h2⟩, h3, h4⟩ := h
  rw [decide_eq_true hd, decide_eq_true h2, h3, Bool.true_and, Bool.true_and]
  by_cases k : kind = 1
  · have h5 : id / 10 = who := by rcases h4 with h4 | h4; exact absurd k h4; exact h4
    rw [decide_eq_false (fun h => h k), Bool.false_or, Bool.false_or, h5]
    exact decide_eq_decide.2 ⟨fun h => h.symm, fun h => h.symm⟩
  · rw [decide_eq_true k, Bool.true_or, Bool.true_or]; rfl
theorem other_rng (who n : Int) (hw : -10 ≤ who ∧ who ≤ 10) (h0 : 1 ≤ who) (hn : 0 ≤ n) : 1 ≤ wrap64 (Int.tmod (wrap64 (who + n % 2)) 3 + 1) ∧ wrap64 (Int.tmod (wrap64 (who + n % 2)) 3 + 1) ≤ 3 := by
  have h2 : 0 ≤ n % 2 ∧ n % 2 < 2 := by omega
  rw [wrap64_id (a := who + n % 2) (by omega), Int.tmod_eq_emod_of_nonneg (by omega)]
  rw [wrap64_id (by omega)]
  omega
theorem FnEntryForm : laws_FnEntryForm.Pure := by
  intro l0 l1 _ h0 _ h1
  apply Ev.rounds
  unfold laws_FnEntryForm.f
  have skip : Ev (fun k => laws_FnEntryForm.j0 k l0 l1 true) true := by
    refine Ev.step (fun k => by simp only [laws_FnEntryForm.j0]; rw [if_pos trivial]) ?_
    exact Ev.pure rfl
  by_cases c0 : (l0.length : Int) > 1048576
  · exact Ev.pos c0 skip
  refine Ev.neg c0 ?_
  by_cases c1 : (l1.length : Int) > 1048576
  · rw [decide_eq_true c1]; exact skip
  rw [decide_eq_false c1]
  obtain ⟨who, seq, kind, id, up, at_, s, hd, hw, hq, hl⟩ := drawEntryOk_ev l0 h0
  have hid := hl.id; have hup := hl.up; have hat := hl.at_; have htx := hl.text
  have sp := specEntryOk_ev who seq kind id up at_ s (by omega) (by omega) (by omega) (by omega)
  refine Ev.step (fun k => by simp only [laws_FnEntryForm.j0]; rw [if_neg (by decide)]) ?_
  refine Ev.bind hd ?_
  refine Ev.bindc (implEntryOk_eq _ _ _ _ _ _ _) ?_
  refine Ev.bind sp ?_
  refine Ev.neg (by simp) ?_
  cases ho : entryB who seq kind id up at_ s with
  | false =>
    rw [ho] at sp
    refine Ev.step (fun k => by simp only [laws_FnEntryForm.j1]; rw [if_pos (by rfl)]) ?_
    exact Ev.bind sp (Ev.pure rfl)
  | true =>
    have hb : 1 ≤ who ∧ who ≤ 3 := by
      unfold entryB at ho
      simp only [Bool.and_eq_true, decide_eq_true_eq] at ho
      exact ho.1.1
    have hr := other_rng who (l1.length : Int) hw hb.1 (by omega)
    refine Ev.step (fun k => by simp only [laws_FnEntryForm.j1]; rw [if_neg (by decide)]) ?_
    refine Ev.bindc (implEntryOk_eq _ _ _ _ _ _ _) ?_
    rw [entry_who]
    refine Ev.neg (by decide) (Ev.bindc (implEntryOk_eq _ _ _ _ _ _ _) ?_)
    rw [entry_seq]
    refine Ev.neg (by decide) (Ev.bindc (implEntryOk_eq _ _ _ _ _ _ _) ?_)
    rw [entry_op]
    refine Ev.neg (by decide) (Ev.bindc (implEntryOk_eq _ _ _ _ _ _ _) ?_)
    rw [entry_other ho hr]
    generalize wrap64 (Int.tmod (wrap64 (who + (l1.length : Int) % 2)) 3 + 1) = d
    by_cases k : kind = 1
    · refine Ev.pos k (Ev.pure ?_)
      rw [decide_eq_false (fun h => h k), Bool.false_or]
      by_cases c : d = who
      · rw [decide_eq_true c, beq_iff_eq.2 c]; rfl
      · rw [decide_eq_false c, beq_eq_false_iff_ne.2 c]; rfl
    · refine Ev.neg k (Ev.pure ?_)
      rw [decide_eq_true k, Bool.true_or]; rfl
end Go.Proofs.YtlpfjabfhgfpmaaDoor.Pure
