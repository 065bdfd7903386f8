/- The pure statement of the law FnLogSeq: at every code, the entries of somebody in a drawn log are counted, from 1 on, and all are somebody's. No further condition. -/
import Derived.Test.YtlpfjabfhgfpmaaDoorPx19
import Derived.Test.YtlpfjabfhgfpmaaDoorBaseLogD
namespace Go.Proofs.YtlpfjabfhgfpmaaDoor.Pure
open Go.RowKit Go.Proofs.YtlpfjabfhgfpmaaDoor Go.Proofs.YtlpfjabfhgfpmaaDoor.P Go.Proofs.YtlpfjabfhgfpmaaDoorW.PrintWords Go.Proofs.YtlpfjabfhgfpmaaDoorW.PrintLast
set_option linter.unusedVariables false

theorem seq_walk (l : List S26) (hv : logB l = true) (who : Int) (n : Int) : ∀ (d i : Nat), i + d = l.length → ∀ (r : Bool), (Ev (fun k => if n = ((l.map whoOf).count who : Int) then ((impl_LogSeq.f l 1).bind fun a => ((impl_LogSeq.f l 2).bind fun b => ((impl_LogSeq.f l 3).bind fun c => (some ((wrap64 ((wrap64 (a + b)) + c)) == (l.length : Int)))))) else some false) r) →
    Ev (fun k => laws_FnLogSeq.l0 k l who n (((l.take i).map whoOf).count who : Int) (i : Int)) r := by
  have hlen := logB_len hv
  intro d
  induction d with
  | zero =>
    intro i hi r hr
    rw [show l.take i = l from List.take_of_length_le (by omega)]
    refine Ev.step (fun k => by simp only [laws_FnLogSeq.l0]; rw [if_neg (by omega)]) hr
  | succ d ih =>
    intro i hi r hr
    have hlt : i < l.length := by omega
    have h2 := ih (i + 1) (by omega) r hr
    obtain ⟨_, hs⟩ := LogM.lok_at entB whoOf seqOf (logB_lok hv) i hlt
    have hc := List.count_le_length (a := who) (l := (l.take i).map whoOf)
    rw [List.length_map, List.length_take] at hc
    rw [List.take_succ_eq_append_getElem hlt, List.map_append, List.count_append] at h2
    simp only [List.map_cons, List.map_nil, List.count_singleton] at h2
    by_cases h : l[i].f0 = who
    · rw [if_pos (by rw [beq_iff_eq]; exact h)] at h2
      have hs2 : l[i].f1 = (((l.take i).map whoOf).count who : Int) + 1 := by rw [← h]; exact hs
      refine Ev.step (fun k => by simp only [laws_FnLogSeq.l0]; rw [if_pos (by omega), if_pos (by omega), rd_ent l i hlt, if_pos h, wrapS _ (by omega), if_pos (by omega), wrapS i (by omega)]) h2
    · rw [if_neg (by rw [beq_iff_eq]; exact h), Nat.add_zero] at h2
      refine Ev.step (fun k => by simp only [laws_FnLogSeq.l0]; rw [if_pos (by omega), if_pos (by omega), rd_ent l i hlt, if_neg h, wrapS i (by omega)]) h2
theorem FnLogSeq : laws_FnLogSeq.Pure := by
  intro l0 _ h0
  apply Ev.rounds
  unfold laws_FnLogSeq.f
  by_cases c0 : (l0.length : Int) > 1048576
  · exact Ev.pos c0 (Ev.pure rfl)
  obtain ⟨l, who, hd, hn, hw⟩ := drawLogSeq_ev l0 h0
  have sp := specLogSeq_ev l hn.fit who
  have wf : ∀ a : Int, 0 ≤ a ∧ a ≤ 100 → (Lit.int .i64 a).wf = true := fun a ha => wf64.2 (by omega)
  refine Ev.neg c0 (Ev.bind hd (Ev.bindc (implLogSeq_eq l who (wf who (by omega))) (Ev.bind sp (Ev.pos rfl (Ev.bind (specLogOk_ev l hn.fit) ?_)))))
  cases hv : logB l with
  | false =>
    refine Ev.step (fun k => by simp only [laws_FnLogSeq.j0]; rw [if_pos (by rfl)]) (Ev.bind sp (Ev.pure ?_))
    exact beq_iff_eq.2 rfl
  | true =>
    refine Ev.step (fun k => by simp only [laws_FnLogSeq.j0]; rw [if_neg (by decide)]) ?_
    have hlen := logB_len hv
    have hs : ∀ a : Int, logSeq l a = ((l.map whoOf).count a : Int) := fun a => by unfold logSeq; rw [if_pos hv]
    have h3 := LogM.count_three (l.map whoOf) (fun x hx => by
      obtain ⟨y, hy, rfl⟩ := List.mem_map.1 hx
      exact (entB_bounds (logB_ent hv hy)).1)
    rw [List.length_map] at h3
    have := seq_walk l hv who (logSeq l who) l.length 0 (by omega) true (by
      refine Ev.pos (hs who) (Ev.bindc (implLogSeq_eq l 1 (by decide)) (Ev.bindc (implLogSeq_eq l 2 (by decide)) (Ev.bindc (implLogSeq_eq l 3 (by decide)) (Ev.pure ?_))))
      rw [hs, hs, hs, wrap64_id (a := ((l.map whoOf).count 1 : Int) + ((l.map whoOf).count 2 : Int)) (by omega), wrap64_id (by omega)]
      exact beq_iff_eq.2 (by omega))
    rw [List.take_zero, List.map_nil] at this
    exact this
end Go.Proofs.YtlpfjabfhgfpmaaDoor.Pure
