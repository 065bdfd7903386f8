/- The pure statement of the law FnExactLogAdd: for all entries and every entry the program's LogAdd and the reference's answer alike, and the answer is memory of its own. Conditions: numbers of 64 bits, texts and entries as memory can hold them. -/
import Derived.Test.YtlpfjabfhgfpmaaDoorPx15
import Derived.Test.YtlpfjabfhgfpmaaDoorBaseEnts
import Derived.Test.YtlpfjabfhgfpmaaDoorBaseMarkE
namespace Go.Proofs.YtlpfjabfhgfpmaaDoor.Pure
open Go.RowKit Go.Proofs.YtlpfjabfhgfpmaaDoor Go.Proofs.YtlpfjabfhgfpmaaDoor.P Go.Proofs.YtlpfjabfhgfpmaaDoorW.PrintWords Go.Proofs.YtlpfjabfhgfpmaaDoorW.PrintLast
set_option linter.unusedVariables false

theorem FnExactLogAdd : laws_FnExactLogAdd.Pure := by
  intro l who seq kind id up at_ s hl hx h0 h1 h2 h3 h4 h5 h6
  apply Ev.rounds
  unfold laws_FnExactLogAdd.f
  obtain ⟨t, ht, hfew⟩ := szEntryS_ev l hl (fun x h => (hx x h).2.2.2.2.2.2)
  refine Ev.bind ht ?_
  by_cases h : t < 0
  · exact Ev.pos h (Ev.pure rfl)
  have hlen := hfew h
  obtain ⟨t2, ht2⟩ : ∃ t2, laws_szEntry.f who seq kind id up at_ s t = some t2 := by
    unfold laws_szEntry.f laws_szOp.f
    by_cases hn : wrap64 (t - (s.size : Int)) < 0
    · exact ⟨-1, by rw [if_pos hn]; rfl⟩
    · exact ⟨_, by rw [if_neg hn]; simp only [Option.bind_some]; rw [if_neg hn]⟩
  refine Ev.neg h (Ev.bindc ht2 ?_)
  by_cases hn2 : t2 < 0
  · exact Ev.pos hn2 (Ev.pure rfl)
  obtain ⟨e, he⟩ : ∃ e : S26, e = ⟨who, seq, ⟨kind, id, up, at_, s⟩⟩ := ⟨_, rfl⟩
  have hef : EntFit e := by rw [he]; exact ⟨wf64.1 h0, wf64.1 h1, wf64.1 h2, wf64.1 h3, wf64.1 h4, wf64.1 h5, h6⟩
  have hto : laws_toEntry.f who seq kind id up at_ s = some (e.f0, e.f1, e.f2.f0, e.f2.f1, e.f2.f2, e.f2.f3, e.f2.f4) := by rw [he]; rfl
  have hfit := entsFit_conv l hlen hx
  have hcl : (l.map convEnt).length ≤ 1048576 := by simpa using hlen
  have hal := logAdd_len (l := l.map convEnt) (e := e)
  have sp := specLogAdd_ev _ hfit e hef
  have im := implLogAdd_ev (l.map convEnt) (by omega) e
  have eq := eqEntryS_ev (logAdd (l.map convEnt) e).1 (by omega)
  obtain ⟨M, m1, m2⟩ := markEntryS_ev (logAdd (l.map convEnt) e).1 (by omega)
  obtain ⟨M0, n1, n2⟩ := markEntryS_ev (l.map convEnt) (by omega)
  refine Ev.neg hn2 (Ev.bind (toEntryS_ev l hlen) (Ev.bindc hto (Ev.bind sp (Ev.bind (toEntryS_ev l hlen) (Ev.bindc hto (Ev.bind im (Ev.bind eq (Ev.pos rfl ?_))))))))
  refine Ev.step (fun k => by simp only [laws_FnExactLogAdd.j0]; rw [if_neg (by simp)]) ?_
  refine Ev.bind (toEntryS_ev l hlen) (Ev.bind (eqEntryS_ev _ (by omega)) (Ev.pos rfl (Ev.bind n1 (Ev.neg (by dsimp only; omega) (Ev.bind eq (Ev.pos rfl ?_))))))
  refine Ev.step (fun k => by simp only [laws_FnExactLogAdd.j1]; rw [if_neg (by simp)]) ?_
  refine Ev.bind m1 (Ev.bind m2 (Ev.neg (by omega) (Ev.pos rfl (Ev.bind (toEntryS_ev l hlen) (Ev.bindc hto (Ev.bind im (Ev.bind eq (Ev.pos rfl ?_))))))))
  refine Ev.step (fun k => by simp only [laws_FnExactLogAdd.j2]; rw [if_neg (by simp)]) ?_
  exact Ev.bind m2 (Ev.neg (by omega) (Ev.pos rfl (Ev.pure rfl)))
end Go.Proofs.YtlpfjabfhgfpmaaDoor.Pure
