/- The pure statement of the law FnLogAdd: at every code, the program's LogAdd and the reference's answer alike on a drawn log and entry; what is there is not put again, the next one is put behind all, another is not. No further condition. -/
import Derived.Test.YtlpfjabfhgfpmaaDoorPx13
import Derived.Test.YtlpfjabfhgfpmaaDoorBaseLogD
import Derived.Test.YtlpfjabfhgfpmaaDoorBaseLpl
namespace Go.Proofs.YtlpfjabfhgfpmaaDoor.Pure
open Go.RowKit Go.Proofs.YtlpfjabfhgfpmaaDoor Go.Proofs.YtlpfjabfhgfpmaaDoor.P Go.Proofs.YtlpfjabfhgfpmaaDoorW.PrintWords Go.Proofs.YtlpfjabfhgfpmaaDoorW.PrintLast
set_option linter.unusedVariables false
theorem FnLogAdd : laws_FnLogAdd.Pure := by
 intro l0 _ h0
 apply Ev.rounds
 unfold laws_FnLogAdd.f
 by_cases c0 : (l0.length : Int) > 1048576
 ·exact Ev.pos c0 (Ev.pure rfl)
 obtain ⟨l, e, hd, hn, he⟩ := drawLogAdd_ev l0 h0
 have hlen := hn.1
 have hal := logAdd_len (l := l) (e := e)
 have lp := lpLog_ev (logAdd l e).1 (by omega)
 refine Ev.neg c0 (Ev.bind hd (Ev.bind (specLogAdd_ev l hn.fit e he.fit) (Ev.bind (implLogAdd_ev l (by omega) e) (Ev.pos rfl (Ev.bind lp (Ev.pos rfl (Ev.bind (specLogOk_ev l hn.fit) ?_)))))))
 have spoilt : Ev (fun k => laws_FnLogAdd.j0 k l (logAdd l e).1 (logAdd l e).2 (logAdd l e).1 (logAdd l e).2 true e.f0 e.f1 e.f2.f0 e.f2.f1 e.f2.f2 e.f2.f3 e.f2.f4) true := by
  refine Ev.step (fun k => by simp only [laws_FnLogAdd.j0]; rw [if_pos trivial]) ?_
  exact Ev.pos trivial (Ev.bind lp (Ev.pure rfl))
 by_cases h1 : logB l = true
 case neg => exact Ev.neg h1 spoilt
 refine Ev.pos h1 (Ev.bind (ent_ev e he.fit) ?_)
 by_cases h2 : entB e = true
 case neg => rw [Bool.eq_false_iff.2 h2]; exact spoilt
 rw [h2]
 have hw : (Lit.int .i64 e.f0).wf = true := wf64.2 (by have := he.1; omega)
 have hs : logSeq l e.f0 = ((l.map whoOf).count e.f0 : Int) := by unfold logSeq; rw [if_pos h1]
 have hc := List.count_le_length (a := e.f0) (l := l.map whoOf)
 rw [List.length_map] at hc
 refine Ev.step (fun k => by simp only [laws_FnLogAdd.j0]; rw [if_neg (by simp)]) (Ev.bind (lpHas_ev l (by omega) e) ?_)
 by_cases h3 : hasE l e = true
 ·have hv : logAdd l e = (l, 0) := by unfold logAdd; rw [if_pos ⟨h1, h2⟩, if_pos h3]
  rw [hv]
  exact Ev.pos h3 (Ev.pos rfl (Ev.bind (lpLog_ev l (by omega)) (Ev.pure rfl)))
 refine Ev.neg h3 (Ev.bindc (implLogSeq_eq l e.f0 hw) ?_)
 rw [hs, wrapS _ (by omega)]
 by_cases h4 : e.f1 = ((l.map whoOf).count e.f0 : Int) + 1
 ·have hv : logAdd l e = (l ++ [e], 1) := by unfold logAdd; rw [if_pos ⟨h1, h2⟩, if_neg h3, if_pos ⟨h4, by omega⟩]
  rw [hv]
  refine Ev.pos (by omega) ?_
  rw [decide_eq_true (show (l.length : Int) < 40 by omega)]
  refine Ev.step (fun k => by simp only [laws_FnLogAdd.j1]; rw [if_pos trivial]) ?_
  refine Ev.pos trivial (Ev.bindc rfl (Ev.pos (by rw [List.length_nil]; omega) (Ev.bindc rfl (Ev.bindc rfl (Ev.pos (by simp; omega) ?_)))))
  refine Ev.bind (lpLog_ev (l ++ [e]) (by simp; omega)) (Ev.pos rfl (Ev.bindc (implLogOk_eq _) (Ev.pure ?_)))
  exact logAdd_ok h1 h2 h4 (by omega)
 ·have hv : logAdd l e = (l, -1) := by unfold logAdd; rw [if_pos ⟨h1, h2⟩, if_neg h3, if_neg (fun h => h4 h.1)]
  rw [hv]
  refine Ev.neg (by omega) ?_
  refine Ev.step (fun k => by simp only [laws_FnLogAdd.j1]; rw [if_neg (by decide)]) ?_
  exact Ev.pos trivial (Ev.bind (lpLog_ev l (by omega)) (Ev.pure rfl))
end Go.Proofs.YtlpfjabfhgfpmaaDoor.Pure
