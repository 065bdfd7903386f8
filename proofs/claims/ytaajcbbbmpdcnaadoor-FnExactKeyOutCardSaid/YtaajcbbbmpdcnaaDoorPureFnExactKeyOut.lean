/- The pure statement of the law FnExactKeyOut: for all rows and numbers the program's KeyOut and the reference's answer alike. Conditions: numbers of 64 bits, texts and rows as memory can hold them. -/
import Derived.Test.YtaajcbbbmpdcnaaDoorPx10
import Derived.Test.YtaajcbbbmpdcnaaDoorBaseKey
namespace Go.Proofs.YtaajcbbbmpdcnaaDoor.Pure
open Go.RowKit Go.Proofs.YtaajcbbbmpdcnaaDoor Go.Proofs.YtaajcbbbmpdcnaaDoor.P Go.Proofs.YtaajcbbbmpdcnaaDoorW.PrintWords Go.Proofs.YtaajcbbbmpdcnaaDoorW.PrintLast

theorem FnExactKeyOut : laws_FnExactKeyOut.Pure := by
  intro l a hl hx ha
  apply Ev.rounds
  unfold laws_FnExactKeyOut.f
  obtain ⟨t, ht, hfew⟩ := szRowS_ev l hl (fun x h => (hx x h).2.2)
  refine Ev.bind ht ?_
  by_cases h : t < 0
  · exact Ev.pos h (Ev.pure rfl)
  · have hlen := hfew h
    refine Ev.neg h (Ev.bind (toRowS_ev l hlen) (Ev.bind (specKeyOut_ev _ (rowsFit_conv l hlen hx) a (wf64.1 ha)) (Ev.bind (toRowS_ev l hlen) (Ev.bindc rfl (Ev.bindc (eqOp_same _ _ _ _ _) (Ev.pos rfl ?_))))))
    rw [bne_self_eq_false]
    refine Ev.step (fun k => by simp only [laws_FnExactKeyOut.j0]; rw [if_neg (by decide)]) ?_
    exact Ev.bind (toRowS_ev l hlen) (Ev.bind (eqRowS_ev _ (by simpa using hlen)) (Ev.pos rfl (Ev.pure rfl)))
end Go.Proofs.YtaajcbbbmpdcnaaDoor.Pure
