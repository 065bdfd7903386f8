/- The pure statement of the law FnExactTreeUnder: for all rows and numbers the program's TreeUnder and the reference's answer alike. Conditions: numbers of 64 bits, texts and rows as memory can hold them. -/
import Derived.Test.YtaajcbbbmpdcnaaDoorPx6
import Derived.Test.YtaajcbbbmpdcnaaDoorBaseTreeU
namespace Go.Proofs.YtaajcbbbmpdcnaaDoor.Pure
open Go.RowKit Go.Proofs.YtaajcbbbmpdcnaaDoor Go.Proofs.YtaajcbbbmpdcnaaDoor.P Go.Proofs.YtaajcbbbmpdcnaaDoorW.PrintWords Go.Proofs.YtaajcbbbmpdcnaaDoorW.PrintLast

theorem FnExactTreeUnder : laws_FnExactTreeUnder.Pure := by
  intro l a b hl hx ha hb
  apply Ev.rounds
  unfold laws_FnExactTreeUnder.f
  obtain ⟨t, ht, hfew⟩ := szRowS_ev l hl (fun x h => (hx x h).2.2)
  refine Ev.bind ht ?_
  by_cases h : t < 0
  · exact Ev.pos h (Ev.pure rfl)
  · have hlen := hfew h
    refine Ev.neg h (Ev.bind (toRowS_ev l hlen) (Ev.bind (specTreeUnder_ev _ (rowsFit_conv l hlen hx) a b) (Ev.bind (toRowS_ev l hlen) (Ev.bindc rfl (Ev.neg (by simp) ?_)))))
    exact Ev.bind (toRowS_ev l hlen) (Ev.bind (eqRowS_ev _ (by simpa using hlen)) (Ev.pos rfl (Ev.pure rfl)))
end Go.Proofs.YtaajcbbbmpdcnaaDoor.Pure
