/- The pure statement of the law FnExactTreeOk: for all rows the program's TreeOk and the reference's answer alike. Conditions: numbers of 64 bits, texts and rows as memory can hold them. -/
import Derived.Test.YtaajcbbbmpdcnaaDoorPx4
import Derived.Test.YtaajcbbbmpdcnaaDoorBaseRows
namespace Go.Proofs.YtaajcbbbmpdcnaaDoor.Pure
open Go.RowKit Go.Proofs.YtaajcbbbmpdcnaaDoor Go.Proofs.YtaajcbbbmpdcnaaDoor.P Go.Proofs.YtaajcbbbmpdcnaaDoorW.PrintWords Go.Proofs.YtaajcbbbmpdcnaaDoorW.PrintLast

theorem FnExactTreeOk : laws_FnExactTreeOk.Pure := by
  intro l hl hx
  apply Ev.rounds
  unfold laws_FnExactTreeOk.f
  obtain ⟨t, ht, hfew⟩ := szRowS_ev l hl (fun x h => (hx x h).2.2)
  refine Ev.bind ht ?_
  by_cases h : t < 0
  · exact Ev.pos h (Ev.pure rfl)
  · have hlen := hfew h
    refine Ev.neg h (Ev.bind (toRowS_ev l hlen) (Ev.bind (specTreeOk_ev _ (rowsFit_conv l hlen hx)) (Ev.bind (toRowS_ev l hlen) (Ev.bindc rfl (Ev.neg (by simp) (Ev.bind (toRowS_ev l hlen) (Ev.bind (eqRowS_ev _ (by simpa using hlen)) (Ev.pos rfl (Ev.pure rfl)))))))))
end Go.Proofs.YtaajcbbbmpdcnaaDoor.Pure
