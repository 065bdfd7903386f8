/- The pure statement of the law FnExactTreeText: for all rows the program's text of them and the reference's are the same. Conditions: numbers of 64 bits, texts and rows as memory can hold them. -/
import Derived.Test.YtdapbpgooehibaaDoorPx4
import Derived.Test.YtdapbpgooehibaaDoorBaseTreeTxt
namespace Go.Proofs.YtdapbpgooehibaaDoor.Pure
open Go.RowKit Go.Proofs.YtdapbpgooehibaaDoor Go.Proofs.YtdapbpgooehibaaDoor.P Go.Proofs.YtdapbpgooehibaaDoorW.PrintWords Go.Proofs.YtdapbpgooehibaaDoorW.PrintLast

theorem FnExactTreeText : laws_FnExactTreeText.Pure := by
  intro l hl hx
  apply Ev.rounds
  unfold laws_FnExactTreeText.f
  obtain ⟨t, ht, hfew⟩ := szRowS_ev l hl (fun x h => (hx x h).2.2)
  refine Ev.bind ht ?_
  by_cases h : t < 0
  · exact Ev.pos h (Ev.pure rfl)
  · have hlen := hfew h
    refine Ev.neg h (Ev.bind (toRowS_ev l hlen) (Ev.bind (specTreeText_ev _ (rowsFit_conv l hlen hx)) (Ev.bind (toRowS_ev l hlen) (Ev.bindc (show impl_TreeText.f _ = some (treeText _) from rfl) (Ev.pos rfl (Ev.bind (toRowS_ev l hlen) (Ev.bind (eqRowS_ev _ (by simpa using hlen)) (Ev.pos rfl (Ev.pure rfl)))))))))
end Go.Proofs.YtdapbpgooehibaaDoor.Pure
