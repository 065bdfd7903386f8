/- The pure statement of the law FnExactRowWho: for every 64-bit integer the program's RowWho (by its table) and the reference's (by tens and units) answer alike. No further condition. -/
import Derived.Test.YtbafffcgmdmebaaDoorPx1
import Derived.Test.YtbafffcgmdmebaaDoorBaseRow
namespace Go.Proofs.YtbafffcgmdmebaaDoor.Pure
open Go.RowKit Go.Proofs.YtbafffcgmdmebaaDoor Go.Proofs.YtbafffcgmdmebaaDoor.P Go.Proofs.YtbafffcgmdmebaaDoorW.PrintWords Go.Proofs.YtbafffcgmdmebaaDoorW.PrintLast

theorem FnExactRowWho : laws_FnExactRowWho.Pure := by
  intro a ha
  unfold laws_FnExactRowWho.f impl_RowWho.f
  rw [specRowWho_eq a (wf64.1 ha)]
  simp
end Go.Proofs.YtbafffcgmdmebaaDoor.Pure
