/- The law FnExactServerNew answers true: the program's ServerNew returns what the reference's returns, in memory of its own. No argument, no condition. -/
import Derived.Test.YtbafffcgmdmebaaPx6
namespace Go.Proofs.Ytbafffcgmdmebaa.Pure
open Go.RowKit Go.Proofs.Ytbafffcgmdmebaa.P Go.Proofs.YtbafffcgmdmebaaW.PrintWords Go.Proofs.YtbafffcgmdmebaaW.PrintLast

theorem FnExactServerNew : laws_FnExactServerNew.Pure := by
  exact ⟨20, by kernel_rfl⟩
end Go.Proofs.Ytbafffcgmdmebaa.Pure
