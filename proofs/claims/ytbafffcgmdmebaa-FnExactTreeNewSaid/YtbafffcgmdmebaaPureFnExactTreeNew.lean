/- The law FnExactTreeNew answers true: the program's TreeNew returns what the reference's returns, in memory of its own. No argument, no condition. -/
import Derived.Test.YtbafffcgmdmebaaPFnExactTreeNewx2
namespace Go.Proofs.Ytbafffcgmdmebaa.Pure
open Go.RowKit Go.Proofs.Ytbafffcgmdmebaa.PFnExactTreeNew Go.Proofs.YtbafffcgmdmebaaW.PrintWords Go.Proofs.YtbafffcgmdmebaaW.PrintLast

/-- YOURS: ∃ k, laws_FnExactTreeNew.f k  = some true
What it reaches (each with k first where it has rounds; `.mono`: more rounds tell the same; `.l0`, ..: its loops, with `.mono_l`): spec_TreeNew.f, impl_TreeNew.f, laws_eqRow.f, laws_eqRowS.f, laws_markText.f, laws_markRowS.f, laws_heldRowS.f, laws_FnExactTreeNew.f -/
theorem FnExactTreeNew : laws_FnExactTreeNew.Pure := by
  exact ⟨20, by kernel_rfl⟩

end Go.Proofs.Ytbafffcgmdmebaa.Pure
