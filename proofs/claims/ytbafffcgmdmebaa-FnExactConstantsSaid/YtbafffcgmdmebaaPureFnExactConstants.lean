/- The law FnExactConstants answers true: every exported constant has the value that the reference gives. No condition. -/
import Derived.Test.YtbafffcgmdmebaaPFnExactConstantsx1
namespace Go.Proofs.Ytbafffcgmdmebaa.Pure
open Go.RowKit Go.Proofs.Ytbafffcgmdmebaa.PFnExactConstants Go.Proofs.YtbafffcgmdmebaaW.PrintWords Go.Proofs.YtbafffcgmdmebaaW.PrintLast

/-- YOURS: laws_FnExactConstants.f  = some true
What it reaches (each with k first where it has rounds; `.mono`: more rounds tell the same; `.l0`, ..: its loops, with `.mono_l`): laws_FnExactConstants.f -/
theorem FnExactConstants : laws_FnExactConstants.Pure := by
  rfl

end Go.Proofs.Ytbafffcgmdmebaa.Pure
