/- The law FnExactRowMade answers true for all integers: the program's RowMade returns what the reference's returns. No condition beyond the arguments being 64-bit integers. -/
import Derived.Test.YtbafffcgmdmebaaPFnExactRowMadex1
namespace Go.Proofs.Ytbafffcgmdmebaa.Pure
open Go.RowKit Go.Proofs.Ytbafffcgmdmebaa.PFnExactRowMade Go.Proofs.YtbafffcgmdmebaaW.PrintWords Go.Proofs.YtbafffcgmdmebaaW.PrintLast

/-- YOURS: ∀ (a0 : Int) (a1 : Int), (Lit.int .i64 a0).wf = true → (Lit.int .i64 a1).wf = true → laws_FnExactRowMade.f a0 a1 = some true
What it reaches (each with k first where it has rounds; `.mono`: more rounds tell the same; `.l0`, ..: its loops, with `.mono_l`): spec_l6In.f, spec_RowMade.f, impl_whoOk.f, impl_RowMade.f, laws_FnExactRowMade.f -/
theorem FnExactRowMade : laws_FnExactRowMade.Pure := by
  intro a b _ _
  unfold laws_FnExactRowMade.f spec_RowMade.f impl_RowMade.f impl_whoOk.f spec_l6In.f
  by_cases h1 : a ≥ 1
  · by_cases h2 : a ≤ 3
    · by_cases h3 : b < 1
      · have h4 : ¬ b ≥ 1 := by omega
        simp [h1, h2, h3, h4]
      · by_cases h5 : b > 6
        · have h4 : b ≥ 1 := by omega
          have h6 : ¬ b ≤ 6 := by omega
          simp [h1, h2, h3, h4, h5, h6]
        · have h4 : b ≥ 1 := by omega
          have h6 : b ≤ 6 := by omega
          simp [h1, h2, h3, h4, h5, h6]
    · simp [h1, h2]
  · simp [h1]

end Go.Proofs.Ytbafffcgmdmebaa.Pure
