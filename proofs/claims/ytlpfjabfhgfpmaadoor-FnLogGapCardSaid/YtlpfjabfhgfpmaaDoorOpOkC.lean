/- The program's OpOk by a walk over changeOf's. -/
import Derived.Test.YtlpfjabfhgfpmaaDoorOpC
namespace Go.Proofs.YtlpfjabfhgfpmaaDoor
open Go.RowKit Go.Proofs.YtlpfjabfhgfpmaaDoorW.PrintWords Go.Proofs.YtlpfjabfhgfpmaaDoorW.PrintLast
set_option linter.unusedVariables false
set_option linter.unusedSimpArgs false
theorem opOk_calls (kind id up at_ : Int) (text : ByteArray) (w : World) (ht : TabOk w) :
  Calls Tryd.prog 41 #[.agg #[.int .i64 kind, .int .i64 id, .int .i64 up, .int .i64 at_, .string text]] w fun e w' => e = .returned (.bool (opB kind id up at_ text)) ∧ Below w.heap.size w w' := by
 go_enter Tryd.func41, Tryd.ntmps41
 go_wp2_with (go_at_call 57; refine (changeOf_calls kind id up at_ text _ (ht.below (below_alloc (Below.refl _ _) _))).mono ?_; rintro e w1 ⟨rfl, hb⟩; have hB : Aside0 (Below w.heap.size w w1) := ⟨below_then (below_alloc (Below.refl _ _) _) (below_size (below_alloc (Below.refl _ _) _)) hb⟩; clear hb)
 go_ret
 exact ⟨rfl, hB.out⟩
end Go.Proofs.YtlpfjabfhgfpmaaDoor
