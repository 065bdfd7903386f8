/- The program's OpOk by a walk over changeOf's. -/
import Derived.Test.YtkoodlmedgfdjaaGreatDoorOpC
namespace Go.Proofs.YtkoodlmedgfdjaaGreatDoor
open Go.RowKit Go.Proofs.YtkoodlmedgfdjaaGreatDoorW.PrintWords Go.Proofs.YtkoodlmedgfdjaaGreatDoorW.PrintLast
set_option linter.unusedVariables false
set_option linter.unusedSimpArgs false

/-- OpOk says whether a change is valid. -/
theorem opOk_calls (kind id up at_ : Int) (text : ByteArray) (w : World) (ht : TabOk w) :
    Calls Tryz.prog 10 #[.agg #[.int .i64 kind, .int .i64 id, .int .i64 up, .int .i64 at_, .string text]] w fun e w' => e = .returned (.bool (opB kind id up at_ text)) ∧ Below w.heap.size w w' := by
  go_enter Tryz.func10, Tryz.ntmps10
  go_wp2_with (go_at_call 15; refine (changeOf_calls kind id up at_ text _ (ht.below (below_alloc (Below.refl _ _) _))).mono ?_; rintro e w1 ⟨rfl, hb⟩; have hB : Aside0 (Below w.heap.size w w1) := ⟨below_then (below_alloc (Below.refl _ _) _) (below_size (below_alloc (Below.refl _ _) _)) hb⟩; clear hb)
  go_ret
  exact ⟨rfl, hB.out⟩
end Go.Proofs.YtkoodlmedgfdjaaGreatDoor
