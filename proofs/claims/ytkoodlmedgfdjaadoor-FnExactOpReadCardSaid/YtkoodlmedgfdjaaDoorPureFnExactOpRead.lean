/- The pure statement of the law FnExactOpRead: for every text the program and the reference read the same. Condition: a text of at most 2^47 bytes. -/
import Derived.Test.YtkoodlmedgfdjaaDoorPx4
import Derived.Test.YtkoodlmedgfdjaaDoorBaseRead
namespace Go.Proofs.YtkoodlmedgfdjaaDoor.Pure
open Go.RowKit Go.Proofs.YtkoodlmedgfdjaaDoor Go.Proofs.YtkoodlmedgfdjaaDoor.P Go.Proofs.YtkoodlmedgfdjaaDoorW.PrintWords Go.Proofs.YtkoodlmedgfdjaaDoorW.PrintLast

theorem FnExactOpRead : laws_FnExactOpRead.Pure := by
  intro s hs
  apply Ev.rounds
  unfold laws_FnExactOpRead.f
  by_cases h : (s.size : Int) > 1048576
  · exact Ev.pos h (Ev.pure rfl)
  · refine Ev.neg h (Ev.bind (specOpRead_ev s) (Ev.bindc (show impl_OpRead.f s = some (readT (opRead s)) from rfl) (Ev.bindc (a := true) ?_ (Ev.pos rfl (Ev.neg (by simp) (Ev.pure rfl))))))
    unfold laws_eqOp.f
    rw [if_pos rfl, if_pos rfl, if_pos rfl, if_pos rfl, if_pos rfl]
end Go.Proofs.YtkoodlmedgfdjaaDoor.Pure
