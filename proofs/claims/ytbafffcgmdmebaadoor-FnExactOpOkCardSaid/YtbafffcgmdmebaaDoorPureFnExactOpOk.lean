/- The pure statement of the law FnExactOpOk: for every change the program's OpOk and the reference's answer alike. Conditions: numbers of 64 bits, a text of at most 2^47 bytes. -/
import Derived.Test.YtbafffcgmdmebaaDoorPx12
import Derived.Test.YtbafffcgmdmebaaDoorBaseOp
namespace Go.Proofs.YtbafffcgmdmebaaDoor.Pure
open Go.RowKit Go.Proofs.YtbafffcgmdmebaaDoor Go.Proofs.YtbafffcgmdmebaaDoor.P Go.Proofs.YtbafffcgmdmebaaDoorW.PrintWords Go.Proofs.YtbafffcgmdmebaaDoorW.PrintLast

theorem FnExactOpOk : laws_FnExactOpOk.Pure := by
  intro kind id up at_ s hk hi hu ha hs
  apply Ev.rounds
  unfold laws_FnExactOpOk.f laws_szOp.f laws_toOp.f
  have w : wrap64 (1048576 - (s.size : Int)) = 1048576 - (s.size : Int) := wrap64_id (by omega)
  rw [w]
  by_cases h : 1048576 - (s.size : Int) < 0
  · rw [if_pos h]
    exact Ev.bindc rfl (Ev.pos (by decide) (Ev.pure rfl))
  · rw [if_neg h]
    refine Ev.bindc rfl (Ev.neg h (Ev.bindc rfl (Ev.bind (specOpOk_ev kind id up at_ s (wf64.1 hi) (wf64.1 hu) (wf64.1 ha) (by omega)) (Ev.bindc rfl (Ev.bindc (show impl_OpOk.f kind id up at_ s = some (opB kind id up at_ s) from rfl) (Ev.neg (by simp) (Ev.pure rfl)))))))
end Go.Proofs.YtbafffcgmdmebaaDoor.Pure
