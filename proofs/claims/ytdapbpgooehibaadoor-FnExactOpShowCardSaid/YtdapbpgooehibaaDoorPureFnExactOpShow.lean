/- The pure statement of the law FnExactOpShow: for every change the program's text of it and the reference's are the same. Conditions: numbers of 64 bits, a text of at most 2^47 bytes. -/
import Derived.Test.YtdapbpgooehibaaDoorPx4
import Derived.Test.YtdapbpgooehibaaDoorBaseShow
namespace Go.Proofs.YtdapbpgooehibaaDoor.Pure
open Go.RowKit Go.Proofs.YtdapbpgooehibaaDoor Go.Proofs.YtdapbpgooehibaaDoor.P Go.Proofs.YtdapbpgooehibaaDoorW.PrintWords Go.Proofs.YtdapbpgooehibaaDoorW.PrintLast

theorem FnExactOpShow : laws_FnExactOpShow.Pure := by
  intro kind id up at_ s hk hi hu ha hs
  apply Ev.rounds
  unfold laws_FnExactOpShow.f laws_szOp.f laws_toOp.f
  have w : wrap64 (1048576 - (s.size : Int)) = 1048576 - (s.size : Int) := wrap64_id (by omega)
  rw [w]
  by_cases h : 1048576 - (s.size : Int) < 0
  · rw [if_pos h]
    exact Ev.bindc rfl (Ev.pos (by decide) (Ev.pure rfl))
  · rw [if_neg h]
    exact Ev.bindc rfl (Ev.neg h (Ev.bindc rfl (Ev.bind (specShow_ev kind id up at_ s (wf64.1 hi) (wf64.1 hu) (wf64.1 ha) hs) (Ev.bindc rfl (Ev.bindc (show impl_OpShow.f kind id up at_ s = some (opShow kind id up at_ s) from rfl) (Ev.pos rfl (Ev.pure rfl)))))))
end Go.Proofs.YtdapbpgooehibaaDoor.Pure
