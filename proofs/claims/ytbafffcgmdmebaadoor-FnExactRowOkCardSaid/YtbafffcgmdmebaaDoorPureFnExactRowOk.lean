/- The pure statement of the law FnExactRowOk: for every row the program's RowOk and the reference's answer alike. Conditions: numbers of 64 bits, a text of at most 2^47 bytes. -/
import Derived.Test.YtbafffcgmdmebaaDoorPx10
import Derived.Test.YtbafffcgmdmebaaDoorBaseRowOk
namespace Go.Proofs.YtbafffcgmdmebaaDoor.Pure
open Go.RowKit Go.Proofs.YtbafffcgmdmebaaDoor Go.Proofs.YtbafffcgmdmebaaDoor.P Go.Proofs.YtbafffcgmdmebaaDoorW.PrintWords Go.Proofs.YtbafffcgmdmebaaDoorW.PrintLast

theorem FnExactRowOk : laws_FnExactRowOk.Pure := by
  intro i d s hi hd hs
  apply Ev.rounds
  unfold laws_FnExactRowOk.f laws_szRow.f laws_toRow.f
  have w : wrap64 (1048576 - (s.size : Int)) = 1048576 - (s.size : Int) := wrap64_id (by omega)
  rw [w]
  by_cases h : 1048576 - (s.size : Int) < 0
  · rw [if_pos h]
    exact Ev.bindc rfl (Ev.pos (by decide) (Ev.pure rfl))
  · rw [if_neg h]
    refine Ev.bindc rfl (Ev.neg h (Ev.bindc rfl (Ev.bind (specRowOk_ev i d s (wf64.1 hi) (by omega)) (Ev.bindc rfl (Ev.bind (implRowOk_ev i d s) (Ev.neg (by simp) (Ev.pure rfl)))))))
end Go.Proofs.YtbafffcgmdmebaaDoor.Pure
