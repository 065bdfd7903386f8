/- The pure statement of the law FnExactEntryOk: for every entry the program's EntryOk and the reference's answer alike. Conditions: numbers of 64 bits, a text of at most 2^47 bytes. -/
import Derived.Test.YtbafffcgmdmebaaDoorPx16
import Derived.Test.YtbafffcgmdmebaaDoorBaseEntry
namespace Go.Proofs.YtbafffcgmdmebaaDoor.Pure
open Go.RowKit Go.Proofs.YtbafffcgmdmebaaDoor Go.Proofs.YtbafffcgmdmebaaDoor.P Go.Proofs.YtbafffcgmdmebaaDoorW.PrintWords Go.Proofs.YtbafffcgmdmebaaDoorW.PrintLast

theorem FnExactEntryOk : laws_FnExactEntryOk.Pure := by
  intro who seq kind id up at_ s hw hq hk hi hu ha hs
  apply Ev.rounds
  unfold laws_FnExactEntryOk.f laws_szEntry.f laws_szOp.f laws_toEntry.f laws_toOp.f
  have w : wrap64 (1048576 - (s.size : Int)) = 1048576 - (s.size : Int) := wrap64_id (by omega)
  rw [w]
  by_cases h : 1048576 - (s.size : Int) < 0
  · rw [if_pos h]
    exact Ev.bindc rfl (Ev.pos (by decide) (Ev.pure rfl))
  · rw [if_neg h]
    refine Ev.bindc (a := 1048576 - (s.size : Int)) (by simp only [Option.bind_some]; rw [if_neg h]) (Ev.neg h (Ev.bindc rfl (Ev.bind (specEntryOk_ev who seq kind id up at_ s (wf64.1 hi) (wf64.1 hu) (wf64.1 ha) (by omega)) (Ev.bindc rfl (Ev.bindc (implEntryOk_eq who seq kind id up at_ s) (Ev.neg (by simp) (Ev.pure rfl)))))))
end Go.Proofs.YtbafffcgmdmebaaDoor.Pure
