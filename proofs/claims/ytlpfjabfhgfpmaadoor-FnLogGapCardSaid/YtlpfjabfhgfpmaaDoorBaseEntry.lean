/- EntryOk of the program and of the reference answer by one plain word. Numbers of 64 bits, texts of any length. -/
import Derived.Test.YtlpfjabfhgfpmaaDoorBaseOp
import Derived.Test.YtlpfjabfhgfpmaaDoorPlainEntry
import Derived.Test.YtlpfjabfhgfpmaaDoorPx2
import Derived.Test.YtlpfjabfhgfpmaaDoorPx4
namespace Go.Proofs.YtlpfjabfhgfpmaaDoor.P
open Go.RowKit Go.Proofs.YtlpfjabfhgfpmaaDoorW.PrintWords Go.Proofs.YtlpfjabfhgfpmaaDoorW.PrintLast
set_option linter.unusedVariables false
set_option linter.unusedSimpArgs false
theorem specEntryOk_ev (who seq kind id up at_ : Int) (s : ByteArray) (hi : I64 id) (hu : I64 up) (ha : I64 at_) (hs : s.size ≤ 9223372036854775806) : Ev (fun k => spec_EntryOk.f k who seq kind id up at_ s) (entryB who seq kind id up at_ s) := by
 unfold spec_EntryOk.f entryB
 refine Ev.bindc (l6In_eq who 1 3) ?_
 by_cases hw : 1 ≤ who ∧ who ≤ 3
 ·refine Ev.pos (decide_eq_true hw) (Ev.bindc (l6In_eq seq 1 40) ?_)
  rw [decide_eq_true hw, Bool.true_and]
  by_cases hq : 1 ≤ seq ∧ seq ≤ 40
  ·refine Ev.pos (decide_eq_true hq) (Ev.bind (specOpOk_ev kind id up at_ s hi hu ha hs) ?_)
   rw [decide_eq_true hq, Bool.true_and]
   cases ho : opB kind id up at_ s with
   | false => exact Ev.neg (by decide) (Ev.pure rfl)
   | true =>
    refine Ev.pos rfl ?_
    rw [Bool.true_and]
    by_cases hk : kind = 1
    ·refine Ev.pos hk (Ev.pure ?_)
     have hm := madeB_iff.1 (opB_made ho)
     rw [wrap64_id (tdiv_rng hi (by omega)), Int.tdiv_eq_ediv_of_nonneg (by omega), decide_eq_false (by omega), Bool.false_or]
     rfl
    ·refine Ev.neg hk (Ev.pure ?_)
     rw [decide_eq_true hk, Bool.true_or]
  ·refine Ev.neg (by simpa using hq) (Ev.pure ?_)
   rw [decide_eq_false hq, Bool.false_and]
 ·refine Ev.neg (by simpa using hw) (Ev.pure ?_)
  rw [decide_eq_false hw, Bool.false_and, Bool.false_and]
theorem implEntryOk_eq (who seq kind id up at_ : Int) (s : ByteArray) : impl_EntryOk.f who seq kind id up at_ s = some (entryB who seq kind id up at_ s) := by
 first
 |
  rfl
 |
  unfold impl_EntryOk.f impl_whoOk.f impl_OpOk.f impl_RowWho.f entryB
  by_cases hw : 1 ≤ who ∧ who ≤ 3
  ·rw [if_pos (by omega), decide_eq_true (show who ≤ 3 by omega), decide_eq_true hw]
   simp only [Option.bind_some, if_true, Bool.true_and]
   by_cases hq : 1 ≤ seq ∧ seq ≤ 40
   ·rw [if_neg (by omega), if_neg (by omega), decide_eq_true hq, Bool.true_and]
    cases ho : opB kind id up at_ s with
    | false => rfl
    | true =>
     rw [if_pos rfl, Bool.true_and]
     by_cases hk : kind = 1
     ·have hm := opB_made ho
      have hm2 := madeB_iff.1 hm
      have e : rowWho id = (id / 10, true) := by unfold rowWho; rw [if_neg (by rw [rootB_iff]; omega), if_pos hm]
      rw [if_pos hk, e, decide_eq_false (by omega), Bool.false_or]; rfl
     ·rw [if_neg hk, decide_eq_true hk, Bool.true_or]
   ·by_cases h1 : seq < 1
    ·rw [if_pos h1, decide_eq_false hq, Bool.false_and]
    ·rw [if_neg h1, if_pos (by omega), decide_eq_false hq, Bool.false_and]
  ·rw [decide_eq_false hw, Bool.false_and, Bool.false_and]
   by_cases h1 : who ≥ 1
   ·rw [if_pos h1, decide_eq_false (show ¬ who ≤ 3 by omega)]; rfl
   ·rw [if_neg h1]; rfl
end Go.Proofs.YtlpfjabfhgfpmaaDoor.P
