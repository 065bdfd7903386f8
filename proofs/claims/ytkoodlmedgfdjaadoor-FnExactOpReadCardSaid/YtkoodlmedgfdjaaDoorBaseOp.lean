/- OpOk of the reference answers by the plain word 'opB'; what a drawn change is like. Numbers of 64 bits, texts of any length. -/
import Derived.Test.YtkoodlmedgfdjaaDoorBaseRowOk
import Derived.Test.YtkoodlmedgfdjaaDoorPlainOp
import Derived.Test.YtkoodlmedgfdjaaDoorPx2
import Derived.Test.YtkoodlmedgfdjaaDoorPx1
namespace Go.Proofs.YtkoodlmedgfdjaaDoor.P
open Go.RowKit Go.Proofs.YtkoodlmedgfdjaaDoorW.PrintWords Go.Proofs.YtkoodlmedgfdjaaDoorW.PrintLast
set_option linter.unusedVariables false
set_option linter.unusedSimpArgs false

/-- A number of 64 bits. -/
abbrev I64 (a : Int) : Prop := -9223372036854775808 ≤ a ∧ a ≤ 9223372036854775807
theorem l3Id_eq (a : Int) (ha : I64 a) : spec_l3Id.f a = some (madeB a || rootB a) := by
  unfold spec_l3Id.f
  rw [l1Root_eq, l1Made_eq a ha]
  cases rootB a <;> cases madeB a <;> rfl
theorem specOpOk_ev (kind id up at_ : Int) (s : ByteArray) (hi : I64 id) (hu : I64 up) (ha : I64 at_) (hs : s.size ≤ 9223372036854775806) : Ev (fun k => spec_OpOk.f k kind id up at_ s) (opB kind id up at_ s) := by
  unfold spec_OpOk.f opB
  refine Ev.bindc (l1Made_eq id hi) ?_
  by_cases hm : madeB id = true
  · refine Ev.pos hm ?_
    rw [if_pos hm]
    refine Ev.bind (specText_ev s hs) ?_
    cases ht : textB s with
    | false =>
      refine Ev.step (f := fun _ => some false) (fun k => by simp only [spec_OpOk.j0]; rw [if_pos (by rfl)]) (Ev.pure ?_)
      have he : ¬ s.toList.isEmpty = true := by
        intro h
        rw [List.isEmpty_iff] at h
        unfold textB at ht
        rw [h, List.all_nil, Bool.and_true, decide_eq_false_iff_not] at ht
        have : s.toList.length = s.size := by rw [Lib.toList_data]; simp
        rw [h] at this
        simp at this; omega
      rw [Bool.and_false, Bool.and_false, Bool.eq_false_iff.2 he, Bool.and_false]
      split
      · rfl
      · split
        · rfl
        · split <;> rfl
    | true =>
      refine Ev.step (fun k => by simp only [spec_OpOk.j0]; rw [if_neg (by decide)]) ?_
      by_cases k1 : kind = 1
      · refine Ev.pos k1 ?_
        rw [if_pos k1]
        unfold placeB
        refine Ev.bindc (l3Id_eq up hu) ?_
        cases hp : (madeB up || rootB up) with
        | false => exact Ev.neg (by decide) (Ev.pure rfl)
        | true =>
          refine Ev.pos rfl ?_
          by_cases hz : at_ = 0
          · refine Ev.pos hz (Ev.pure ?_); rw [decide_eq_true hz]; rfl
          · refine Ev.neg hz (Ev.bindc (l1Made_eq at_ ha) (Ev.pure ?_)); rw [decide_eq_false hz]; cases madeB at_ <;> rfl
      · refine Ev.neg k1 ?_
        rw [if_neg k1]
        by_cases k2 : kind = 2
        · refine Ev.pos k2 ?_
          rw [if_pos k2]
          by_cases hz : up = 0
          · refine Ev.pos hz (Ev.pure ?_); rw [decide_eq_true hz, Bool.true_and, Bool.and_true]; rfl
          · refine Ev.neg hz (Ev.pure ?_); rw [decide_eq_false hz]; rfl
        · refine Ev.neg k2 ?_
          rw [if_neg k2]
          by_cases k3 : kind = 3
          · refine Ev.pos k3 ?_
            rw [if_pos k3]
            unfold placeB
            refine Ev.bindc (l3Id_eq up hu) ?_
            cases hp : (madeB up || rootB up) with
            | false => exact Ev.neg (by decide) (Ev.pure rfl)
            | true =>
              refine Ev.pos rfl ?_
              by_cases hz : at_ = 0
              · refine Ev.pos hz (Ev.pure ?_); rw [decide_eq_true hz, beq_nil_isEmpty]; rfl
              · refine Ev.neg hz (Ev.bindc (l1Made_eq at_ ha) ?_)
                rw [decide_eq_false hz]
                cases madeB at_ with
                | false => exact Ev.neg (by decide) (Ev.pure rfl)
                | true => refine Ev.pos rfl (Ev.pure ?_); rw [beq_nil_isEmpty]; rfl
          · refine Ev.neg k3 (Ev.pure ?_)
            rw [if_neg k3]
  · refine Ev.neg hm (Ev.step (f := fun _ => some false) (fun k => by simp only [spec_OpOk.j0]; rw [if_pos trivial]) (Ev.pure ?_))
    rw [if_neg hm]
end Go.Proofs.YtkoodlmedgfdjaaDoor.P
