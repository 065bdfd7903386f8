/- The pure statement of the law FnMadeWho: at every two codes, the drawn row number is told by who made it and which it is, and no other pair has it. No further condition. -/
import Derived.Test.YtbafffcgmdmebaaDoorPx5
import Derived.Test.YtbafffcgmdmebaaDoorBaseMade
namespace Go.Proofs.YtbafffcgmdmebaaDoor.Pure
open Go.RowKit Go.Proofs.YtbafffcgmdmebaaDoor Go.Proofs.YtbafffcgmdmebaaDoor.P Go.Proofs.YtbafffcgmdmebaaDoorW.PrintWords Go.Proofs.YtbafffcgmdmebaaDoorW.PrintLast

theorem j1_true (l : List Int) (a b : Int) (h : rowMade a b ≠ 0) (hl : l.length ≤ 1048576) : ∀ k, laws_FnMadeWho.j1 (k + 1) l a b (rowMade a b) (rowMade a b == 0) = some true := by
  intro k
  obtain ⟨ha, hb, e, hw⟩ := rowMade_who h
  have h3 : 0 ≤ (l.length : Int) / 3 ∧ (l.length : Int) / 3 ≤ l.length := by omega
  have w1 : wrap64 ((l.length : Int) / 3) = (l.length : Int) / 3 := wrap64_id (by omega)
  have t1 := tmod_rng ((l.length : Int) / 3) 6 h3.1 (by omega)
  have w2 : wrap64 (1 + Int.tmod ((l.length : Int) / 3) 6) = 1 + Int.tmod ((l.length : Int) / 3) 6 := wrap64_id (by omega)
  have hA : 1 ≤ 1 + (l.length : Int) % 3 ∧ 1 + (l.length : Int) % 3 ≤ 3 := by omega
  simp only [laws_FnMadeWho.j1, implRowMade_eq, specRowMade_eq, w1, w2]
  rw [if_neg (by simpa using h)]
  unfold impl_RowWho.f
  rw [e, hw]
  simp only [Option.bind_some, if_true]
  generalize (l.length : Int) % 3 = m at *
  generalize Int.tmod ((l.length : Int) / 3) 6 = r at *
  have e2 : rowMade (1 + m) (1 + r) = 10 * (1 + m) + (1 + r) := by unfold rowMade; rw [if_pos (by omega)]
  rw [e2]
  by_cases hq : 1 + m = a
  · rw [if_pos hq]
    congr 1
    by_cases hr : 1 + r = b
    · rw [hq, hr]; simp
    · have hr2 : ¬ (10 * (1 + m) + (1 + r) = 10 * a + b) := by omega
      rw [beq_eq_false_iff_ne.2 hr, beq_eq_false_iff_ne.2 hr2]; rfl
  · rw [if_neg hq]
    have hr2 : ¬ (10 * (1 + m) + (1 + r) = 10 * a + b) := by omega
    rw [beq_eq_false_iff_ne.2 hr2]; rfl

theorem FnMadeWho : laws_FnMadeWho.Pure := by
  intro l0 l1 _ h0 _ _
  apply Ev.rounds
  unfold laws_FnMadeWho.f
  have skip : Ev (fun k => laws_FnMadeWho.j0 k l0 l1 true) true := Ev.step (f := fun _ => some true) (fun k => by simp [laws_FnMadeWho.j0]) (Ev.pure rfl)
  by_cases c0 : (l0.length : Int) > 1048576
  · exact Ev.pos c0 skip
  refine Ev.neg c0 ?_
  by_cases c1 : (l1.length : Int) > 1048576
  · simp only [decide_eq_true c1]; exact skip
  simp only [decide_eq_false c1]
  obtain ⟨a, b, hd, _⟩ := drawRowMade_ev l0 h0
  refine Ev.step (fun k => by simp only [laws_FnMadeWho.j0]; rw [if_neg (by decide)]) ?_
  refine Ev.bind hd (Ev.bindc (implRowMade_eq a b) (Ev.bindc (specRowMade_eq a b) (Ev.pos rfl ?_)))
  by_cases hz : rowMade a b = 0
  · refine Ev.step (f := fun _ => some true) (fun k => ?_) (Ev.pure rfl)
    simp only [laws_FnMadeWho.j1]
    rw [if_pos (by rw [hz]; rfl), specRowMade_eq]
    simp
  · exact Ev.step (f := fun _ => some true) (fun k => j1_true l1 a b hz (by omega) k) (Ev.pure rfl)
end Go.Proofs.YtbafffcgmdmebaaDoor.Pure
