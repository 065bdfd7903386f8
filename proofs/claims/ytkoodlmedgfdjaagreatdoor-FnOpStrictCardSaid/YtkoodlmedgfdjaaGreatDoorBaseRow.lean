/- What the row functions of the program and of the reference answer, in plain words: each for every argument (64-bit integers; texts of any length). -/
import Derived.Test.YtkoodlmedgfdjaaGreatDoorPlain
import Derived.Test.YtkoodlmedgfdjaaGreatDoorGen
import Derived.Test.YtkoodlmedgfdjaaGreatDoorPx2
import Derived.Test.YtkoodlmedgfdjaaGreatDoorPx2
import Derived.Test.YtkoodlmedgfdjaaGreatDoorPx2
import Derived.Test.YtkoodlmedgfdjaaGreatDoorPx2
namespace Go.Proofs.YtkoodlmedgfdjaaGreatDoor.P
open Go.RowKit Go.Proofs.YtkoodlmedgfdjaaGreatDoorW.PrintWords Go.Proofs.YtkoodlmedgfdjaaGreatDoorW.PrintLast
set_option linter.unusedVariables false
set_option linter.unusedSimpArgs false

/-! ### rows -/
theorem l6In_eq (a b c : Int) : spec_l6In.f a b c = some (decide (b ≤ a ∧ a ≤ c)) := by
  unfold spec_l6In.f
  by_cases h : a ≥ b
  · rw [if_pos h]; congr 1; simp; omega
  · rw [if_neg h]; congr 1; simp; omega
theorem l1Root_eq (a : Int) : spec_l1Root.f a = some (rootB a) := by
  unfold spec_l1Root.f; rw [l6In_eq]; rfl
theorem l1Made_eq (a : Int) (ha : -9223372036854775808 ≤ a ∧ a ≤ 9223372036854775807) : spec_l1Made.f a = some (madeB a) := by
  unfold spec_l1Made.f
  rw [wrap64_id (tdiv_rng ha (by omega)), l6In_eq, l6In_eq, madeB_tens]
  simp only [Option.bind_some]
  by_cases h : 1 ≤ Int.tdiv a 10 ∧ Int.tdiv a 10 ≤ 3
  · rw [if_pos (decide_eq_true h), decide_eq_true h, Bool.true_and]
  · rw [if_neg (by rw [decide_eq_false h]; decide), decide_eq_false h, Bool.false_and]
end Go.Proofs.YtkoodlmedgfdjaaGreatDoor.P
