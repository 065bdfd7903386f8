/- What the row functions of the program and of the reference answer, in plain words: each for every argument (64-bit integers; texts of any length). -/
import Derived.Test.YtlpfjabfhgfpmaaDoorPlain
import Derived.Test.YtlpfjabfhgfpmaaDoorGen
import Derived.Test.YtlpfjabfhgfpmaaDoorPx6
import Derived.Test.YtlpfjabfhgfpmaaDoorPx6
import Derived.Test.YtlpfjabfhgfpmaaDoorPx6
import Derived.Test.YtlpfjabfhgfpmaaDoorPx2
import Derived.Test.YtlpfjabfhgfpmaaDoorPx2
import Derived.Test.YtlpfjabfhgfpmaaDoorPx2
import Derived.Test.YtlpfjabfhgfpmaaDoorPx2
namespace Go.Proofs.YtlpfjabfhgfpmaaDoor.P
open Go.RowKit Go.Proofs.YtlpfjabfhgfpmaaDoorW.PrintWords Go.Proofs.YtlpfjabfhgfpmaaDoorW.PrintLast
set_option linter.unusedVariables false
set_option linter.unusedSimpArgs false

/-! ### rows -/
theorem l6In_eq (a b c : Int) : spec_l6In.f a b c = some (decide (b ≤ a ∧ a ≤ c)) := by
  unfold spec_l6In.f
  by_cases h : a ≥ b
  · rw [if_pos h]; congr 1; simp; omega
  · rw [if_neg h]; congr 1; simp; omega
theorem l1Root_eq (a : Int) : spec_l1Root.f a = some (rootB a) := by
  unfold spec_l1Root.f; rw [l6In_eq]; rfl
theorem l1Made_eq (a : Int) (ha : -9223372036854775808 ≤ a ∧ a ≤ 9223372036854775807) : spec_l1Made.f a = some (madeB a) := by
  unfold spec_l1Made.f
  rw [wrap64_id (tdiv_rng ha (by omega)), l6In_eq, l6In_eq, madeB_tens]
  simp only [Option.bind_some]
  by_cases h : 1 ≤ Int.tdiv a 10 ∧ Int.tdiv a 10 ≤ 3
  · rw [if_pos (decide_eq_true h), decide_eq_true h, Bool.true_and]
  · rw [if_neg (by rw [decide_eq_false h]; decide), decide_eq_false h, Bool.false_and]
theorem isRoot_eq (a : Int) : impl_isRoot.f a = some (rootB a) := by
  unfold impl_isRoot.f impl_RowWho.f rowWho
  simp only [Option.bind_some]
  by_cases h : rootB a = true
  · rw [if_pos h, h]; rfl
  · rw [if_neg h]
    by_cases h2 : madeB a = true
    · rw [if_pos h2]
      have := madeB_iff.1 h2
      rw [if_pos rfl, Bool.eq_false_iff.2 h]
      congr 1
      exact beq_eq_false_iff_ne.2 (by show a / 10 ≠ 0; omega)
    · rw [if_neg h2, Bool.eq_false_iff.2 h]; rfl
theorem isMade_eq (a : Int) : impl_isMade.f a = some (madeB a) := by
  unfold impl_isMade.f impl_RowWho.f rowWho
  simp only [Option.bind_some]
  by_cases h : rootB a = true
  · have h2 : madeB a = false := by have := rootB_iff.1 h; exact madeB_false.2 (by omega)
    rw [if_pos h, h2]; rfl
  · rw [if_neg h]
    by_cases h2 : madeB a = true
    · rw [if_pos h2]
      have := madeB_iff.1 h2
      rw [if_pos rfl, h2]
      congr 1
      exact bne_iff_ne.2 (by show a / 10 ≠ 0; omega)
    · rw [if_neg h2, Bool.eq_false_iff.2 h2]; rfl
end Go.Proofs.YtlpfjabfhgfpmaaDoor.P
