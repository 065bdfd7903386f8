/- Plain words on numbers and texts: which numbers are rows', who makes one, which texts are texts. No Go, no memory; no condition. -/
import Derived.Test.YtkoodlmedgfdjaaGreatDoorWWords
namespace Go.Proofs.YtkoodlmedgfdjaaGreatDoor
open Go.RowKit Go.Proofs.YtkoodlmedgfdjaaGreatDoorW.PrintWords

/-- A root's number. -/
def rootB (id : Int) : Bool := decide (1 ≤ id ∧ id ≤ 3)
/-- The number of a row that somebody makes. -/
def madeB (id : Int) : Bool := decide ((11 ≤ id ∧ id ≤ 16) ∨ (21 ≤ id ∧ id ≤ 26) ∨ (31 ≤ id ∧ id ≤ 36))
/-- Who makes a row. -/
def rowWho (id : Int) : Int × Bool := if rootB id = true then (0, true) else if madeB id = true then (id / 10, true) else (0, false)
/-- A text: at most four letters from a to d. -/
def textB (s : ByteArray) : Bool := decide (s.size ≤ 4) && s.toList.all fun c => decide (97 ≤ c.toNat) && decide (c.toNat ≤ 100)
/-- A valid row. -/
def rowB (id depth : Int) (text : ByteArray) : Bool := if rootB id = true then decide (depth = 0) && text.toList.isEmpty else madeB id && decide (1 ≤ depth ∧ depth ≤ 18) && textB text
theorem rootB_iff {id : Int} : rootB id = true ↔ 1 ≤ id ∧ id ≤ 3 := by simp [rootB]
theorem madeB_iff {id : Int} : madeB id = true ↔ (11 ≤ id ∧ id ≤ 16) ∨ (21 ≤ id ∧ id ≤ 26) ∨ (31 ≤ id ∧ id ≤ 36) := by simp [madeB]
theorem rootB_false {id : Int} : rootB id = false ↔ ¬ (1 ≤ id ∧ id ≤ 3) := by simp only [rootB, decide_eq_false_iff_not]
theorem madeB_false {id : Int} : madeB id = false ↔ ¬ ((11 ≤ id ∧ id ≤ 16) ∨ (21 ≤ id ∧ id ≤ 26) ∨ (31 ≤ id ∧ id ≤ 36)) := by simp only [madeB, decide_eq_false_iff_not]
/-- By tens and units, as the reference has it. -/
theorem madeB_tens (id : Int) : madeB id = (decide (1 ≤ id.tdiv 10 ∧ id.tdiv 10 ≤ 3) && decide (1 ≤ id.tmod 10 ∧ id.tmod 10 ≤ 6)) := by

  rw [Bool.eq_iff_iff, madeB_iff]
  simp only [Bool.and_eq_true, decide_eq_true_eq]
  rcases Int.le_total 0 id with h | h
  · rw [Int.tdiv_eq_ediv_of_nonneg h, Int.tmod_eq_emod_of_nonneg h]; omega
  · obtain ⟨n, rfl⟩ : ∃ n : Nat, id = -(n : Int) := ⟨id.natAbs, by omega⟩
    rw [Int.neg_tdiv, Int.neg_tmod, Int.tdiv_eq_ediv_of_nonneg (by omega), Int.tmod_eq_emod_of_nonneg (by omega)]; omega
end Go.Proofs.YtkoodlmedgfdjaaGreatDoor
