/- Plain words on logs: entries one behind the other, each numbered by how many of the same maker stand ahead. No Go, no memory; no condition. -/
import Derived.Test.YtlpfjabfhgfpmaaDoorPlain
namespace Go.Proofs.YtlpfjabfhgfpmaaDoor.LogM
set_option linter.unusedVariables false
set_option linter.unusedSimpArgs false
variable {α : Type} (ok : α → Bool) (who seq : α → Int)
def lok : List α → List Int → Bool
 | [], _ => true
 | x :: r, seen => ok x && (decide (seq x = (seen.count (who x) : Int) + 1) && lok r (seen ++ [who x]))
theorem lok_append : ∀ (a b : List α) (seen : List Int), lok ok who seq (a ++ b) seen = (lok ok who seq a seen && lok ok who seq b (seen ++ a.map who))
 | [], b, seen => by simp [lok]
 | x :: a, b, seen => by
  simp only [List.cons_append, lok, lok_append a b, List.map_cons]
  rw [List.append_assoc]
  simp only [List.cons_append, List.nil_append, Bool.and_assoc]
theorem lok_snoc (a : List α) (x : α) : lok ok who seq (a ++ [x]) [] = (lok ok who seq a [] && (ok x && decide (seq x = ((a.map who).count (who x) : Int) + 1))) := by
 rw [lok_append]; simp [lok]
theorem lok_take {l : List α} (h : lok ok who seq l [] = true) (i : Nat) : lok ok who seq (l.take i) [] = true := by
 rw [← List.take_append_drop i l, lok_append] at h
 exact (Bool.and_eq_true_iff.1 h).1
theorem lok_at {l : List α} (h : lok ok who seq l [] = true) (i : Nat) (hi : i < l.length) : ok l[i] = true ∧ seq l[i] = (((l.take i).map who).count (who l[i]) : Int) + 1 := by
 have h1 := lok_take ok who seq h (i + 1)
 rw [List.take_succ_eq_append_getElem hi, lok_snoc] at h1
 simp only [Bool.and_eq_true, decide_eq_true_eq] at h1
 exact h1.2
theorem lok_mem {l : List α} (h : lok ok who seq l [] = true) {x : α} (hx : x ∈ l) : ok x = true ∧ 1 ≤ seq x ∧ seq x ≤ ((l.map who).count (who x) : Int) := by
 obtain ⟨i, hi, rfl⟩ := List.getElem_of_mem hx
 obtain ⟨h1, h2⟩ := lok_at ok who seq h i hi
 have h3 : ((l.take (i + 1)).map who).count (who l[i]) ≤ (l.map who).count (who l[i]) := by
  apply List.Sublist.count_le
  exact (List.take_sublist _ _).map _
 rw [List.take_succ_eq_append_getElem hi, List.map_append, List.count_append] at h3
 simp only [List.map_cons, List.map_nil, List.count_singleton_self] at h3
 exact ⟨h1, by omega, by omega⟩
end Go.Proofs.YtlpfjabfhgfpmaaDoor.LogM
