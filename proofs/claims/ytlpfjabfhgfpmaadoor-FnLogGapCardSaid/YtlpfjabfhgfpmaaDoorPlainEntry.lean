/- A plain word on entries. No Go, no memory; no condition. -/
import Derived.Test.YtlpfjabfhgfpmaaDoorPlainOp
namespace Go.Proofs.YtlpfjabfhgfpmaaDoor
def entryB (who seq kind id up at_ : Int) (s : ByteArray) : Bool :=
 (decide (1 ≤ who ∧ who ≤ 3) && decide (1 ≤ seq ∧ seq ≤ 40)) && (opB kind id up at_ s && (decide (kind ≠ 1) || decide (id / 10 = who)))
theorem opB_made {kind id up at_ : Int} {s : ByteArray} (h : opB kind id up at_ s = true) : madeB id = true := by
 unfold opB at h
 by_cases hm : madeB id = true
 ·exact hm
 ·rw [if_neg hm] at h; cases h
end Go.Proofs.YtlpfjabfhgfpmaaDoor
