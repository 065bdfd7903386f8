/- Short words for steps that printed proofs make again and again: each says no more than the step itself. Any world; no condition. -/
import Derived.Test.YtlpfjabfhgfpmaaDoorV
import Derived.WalkKit
namespace Go.Proofs.YtlpfjabfhgfpmaaDoor
open Go.RowKit Go.Proofs.YtlpfjabfhgfpmaaDoorW.PrintWords Go.Proofs.YtlpfjabfhgfpmaaDoorW.PrintLast
set_option linter.unusedVariables false
theorem asideA {p : Prop} (h : Aside0 p := by with_reducible assumption) : p := h.out
theorem belowA {w W : World} (h : Below w.heap.size w W := by repeat (first | (with_reducible first | exact HB.out | apply below_alloc | apply pw_below_drewN | apply below_drew1 | refine below_set ?_ asideA | refine below_set ?_ (IsS80.ge asideA)) | exact HB.out)) : Below w.heap.size w W := h
theorem stA {p : Prop} (h : p := by repeat (first | (with_reducible first | exact asideA | apply IsS80.alloc | apply IsS80.drewN | apply IsS80.drew | apply IsS80.set_1 | refine IsS80.far ?_ asideA _) | exact Aside0.out (by assumption))) : p := h
theorem keepA {p : Prop} (h : p := by repeat (first | (with_reducible first | exact HK.out | apply KeepBut.set_ | apply keep_drewN | apply keep_drew | apply keep_alloc | refine keep_far (w := w) ?_ asideA _) | exact HK.out)) : p := h
theorem endA {a b : Ending} (h : a = b := by first | rfl | (simp <;> rfl) | (simp [*] <;> rfl)) : a = b := h
theorem blkA {w : World} {g : Nat} {o : Obj} (h : w.heap[g]? = some o := by repeat (with_reducible first | exact asideA | refine blk_drewN ?_ _ | refine blk_drew ?_ | refine blk_alloc ?_ _ | refine blk_far ?_ asideA _)) : w.heap[g]? = some o := h
theorem blkC (cs : Array Value) {w : World} {g : Nat} {t : TypeId} (h : w.heap[g]? = some (.cells cs t (0, 0)) := by repeat (with_reducible first | exact asideA | refine blk_drewN ?_ _ | refine blk_drew ?_ | refine blk_alloc ?_ _ | refine blk_far ?_ asideA _)) : w.heap[g]? = some (.cells cs t (0, 0)) := h
theorem argsA {a b : Array Value} (h : a = b := by (try simp only [List.map_toArray, List.map_cons, List.map_nil]); first | done | rfl | (simp only [List.length_drop, List.length_take]; rfl)) : a = b := h
theorem blk_facts3 {w : World} {g : Nat} {t : TypeId} {a0 a1 a2 : Value} (h : w.heap[g]? = some (.cells #[a0, a1, a2] t (0, 0))) : w.cell? ⟨g, 0, none⟩ = some a0 ∧ w.cell? ⟨g, 1, none⟩ = some a1 ∧ w.cell? ⟨g, 2, none⟩ = some a2 ∧ w.frozen? ⟨g, 0, none⟩ = false ∧ w.frozen? ⟨g, 1, none⟩ = false ∧ w.frozen? ⟨g, 2, none⟩ = false :=
 ⟨(blk_cell h 0).trans rfl, (blk_cell h 1).trans rfl, (blk_cell h 2).trans rfl, blk_frozen h 0, blk_frozen h 1, blk_frozen h 2⟩
theorem blk_facts5 {w : World} {g : Nat} {t : TypeId} {a0 a1 a2 a3 a4 : Value} (h : w.heap[g]? = some (.cells #[a0, a1, a2, a3, a4] t (0, 0))) : w.cell? ⟨g, 0, none⟩ = some a0 ∧ w.cell? ⟨g, 1, none⟩ = some a1 ∧ w.cell? ⟨g, 2, none⟩ = some a2 ∧ w.cell? ⟨g, 3, none⟩ = some a3 ∧ w.cell? ⟨g, 4, none⟩ = some a4 ∧ w.frozen? ⟨g, 0, none⟩ = false ∧ w.frozen? ⟨g, 1, none⟩ = false ∧ w.frozen? ⟨g, 2, none⟩ = false ∧ w.frozen? ⟨g, 3, none⟩ = false ∧ w.frozen? ⟨g, 4, none⟩ = false :=
 ⟨(blk_cell h 0).trans rfl, (blk_cell h 1).trans rfl, (blk_cell h 2).trans rfl, (blk_cell h 3).trans rfl, (blk_cell h 4).trans rfl, blk_frozen h 0, blk_frozen h 1, blk_frozen h 2, blk_frozen h 3, blk_frozen h 4⟩
theorem blk_facts7 {w : World} {g : Nat} {t : TypeId} {a0 a1 a2 a3 a4 a5 a6 : Value} (h : w.heap[g]? = some (.cells #[a0, a1, a2, a3, a4, a5, a6] t (0, 0))) : w.cell? ⟨g, 0, none⟩ = some a0 ∧ w.cell? ⟨g, 1, none⟩ = some a1 ∧ w.cell? ⟨g, 2, none⟩ = some a2 ∧ w.cell? ⟨g, 3, none⟩ = some a3 ∧ w.cell? ⟨g, 4, none⟩ = some a4 ∧ w.cell? ⟨g, 5, none⟩ = some a5 ∧ w.cell? ⟨g, 6, none⟩ = some a6 ∧ w.frozen? ⟨g, 0, none⟩ = false ∧ w.frozen? ⟨g, 1, none⟩ = false ∧ w.frozen? ⟨g, 2, none⟩ = false ∧ w.frozen? ⟨g, 3, none⟩ = false ∧ w.frozen? ⟨g, 4, none⟩ = false ∧ w.frozen? ⟨g, 5, none⟩ = false ∧ w.frozen? ⟨g, 6, none⟩ = false :=
 ⟨(blk_cell h 0).trans rfl, (blk_cell h 1).trans rfl, (blk_cell h 2).trans rfl, (blk_cell h 3).trans rfl, (blk_cell h 4).trans rfl, (blk_cell h 5).trans rfl, (blk_cell h 6).trans rfl, blk_frozen h 0, blk_frozen h 1, blk_frozen h 2, blk_frozen h 3, blk_frozen h 4, blk_frozen h 5, blk_frozen h 6⟩
def tf (k m : Nat) : Array Bool := (List.replicate k true ++ List.replicate m false).toArray
theorem yldA {P : Program} {ops : Array Oper} {o : Oper} {v : Value} {a : Act} (h1 : Region.wanted o (yielded ops a.tmps) = true := by rfl) (h2 : ∀ w, (execOp a.eval o).run P w = .ok (.value v) w := by intro w'; go_simp; with_reducible rfl) : Yields P ops o v a := .inl ⟨h1, h2⟩
theorem yldU {P : Program} {ops : Array Oper} {o : Oper} {a : Act} (h1 : Region.wanted o (yielded ops a.tmps) = false := by rfl) : Yields P ops o undef a := .inr ⟨h1, rfl⟩
theorem putA {a : Act} {N : Option Tmp} {v : Value} {a' : Act} (h : a.put N v = a' := by simp only [Act.put, List.setIfInBounds_toArray, List.set_cons_zero, List.set_cons_succ, i64_w, i32_w]; rfl) : a.put N v = a' := h
end Go.Proofs.YtlpfjabfhgfpmaaDoor
