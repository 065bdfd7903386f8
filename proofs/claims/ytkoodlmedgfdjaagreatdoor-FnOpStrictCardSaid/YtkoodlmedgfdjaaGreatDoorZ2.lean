/- More short words for steps that printed proofs make again and again. Any world; no condition. -/
import Derived.Test.YtkoodlmedgfdjaaGreatDoorZ
import Derived.Test.YtkoodlmedgfdjaaGreatDoorWTab
import Derived.KernelRfl
import Derived.Test.YtkoodlmedgfdjaaGreatDoorWMore
import Derived.Test.YtkoodlmedgfdjaaGreatDoorWShare
namespace Go.Proofs.YtkoodlmedgfdjaaGreatDoor
open Go.RowKit Go.Proofs.YtkoodlmedgfdjaaGreatDoorW.PrintWords Go.Proofs.YtkoodlmedgfdjaaGreatDoorW.PrintLast Go.Proofs.YtkoodlmedgfdjaaGreatDoorW.PrintMore
set_option linter.unusedVariables false

theorem RA {p q : Prop} (h : Aside0 q) (h2 : q → p := by intro h3; (with_reducible repeat (first | apply Kd.R_alloc | apply Kd.R_drewN | apply Kd.R_drew)); exact h3) : p := h2 h.out
theorem CA {p q : Prop} (h : q) (h2 : q → p := by intro h3; repeat (first | exact h3 | (with_reducible refine Kd.C_alloc ?_ _) | (with_reducible refine Kd.C_drewN ?_ _) | (with_reducible refine Kd.C_drew ?_))) : p := h2 h
theorem bcell {w W : World} {a : Addr} {v : Value} (h : Aside0 (Below w.heap.size w W)) (hc : w.cell? a = some v) : W.cell? a = some v := (h.out.cell (World.block_lt_of_cell? w _ hc)).trans hc
theorem bcellD {w W V : World} {a : Addr} {v : Value} (h : Aside0 (Below w.heap.size w W)) (hc : w.cell? a = some v) (e : V.cell? a = W.cell? a := by rfl) : V.cell? a = some v := e.trans ((h.out.cell (World.block_lt_of_cell? w _ hc)).trans hc)
theorem bk7 {w : World} {g : Nat} {t : TypeId} {a0 a1 a2 a3 a4 a5 a6 : Value} (h : Aside0 (w.heap[g]? = some (.cells #[a0, a1, a2, a3, a4, a5, a6] t (0, 0)))) : w.cell? ⟨g, 0, none⟩ = some a0 ∧ w.cell? ⟨g, 1, none⟩ = some a1 ∧ w.cell? ⟨g, 2, none⟩ = some a2 ∧ w.cell? ⟨g, 3, none⟩ = some a3 ∧ w.cell? ⟨g, 4, none⟩ = some a4 ∧ w.cell? ⟨g, 5, none⟩ = some a5 ∧ w.cell? ⟨g, 6, none⟩ = some a6 := by
  obtain ⟨h0, h1, h2, h3, h4, h5, h6, _⟩ := blk_facts7 h.out
  exact ⟨h0, h1, h2, h3, h4, h5, h6⟩
theorem anA {md : Region.Mode} {ops : Array Oper} {T : Bool × List (List Nat × List Nat)} {l l' : Array Bool} {i : Nat} (hT : Aside0 (rtab md ops = T)) (h : anyT T l.toList l'.toList i = true := by kernel_rfl) : anyB md ops l l' i = true := any_of hT.out h
theorem put7 {w : World} {g : Nat} {t : TypeId} {z0 z1 z2 z3 z4 z5 z6 v0 v1 v2 v3 v4 v5 v6 : Value} (h : w.heap[g]? = some (.cells #[z0, z1, z2, z3, z4, z5, z6] t (0, 0))) : (((((((w.setCell ⟨g, 0, none⟩ v0).setCell ⟨g, 1, none⟩ v1).setCell ⟨g, 2, none⟩ v2).setCell ⟨g, 3, none⟩ v3).setCell ⟨g, 4, none⟩ v4).setCell ⟨g, 5, none⟩ v5).setCell ⟨g, 6, none⟩ v6).heap[g]? = some (.cells #[v0, v1, v2, v3, v4, v5, v6] t (0, 0)) := by
  have k0 : (w.setCell ⟨g, 0, none⟩ v0).heap[g]? = some (.cells #[v0, z1, z2, z3, z4, z5, z6] t (0, 0)) := blk_put h 0 _ rfl
  have k1 : ((w.setCell ⟨g, 0, none⟩ v0).setCell ⟨g, 1, none⟩ v1).heap[g]? = some (.cells #[v0, v1, z2, z3, z4, z5, z6] t (0, 0)) := blk_put k0 1 _ rfl
  have k2 : (((w.setCell ⟨g, 0, none⟩ v0).setCell ⟨g, 1, none⟩ v1).setCell ⟨g, 2, none⟩ v2).heap[g]? = some (.cells #[v0, v1, v2, z3, z4, z5, z6] t (0, 0)) := blk_put k1 2 _ rfl
  have k3 : ((((w.setCell ⟨g, 0, none⟩ v0).setCell ⟨g, 1, none⟩ v1).setCell ⟨g, 2, none⟩ v2).setCell ⟨g, 3, none⟩ v3).heap[g]? = some (.cells #[v0, v1, v2, v3, z4, z5, z6] t (0, 0)) := blk_put k2 3 _ rfl
  have k4 : (((((w.setCell ⟨g, 0, none⟩ v0).setCell ⟨g, 1, none⟩ v1).setCell ⟨g, 2, none⟩ v2).setCell ⟨g, 3, none⟩ v3).setCell ⟨g, 4, none⟩ v4).heap[g]? = some (.cells #[v0, v1, v2, v3, v4, z5, z6] t (0, 0)) := blk_put k3 4 _ rfl
  have k5 : ((((((w.setCell ⟨g, 0, none⟩ v0).setCell ⟨g, 1, none⟩ v1).setCell ⟨g, 2, none⟩ v2).setCell ⟨g, 3, none⟩ v3).setCell ⟨g, 4, none⟩ v4).setCell ⟨g, 5, none⟩ v5).heap[g]? = some (.cells #[v0, v1, v2, v3, v4, v5, z6] t (0, 0)) := blk_put k4 5 _ rfl
  have k6 : (((((((w.setCell ⟨g, 0, none⟩ v0).setCell ⟨g, 1, none⟩ v1).setCell ⟨g, 2, none⟩ v2).setCell ⟨g, 3, none⟩ v3).setCell ⟨g, 4, none⟩ v4).setCell ⟨g, 5, none⟩ v5).setCell ⟨g, 6, none⟩ v6).heap[g]? = some (.cells #[v0, v1, v2, v3, v4, v5, v6] t (0, 0)) := blk_put k5 6 _ rfl
  exact k6
theorem put5 {w : World} {g : Nat} {t : TypeId} {a0 a1 z2 z3 z4 z5 z6 v2 v3 v4 v5 v6 : Value} (h : w.heap[g]? = some (.cells #[a0, a1, z2, z3, z4, z5, z6] t (0, 0))) : (((((w.setCell ⟨g, 2, none⟩ v2).setCell ⟨g, 3, none⟩ v3).setCell ⟨g, 4, none⟩ v4).setCell ⟨g, 5, none⟩ v5).setCell ⟨g, 6, none⟩ v6).heap[g]? = some (.cells #[a0, a1, v2, v3, v4, v5, v6] t (0, 0)) := by
  have k2 : (w.setCell ⟨g, 2, none⟩ v2).heap[g]? = some (.cells #[a0, a1, v2, z3, z4, z5, z6] t (0, 0)) := blk_put h 2 _ rfl
  have k3 : ((w.setCell ⟨g, 2, none⟩ v2).setCell ⟨g, 3, none⟩ v3).heap[g]? = some (.cells #[a0, a1, v2, v3, z4, z5, z6] t (0, 0)) := blk_put k2 3 _ rfl
  have k4 : (((w.setCell ⟨g, 2, none⟩ v2).setCell ⟨g, 3, none⟩ v3).setCell ⟨g, 4, none⟩ v4).heap[g]? = some (.cells #[a0, a1, v2, v3, v4, z5, z6] t (0, 0)) := blk_put k3 4 _ rfl
  have k5 : ((((w.setCell ⟨g, 2, none⟩ v2).setCell ⟨g, 3, none⟩ v3).setCell ⟨g, 4, none⟩ v4).setCell ⟨g, 5, none⟩ v5).heap[g]? = some (.cells #[a0, a1, v2, v3, v4, v5, z6] t (0, 0)) := blk_put k4 5 _ rfl
  have k6 : (((((w.setCell ⟨g, 2, none⟩ v2).setCell ⟨g, 3, none⟩ v3).setCell ⟨g, 4, none⟩ v4).setCell ⟨g, 5, none⟩ v5).setCell ⟨g, 6, none⟩ v6).heap[g]? = some (.cells #[a0, a1, v2, v3, v4, v5, v6] t (0, 0)) := blk_put k5 6 _ rfl
  exact k6
/-- A cell of another row stays where a row of the call's own is appended to. -/
theorem heldG {W w1 : World} {row : Option Nat} {ok : Nat → Prop} {a : Addr} {v : Value} (hg : W.grownBy w1 row) (ho : ∀ k, row = some k → ok k) (h : W.cell? a = some v) (hn : ¬ ok a.block := by first | (rw [add_block]; first | exact fun h_ => h_.2 rfl | exact fun h_ => h_.1 rfl | exact fun h_ => h_ rfl | exact fun h_ => h_.2.1 rfl | exact fun h_ => h_.2.2 rfl | exact fun h_ => h_.1.1 rfl | exact fun h_ => h_.1.2 rfl) | exact fun h_ => h_.2 rfl | exact fun h_ => h_.1 rfl | exact fun h_ => h_ rfl | exact fun h_ => h_.2.1 rfl | exact fun h_ => h_.2.2 rfl | exact fun h_ => h_.1.1 rfl | exact fun h_ => h_.1.2 rfl | exact fun h_ => h_.2 (by rw [add_block]; rfl) | exact fun h_ => h_.1 (by rw [add_block]; rfl)) : w1.cell? a = some v := cell_grown hg h (fun e => hn (ho _ e.symm))
end Go.Proofs.YtkoodlmedgfdjaaGreatDoor
