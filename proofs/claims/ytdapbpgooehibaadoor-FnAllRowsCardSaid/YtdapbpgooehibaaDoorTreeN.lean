/- Small laws of the planted tree that other walks use: a row's number by its box, growth, the roots' places. No condition but those in the rows. -/
import Derived.Test.YtdapbpgooehibaaDoorTreeI
namespace Go.Proofs.YtdapbpgooehibaaDoor
open Go.RowKit Go.Shelf Go.Proofs.YtdapbpgooehibaaDoorW.PrintWords Go.Proofs.YtdapbpgooehibaaDoorW.PrintLast Go.Proofs.YtdapbpgooehibaaDoorW.PrintMore Go.Proofs.YtdapbpgooehibaaDoor.P
set_option linter.unusedVariables false
set_option linter.unusedSimpArgs false

theorem idOf_cell (g : Nat) (id : Int) (w : World) (h : w.cell? ⟨g, 0, none⟩ = some (.int .i64 id)) : Calls Tryd.prog 38 #[.pointer (some ⟨g, 0, none⟩)] w fun e w' => e = .returned (.int .i64 id) ∧ w' = w := by
  go_enter Tryd.func38, Tryd.ntmps38
  go_wp2
  go_ret
  exact ⟨rfl, rfl⟩
theorem Nodes.grow {w W : World} {nb : Nat → Nat} {l : List S29} (h : Nodes w.heap.size w nb l) (hb : Below w.heap.size w W) : Nodes W.heap.size W nb l :=
  ⟨fun i hi => Nat.lt_of_lt_of_le (h.low i hi) (below_size hb), (h.below hb).node, h.inj⟩
theorem Nodes.id {n₀ : Nat} {W : World} {nb : Nat → Nat} {l : List S29} (h : Nodes n₀ W nb l) {i : Nat} (hi : i < l.length) : W.cell? ⟨nb i, 0, none⟩ = some (.int .i64 (idAt l i)) := (blk_cell (h.node i hi) 0).trans rfl
theorem Nodes.up {n₀ : Nat} {W : World} {nb : Nat → Nat} {l : List S29} (h : Nodes n₀ W nb l) {i u : Nat} (hi : i < l.length) (hp : Tree.par (depthAt l) i = some u) : W.cell? ⟨nb i, 2, none⟩ = some (.pointer (some ⟨nb u, 0, none⟩)) := (blk_cell (h.node i hi) 2).trans (by rw [hp]; rfl)
theorem Planted.under {W W1 : World} {fb lb : Nat} {nb : Nat → Nat} {l : List S29} (h : Planted W fb lb nb l l.length) (hb : Below W.heap.size W W1) : Planted W1 fb lb nb l l.length := Blocks.below h hb
/-- Each root is there. -/
theorem root_there : ∀ (rest : List S29) (seen : List Int) (ro de r : Int), tok rest seen ro de = true → ro < r → r ≤ 3 → ∃ x ∈ rest, x.f0 = r
  | [], _, ro, _, r, h, h1, h2 => by simp only [tok, beq_iff_eq] at h; omega
  | x :: rest, seen, ro, de, r, h, h1, h2 => by
    simp only [tok] at h
    by_cases hc : rowB x.f0 x.f1 x.f2 = true ∧ x.f0 ∉ seen ∧ x.f1 ≤ de + 1
    · rw [if_pos hc] at h
      by_cases hr : rootB x.f0 = true
      · rw [if_pos hr] at h
        by_cases h3 : x.f0 = ro + 1
        · rw [if_pos h3] at h
          by_cases e : r = ro + 1
          · exact ⟨x, List.mem_cons_self, by omega⟩
          · obtain ⟨y, hy, e2⟩ := root_there rest _ _ _ r h (by omega) h2
            exact ⟨y, List.mem_cons_of_mem _ hy, e2⟩
        · rw [if_neg h3] at h; cases h
      · rw [if_neg hr] at h
        obtain ⟨y, hy, e2⟩ := root_there rest _ _ _ r h h1 h2
        exact ⟨y, List.mem_cons_of_mem _ hy, e2⟩
    · rw [if_neg hc] at h; cases h
theorem root_place {l : List S29} (hv : tok l [] 0 (-1) = true) {r : Int} (h1 : 0 < r) (h2 : r ≤ 3) : ∃ i, placeOf l l.length r = some i := by
  obtain ⟨x, hx, e⟩ := root_there l [] 0 (-1) r hv h1 h2
  cases hp : placeOf l l.length r with
  | some i => exact ⟨i, rfl⟩
  | none =>
    obtain ⟨i, hi, rfl⟩ := List.getElem_of_mem hx
    have := Tree.firstB_none.1 hp i hi
    simp only [beq_eq_false_iff_ne] at this
    exact absurd (by unfold idAt; rw [rowAt_get hi]; exact e) this
end Go.Proofs.YtdapbpgooehibaaDoor
