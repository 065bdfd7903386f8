/- What holds in a valid outline of kids and of the row right ahead, by numbers; what the draws of outlines with kids give. Conditions: rows as Go can hold them. -/
import Derived.Test.YtaajcbbbmpdcnaaDoorBaseTreeK
import Derived.Test.YtaajcbbbmpdcnaaDoorBaseLp
import Derived.Test.YtaajcbbbmpdcnaaDoorBaseDraw
import Derived.Test.YtaajcbbbmpdcnaaDoorPx15
import Derived.Test.YtaajcbbbmpdcnaaDoorPx19
namespace Go.Proofs.YtaajcbbbmpdcnaaDoor.P
open Go.RowKit Go.Proofs.YtaajcbbbmpdcnaaDoorW.PrintWords Go.Proofs.YtaajcbbbmpdcnaaDoorW.PrintLast
set_option linter.unusedVariables false
set_option linter.unusedSimpArgs false

theorem ahead_self {l : List S47} (hv : tok l [] 0 (-1) = true) {i u : Nat} (hi : i < l.length) (hp : Tree.par (depthAt l) i = some u) : treeAhead l (idAt l i) = (aheadId l (Tree.prev (depthAt l) i), true) := by
  unfold treeAhead
  rw [if_pos hv, place_self hv hi]
  dsimp only
  rw [hp]
  dsimp only
  cases Tree.prev (depthAt l) i <;> rfl
theorem kids_self {l : List S47} (hv : tok l [] 0 (-1) = true) {i : Nat} (hi : i < l.length) : treeKids l (idAt l i) = (Tree.kidsOf (depthAt l) l.length i).map (idAt l) := by
  unfold treeKids
  rw [if_pos hv, place_self hv hi]
theorem drawTreeKids_ev (l : List Int) (h : ∀ x ∈ l, (Lit.int .u8 x).wf = true) : ∃ t id, Ev (fun k => spec_DrawTreeKids.f k l) (t, id) ∧ Drawn t ∧ 0 ≤ id ∧ id ≤ 100 := by
  have hb := RdOk.open_ l h
  have loop : ∀ (d i : Nat) (t : List S47) (id p : Int), i + d = 6 → Drawn t → 0 ≤ id ∧ id ≤ 100 → 0 ≤ p ∧ p + 4000 * d ≤ 400000000 → ∃ t' id', Ev (fun k => spec_DrawTreeKids.l0 k t id (i : Int) (l.take 2000) p) (t', id') ∧ Drawn t' ∧ 0 ≤ id' ∧ id' ≤ 100 := by
    have stop : ∀ (t : List S47) (id i p : Int), Drawn t → 0 ≤ id ∧ id ≤ 100 → ∃ t' id', Ev (fun k => spec_DrawTreeKids.j1 k t id i false (l.take 2000) p) (t', id') ∧ Drawn t' ∧ 0 ≤ id' ∧ id' ≤ 100 := fun t id i p ht hid =>
      ⟨t, id, Ev.step (f := fun _ => some (t, id)) (fun k => by simp only [spec_DrawTreeKids.j1]; rw [if_neg (by decide)]) (Ev.pure rfl), ht, hid⟩
    intro d
    induction d with
    | zero =>
      intro i t id p hi ht hid hp
      obtain ⟨t', id', h1, h2⟩ := stop t id (i : Int) p ht hid
      exact ⟨t', id', Ev.step (fun k => by simp only [spec_DrawTreeKids.l0]; rw [if_neg (by omega)]) h1, h2⟩
    | succ d ih =>
      intro i t id p hi ht hid hp
      have step : ∀ k, spec_DrawTreeKids.l0 (k + 1) t id (i : Int) (l.take 2000) p = _ := fun k => by simp only [spec_DrawTreeKids.l0]; rw [if_pos (by omega)]
      obtain ⟨v, hv, v0, v1⟩ := pick_ev _ hb p 8 (by omega) (by omega)
      by_cases c : v > 0
      · cases hz : (((treeKids t id).length : Int) == 0) with
        | false =>
          obtain ⟨t', id', h1, h2⟩ := stop t id (i : Int) (p + 1) ht hid
          exact ⟨t', id', Ev.step step (Ev.bind hv (Ev.pos c (Ev.bind (specTreeKids_ev t ht.fits id) (by rw [hz]; exact h1)))), h2⟩
        | true =>
          obtain ⟨t1, id1, q1, b1, b2, b3, b4, b5⟩ := row_ev _ hb (p + 1) (by omega)
          obtain ⟨u, hu, u0, u1⟩ := pick_ev _ hb q1 2 (by omega) (by omega)
          have hwr : wrap64 ((i : Int) + 1) = ((i + 1 : Nat) : Int) := wrap_succ i (by omega)
          have step2 : ∀ k, spec_DrawTreeKids.j1 (k + 1) t id (i : Int) true (l.take 2000) (p + 1) = _ := fun k => by simp only [spec_DrawTreeKids.j1]; rw [if_pos trivial, hwr]
          by_cases cu : u = 0
          · obtain ⟨t', id', h1, h2⟩ := ih (i + 1) t1 1 (q1 + 1) (by omega) b2 (by omega) (by omega)
            exact ⟨t', id', Ev.step step (Ev.bind hv (Ev.pos c (Ev.bind (specTreeKids_ev t ht.fits id) (by rw [hz]; exact Ev.step step2 (Ev.bind b1 (Ev.bind hu (Ev.pos cu h1))))))), h2⟩
          · obtain ⟨t', id', h1, h2⟩ := ih (i + 1) t1 id1 (q1 + 1) (by omega) b2 b3 (by omega)
            exact ⟨t', id', Ev.step step (Ev.bind hv (Ev.pos c (Ev.bind (specTreeKids_ev t ht.fits id) (by rw [hz]; exact Ev.step step2 (Ev.bind b1 (Ev.bind hu (Ev.neg cu h1))))))), h2⟩
      · obtain ⟨t', id', h1, h2⟩ := stop t id (i : Int) (p + 1) ht hid
        exact ⟨t', id', Ev.step step (Ev.bind hv (Ev.neg c h1)), h2⟩
  obtain ⟨t, id, q, a1, a2, a3, a4, a5⟩ := row_ev _ hb 0 (by omega)
  obtain ⟨t', id', h1, h2⟩ := loop 6 0 t id q (by omega) a2 a3 (by omega)
  exact ⟨t', id', Ev.bindc (l6Open_eq l) (Ev.bind a1 h1), h2⟩
theorem drawTreeAhead_ev (l : List Int) (h : ∀ x ∈ l, (Lit.int .u8 x).wf = true) : ∃ t id, Ev (fun k => spec_DrawTreeAhead.f k l) (t, id) ∧ Drawn t ∧ 0 ≤ id ∧ id ≤ 100 := by
  have hb := RdOk.open_ l h
  have loop : ∀ (d i : Nat) (t : List S47) (id p : Int), i + d = 5 → Drawn t → 0 ≤ id ∧ id ≤ 100 → 0 ≤ p ∧ p + 4000 * d ≤ 400000000 → ∃ t' id', Ev (fun k => spec_DrawTreeAhead.l0 k t id (i : Int) (l.take 2000) p) (t', id') ∧ Drawn t' ∧ 0 ≤ id' ∧ id' ≤ 100 := by
    have stop : ∀ (t : List S47) (id i p : Int), Drawn t → 0 ≤ id ∧ id ≤ 100 → ∃ t' id', Ev (fun k => spec_DrawTreeAhead.j1 k t id i false (l.take 2000) p) (t', id') ∧ Drawn t' ∧ 0 ≤ id' ∧ id' ≤ 100 := fun t id i p ht hid =>
      ⟨t, id, Ev.step (f := fun _ => some (t, id)) (fun k => by simp only [spec_DrawTreeAhead.j1]; rw [if_neg (by decide)]) (Ev.pure rfl), ht, hid⟩
    intro d
    induction d with
    | zero =>
      intro i t id p hi ht hid hp
      obtain ⟨t', id', h1, h2⟩ := stop t id (i : Int) p ht hid
      exact ⟨t', id', Ev.step (fun k => by simp only [spec_DrawTreeAhead.l0]; rw [if_neg (by omega)]) h1, h2⟩
    | succ d ih =>
      intro i t id p hi ht hid hp
      have step : ∀ k, spec_DrawTreeAhead.l0 (k + 1) t id (i : Int) (l.take 2000) p = _ := fun k => by simp only [spec_DrawTreeAhead.l0]; rw [if_pos (by omega)]
      obtain ⟨v, hv, v0, v1⟩ := pick_ev _ hb p 6 (by omega) (by omega)
      have hwr : wrap64 ((i : Int) + 1) = ((i + 1 : Nat) : Int) := wrap_succ i (by omega)
      by_cases c : v > 0
      · have step2 : ∀ k, spec_DrawTreeAhead.j1 (k + 1) t id (i : Int) true (l.take 2000) (p + 1) = _ := fun k => by simp only [spec_DrawTreeAhead.j1]; rw [if_pos trivial, hwr]
        by_cases ca : (treeAhead t id).1 > 0
        · exact ⟨t, id, Ev.step step (Ev.bind hv (by simp only [decide_eq_true c]; exact Ev.step step2 (Ev.bind (specTreeAhead_ev t ht.fits id) (Ev.pos ca (Ev.pure rfl))))), ht, hid⟩
        · obtain ⟨t1, id1, q1, b1, b2, b3, b4, b5⟩ := row_ev _ hb (p + 1) (by omega)
          obtain ⟨t', id', h1, h2⟩ := ih (i + 1) t1 id1 q1 (by omega) b2 b3 (by omega)
          exact ⟨t', id', Ev.step step (Ev.bind hv (by simp only [decide_eq_true c]; exact Ev.step step2 (Ev.bind (specTreeAhead_ev t ht.fits id) (Ev.neg ca (Ev.bind b1 h1))))), h2⟩
      · obtain ⟨t', id', h1, h2⟩ := stop t id (i : Int) (p + 1) ht hid
        exact ⟨t', id', Ev.step step (Ev.bind hv (by simp only [decide_eq_false c]; exact h1)), h2⟩
  obtain ⟨t, id, q, a1, a2, a3, a4, a5⟩ := row_ev _ hb 0 (by omega)
  obtain ⟨t', id', h1, h2⟩ := loop 5 0 t id q (by omega) a2 a3 (by omega)
  exact ⟨t', id', Ev.bindc (l6Open_eq l) (Ev.bind a1 h1), h2⟩
end Go.Proofs.YtaajcbbbmpdcnaaDoor.P
