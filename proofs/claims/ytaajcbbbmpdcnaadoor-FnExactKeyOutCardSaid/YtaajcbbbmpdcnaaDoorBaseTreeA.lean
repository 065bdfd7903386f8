/- The reference's rows right under one, and the one right ahead, answer as the plain words on places do. Conditions: rows as Go can hold them. -/
import Derived.Test.YtaajcbbbmpdcnaaDoorBaseKv
import Derived.Test.YtaajcbbbmpdcnaaDoorPx11
namespace Go.Proofs.YtaajcbbbmpdcnaaDoor.P
open Go.RowKit Go.Proofs.YtaajcbbbmpdcnaaDoorW.PrintWords Go.Proofs.YtaajcbbbmpdcnaaDoorW.PrintLast
set_option linter.unusedVariables false
set_option linter.unusedSimpArgs false

def aheadId (l : List S47) : Option Nat → Int
  | none => 0
  | some a => idAt l a
theorem l2Ahead_loop (l : List S47) (hl : l.length ≤ 1099511627776) (hv : Tree.Steps (depthAt l) l.length) (i u : Nat) (hi : i < l.length) (hp : Tree.par (depthAt l) i = some u) : ∀ j : Nat, u < j → j ≤ i → (∀ k, j ≤ k → k < i → depthAt l i < depthAt l k) → Ev (fun k => spec_l2Ahead.l0 k l (i : Int) ((j : Int) - 1)) (aheadId l (Tree.prev (depthAt l) i)) := by
  obtain ⟨p1, p2, p3⟩ := Tree.par_some.1 hp
  intro j
  induction j with
  | zero => intro h; omega
  | succ j ih =>
    intro h1 h2 h3
    have hjl : j < l.length := by omega
    have e : ((j + 1 : Nat) : Int) - 1 = (j : Int) := by omega
    rw [e]
    refine Ev.step (f := fun k => spec_l2Ahead.j1 k l (i : Int) (j : Int) (decide (depthAt l j ≥ depthAt l i))) (fun k => by simp only [spec_l2Ahead.l0]; rw [if_pos (by omega), if_pos (by omega), if_pos (by omega), if_pos (by omega), if_pos (by omega), rd_row l hjl, rd_row l hi]; rfl) ?_
    by_cases hge : depthAt l j ≥ depthAt l i
    · rw [decide_eq_true hge]
      have hju : u < j := by
        by_cases c : j = u
        · subst c; omega
        · omega
      by_cases heq : depthAt l j = depthAt l i
      · have hpr : Tree.prev (depthAt l) i = some j := by
          have hpj := Tree.par_same hv hi hp hju (by omega) heq
          refine Tree.prev_some.2 ⟨by omega, by rw [hpj, hp], fun k k1 k2 => ?_⟩
          rw [hp]
          intro hk
          have := Tree.kid_depth hv (by omega) hi hk hp
          have := h3 k (by omega) k2
          omega
        rw [hpr]
        exact Ev.step (f := fun _ => some (idAt l j)) (fun k => by simp only [spec_l2Ahead.j1]; rw [if_pos trivial, if_pos (by omega), if_pos (by omega), if_pos (by omega), if_pos (by omega), rd_row l hjl, rd_row l hi, if_pos (show (rowAt l j).f1 = (rowAt l i).f1 from heq)]; rfl) (Ev.pure rfl)
      · refine Ev.step (fun k => by simp only [spec_l2Ahead.j1]; rw [if_pos trivial, if_pos (by omega), if_pos (by omega), if_pos (by omega), if_pos (by omega), rd_row l hjl, rd_row l hi, if_neg (show ¬ (rowAt l j).f1 = (rowAt l i).f1 from heq), wrap64_id (a := (j : Int) - 1) (by omega)]) ?_
        exact ih hju (by omega) (fun k k1 k2 => by
          by_cases c : k = j
          · rw [c]; omega
          · exact h3 k (by omega) k2)
    · rw [decide_eq_false hge]
      have hpr : Tree.prev (depthAt l) i = none := by
        refine Tree.prev_none.2 fun k hk => ?_
        rw [hp]
        intro hkp
        have hd := Tree.kid_depth hv (by omega) hi hkp hp
        have hku := Tree.par_lt hkp
        by_cases c : u < j
        · have := p3 j c (by omega); omega
        · have := h3 k (by omega) hk; omega
      rw [hpr]
      exact Ev.step (f := fun _ => some 0) (fun k => by simp only [spec_l2Ahead.j1]; rw [if_neg (by decide)]) (Ev.pure rfl)
theorem l2Ahead_ev (l : List S47) (hl : l.length ≤ 1099511627776) (hv : Tree.Steps (depthAt l) l.length) (i u : Nat) (hi : i < l.length) (hp : Tree.par (depthAt l) i = some u) : Ev (fun k => spec_l2Ahead.f k l (i : Int)) (aheadId l (Tree.prev (depthAt l) i)) := by
  unfold spec_l2Ahead.f
  rw [wrap64_id (a := (i : Int) - 1) (by omega)]
  exact l2Ahead_loop l hl hv i u hi hp i (Tree.par_lt hp) (Nat.le_refl _) (fun k k1 k2 => by omega)
theorem specTreeAhead_ev (l : List S47) (hl : RowsFit l) (id : Int) : Ev (fun k => spec_TreeAhead.f k l id) (treeAhead l id) := by
  unfold spec_TreeAhead.f treeAhead
  refine Ev.bind (l2At_ev l hl.1 id) (Ev.bind (specTreeOk_ev l hl) ?_)
  by_cases hv : tok l [] 0 (-1) = true
  · rw [if_pos hv]
    refine Ev.pos hv ?_
    cases hp : placeOf l l.length id with
    | none => exact Ev.pos (by simp [placeInt]) (Ev.pure rfl)
    | some i =>
      have hi := place_lt hp
      have hid := place_id hp
      refine Ev.neg (by simp [placeInt]) (Ev.bindc (l1Root_eq id) ?_)
      dsimp only
      cases hpa : Tree.par (depthAt l) i with
      | none =>
        have hr : rootB id = true := by rw [← hid]; exact (root_par hv hi).2 hpa
        exact Ev.pos hr (Ev.pure rfl)
      | some u =>
        have hr : ¬ rootB id = true := fun h => by
          rw [← hid] at h
          have := (root_par hv hi).1 h
          rw [hpa] at this; cases this
        refine Ev.neg hr (Ev.bind (l2Ahead_ev l hl.1 (valid_steps hv) i u hi hpa) (Ev.pure ?_))
        dsimp only
        cases Tree.prev (depthAt l) i <;> rfl
  · rw [if_neg hv]
    exact Ev.neg hv (Ev.pure rfl)
end Go.Proofs.YtaajcbbbmpdcnaaDoor.P
