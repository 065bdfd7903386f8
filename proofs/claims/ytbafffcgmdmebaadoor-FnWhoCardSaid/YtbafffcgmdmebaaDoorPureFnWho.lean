/- The pure statement of the law FnWho: at every code, the drawn number is a root's and nobody's, or is just one that RowMade gives, and then its maker's; else it is no row's. No further condition. -/
import Derived.Test.YtbafffcgmdmebaaDoorPx7
import Derived.Test.YtbafffcgmdmebaaDoorBaseMade
namespace Go.Proofs.YtbafffcgmdmebaaDoor.Pure
open Go.RowKit Go.Proofs.YtbafffcgmdmebaaDoor Go.Proofs.YtbafffcgmdmebaaDoor.P Go.Proofs.YtbafffcgmdmebaaDoorW.PrintWords Go.Proofs.YtbafffcgmdmebaaDoorW.PrintLast

/-- What the two loops say of a number that is no root's. -/
theorem who_rest (id : Int) (h : rootB id = false) : Ev (fun k => laws_FnWho.l0 k id (rowWho id).1 (rowWho id).2 1) true := by
  have e : rowWho id = if madeB id = true then (id / 10, true) else (0, false) := by unfold rowWho; rw [if_neg (by rw [h]; decide)]
  -- one row of numbers
  have inner : ∀ (w : Int), 1 ≤ w → w ≤ 3 → ((10 * w + 1 ≤ id ∧ id ≤ 10 * w + 6) → (rowWho id).2 = true ∧ (rowWho id).1 = w) → (¬ (10 * w + 1 ≤ id ∧ id ≤ 10 * w + 6) → Ev (fun k => laws_FnWho.l0 k id (rowWho id).1 (rowWho id).2 (w + 1)) true) →
      ∀ (d : Nat) (n : Int), n + d = 7 → 1 ≤ n → (10 * w + 1 ≤ id → id < 10 * w + n → False) → Ev (fun k => laws_FnWho.l1 k id (rowWho id).1 (rowWho id).2 w n) true := by
    intro w hw1 hw2 hin hout d
    induction d with
    | zero =>
      intro n hn hn1 hno
      refine Ev.step (fun k => by simp only [laws_FnWho.l1]; rw [if_neg (by omega), wrap64_id (a := w + 1) (by omega)]) ?_
      exact hout (fun hc => hno hc.1 (by omega))
    | succ d ih =>
      intro n hn hn1 hno
      have er : rowMade w n = 10 * w + n := by unfold rowMade; rw [if_pos (by omega)]
      by_cases hq : 10 * w + n = id
      · obtain ⟨i1, i2⟩ := hin (by omega)
        refine Ev.step (f := fun _ => some true) (fun k => ?_) (Ev.pure rfl)
        simp only [laws_FnWho.l1]
        rw [if_pos (by omega), implRowMade_eq, er]
        simp only [Option.bind_some]
        rw [if_pos hq, if_pos i1, i2]; simp
      · refine Ev.step (f := fun k => laws_FnWho.l1 k id (rowWho id).1 (rowWho id).2 w (n + 1)) (fun k => ?_) (ih (n + 1) (by omega) (by omega) (fun h1 h2 => hno h1 (by omega)))
        simp only [laws_FnWho.l1]
        rw [if_pos (by omega), implRowMade_eq, er]
        simp only [Option.bind_some]
        rw [if_neg hq, wrap64_id (a := n + 1) (by omega)]
  have row : ∀ (d : Nat) (w : Int), w + d = 4 → 1 ≤ w → (∀ u, 1 ≤ u → u < w → ¬ (10 * u + 1 ≤ id ∧ id ≤ 10 * u + 6)) → Ev (fun k => laws_FnWho.l0 k id (rowWho id).1 (rowWho id).2 w) true := by
    intro d
    induction d with
    | zero =>
      intro w hw hw1 hno
      have hm : madeB id = false := by
        have a1 := hno 1 (by omega) (by omega)
        have a2 := hno 2 (by omega) (by omega)
        have a3 := hno 3 (by omega) (by omega)
        rw [madeB_false]; omega
      refine Ev.step (f := fun _ => some true) (fun k => ?_) (Ev.pure rfl)
      simp only [laws_FnWho.l0]
      rw [if_neg (by omega), e, if_neg (by rw [hm]; decide)]; rfl
    | succ d ih =>
      intro w hw hw1 hno
      refine Ev.step (f := fun k => laws_FnWho.l1 k id (rowWho id).1 (rowWho id).2 w 1) (fun k => by simp only [laws_FnWho.l0]; rw [if_pos (by omega)]) ?_
      refine inner w hw1 (by omega) (fun hc => ?_) (fun hc => ?_) 6 1 (by omega) (by omega) (fun _ h2 => by omega)
      · have hm : madeB id = true := by rw [madeB_iff]; omega
        rw [e, if_pos hm]
        exact ⟨rfl, by show id / 10 = w; omega⟩
      · refine ih (w + 1) (by omega) (by omega) (fun u hu1 hu2 => ?_)
        by_cases hu : u = w
        · rw [hu]; exact hc
        · exact hno u hu1 (by omega)
  exact row 3 1 (by omega) (by omega) (fun u h1 h2 => by omega)

theorem FnWho : laws_FnWho.Pure := by
  intro l0 _ h0
  apply Ev.rounds
  unfold laws_FnWho.f
  by_cases c0 : (l0.length : Int) > 1048576
  · exact Ev.pos c0 (Ev.pure rfl)
  refine Ev.neg c0 ?_
  obtain ⟨a, hd, a0, a1⟩ := drawRowWho_ev l0 h0
  refine Ev.bind hd (Ev.bindc (specRowWho_eq a (by omega)) (Ev.bindc (show impl_RowWho.f a = some (rowWho a) from rfl) (Ev.neg (by simp) ?_)))
  simp only [bne_self_eq_false]
  by_cases hr : rootB a = true
  · have := rootB_iff.1 hr
    have e : rowWho a = (0, true) := by unfold rowWho; rw [if_pos hr]
    rw [e]
    refine Ev.step (f := fun k => laws_FnWho.j1 k a 0 true true) (fun k => by simp only [laws_FnWho.j0]; rw [if_neg (by decide), if_pos (by omega), decide_eq_true (by omega)]) ?_
    exact Ev.step (f := fun _ => some true) (fun k => by simp [laws_FnWho.j1]) (Ev.pure rfl)
  · have hr := Bool.eq_false_iff.2 hr
    have hr2 := rootB_false.1 hr
    refine Ev.step (f := fun k => laws_FnWho.j1 k a (rowWho a).1 (rowWho a).2 false) (fun k => ?_) ?_
    · simp only [laws_FnWho.j0]
      rw [if_neg (by decide)]
      by_cases h1 : a ≥ 1
      · rw [if_pos h1, decide_eq_false (by omega)]
      · rw [if_neg h1]
    · refine Ev.step (f := fun k => laws_FnWho.l0 k a (rowWho a).1 (rowWho a).2 1) (fun k => by simp only [laws_FnWho.j1]; rw [if_neg (by decide)]) ?_
      exact who_rest a hr
end Go.Proofs.YtbafffcgmdmebaaDoor.Pure
