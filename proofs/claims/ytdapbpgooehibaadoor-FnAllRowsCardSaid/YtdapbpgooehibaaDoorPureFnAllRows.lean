/- The pure statement of the law FnAllRows: at every code, in a valid drawn outline each row stands under exactly one of the three roots. No further condition. -/
import Derived.Test.YtdapbpgooehibaaDoorPx8
import Derived.Test.YtdapbpgooehibaaDoorBaseTreeD
import Derived.Test.YtdapbpgooehibaaDoorBaseTreeTxt
import Derived.Test.YtdapbpgooehibaaDoorBaseLp
import Derived.Test.YtdapbpgooehibaaDoorTreeX
namespace Go.Proofs.YtdapbpgooehibaaDoor.Pure
open Go.RowKit Go.Proofs.YtdapbpgooehibaaDoor Go.Proofs.YtdapbpgooehibaaDoor.P Go.Proofs.YtdapbpgooehibaaDoorW.PrintWords Go.Proofs.YtdapbpgooehibaaDoorW.PrintLast
set_option linter.unusedVariables false
set_option linter.unusedSimpArgs false

theorem root_step (t : List S29) {i : Nat} (hi : i < t.length) (c n : Int) (hc : 0 ≤ c ∧ c ≤ 3) (hn : 1 ≤ n ∧ n ≤ 3) (b : Bool) (hb : treeUnder t (idAt t i) n = b) (rest : Ev (fun k => laws_FnAllRows.l1 k t (i : Int) (if b = true then c + 1 else c) (n + 1)) true) : Ev (fun k => laws_FnAllRows.l1 k t (i : Int) c n) true := by
  refine Ev.step (fun k => by simp only [laws_FnAllRows.l1]; rw [if_pos hn.2, if_pos (by omega), if_pos (by omega), rd_row t hi, wrap64_id (a := n + 1) (by omega), wrap64_id (a := c + 1) (by omega)]) ?_
  refine Ev.bindc (show impl_TreeUnder.f t (rowAt t i).f0 n = some (treeUnder t (idAt t i) n) from rfl) ?_
  rw [hb]
  cases b with
  | true => exact Ev.pos rfl rest
  | false => exact Ev.neg (by decide) rest
theorem root_end (t : List S29) (i : Nat) (rest : Ev (fun k => laws_FnAllRows.l0 k t (wrap64 ((i : Int) + 1))) true) : Ev (fun k => laws_FnAllRows.l1 k t (i : Int) 1 4) true :=
  Ev.step (fun k => by simp only [laws_FnAllRows.l1]; rw [if_neg (by omega), if_pos trivial]) rest
theorem roots_loop (t : List S29) (ht : Drawn t) (hv : tok t [] 0 (-1) = true) : ∀ (d i : Nat), i + d = t.length → Ev (fun k => laws_FnAllRows.l0 k t (i : Int)) true := by
  obtain ⟨st, st0, st3, hst⟩ := root_stops hv
  have hl := ht.fits.1
  intro d
  induction d with
  | zero => intro i hi; exact Ev.step (f := fun _ => some true) (fun k => by simp only [laws_FnAllRows.l0]; rw [if_neg (by omega)]) (Ev.pure rfl)
  | succ d ih =>
    intro i hi
    have hil : i < t.length := by omega
    have hu : ∀ k, k < 3 → treeUnder t (idAt t i) ((k + 1 : Nat) : Int) = decide (st k ≤ i ∧ i < st (k + 1)) := fun k hk => by
      obtain ⟨p, h1, _, h3⟩ := hst k hk
      obtain ⟨_, e⟩ := place_of p
      rw [e, Bool.eq_iff_iff, under_self hv hil h1, Tree.under_end h1 hil, h3, decide_eq_true_iff]
    have m : ∀ k, k < 3 → st k < st (k + 1) := fun k hk => by
      obtain ⟨_, h1, _, h3⟩ := hst k hk
      have := (Tree.endOf_spec (D := depthAt t) h1).1
      omega
    have m0 := m 0 (by omega)
    have m1 := m 1 (by omega)
    have m2 := m 2 (by omega)
    have u0 := hu 0 (by omega)
    have u1 := hu 1 (by omega)
    have u2 := hu 2 (by omega)
    simp only [Nat.zero_add, Nat.reduceAdd] at m0 m1 m2 u0 u1 u2
    refine Ev.step (fun k => by simp only [laws_FnAllRows.l0]; rw [if_pos (by omega)]) ?_
    have nx := ih (i + 1) (by omega)
    rw [← wrap_succ i (by omega)] at nx
    have fin := root_end t i nx
    rcases Nat.lt_or_ge i (st 1) with c1 | c1
    · rw [decide_eq_true (by omega)] at u0
      rw [decide_eq_false (by omega)] at u1 u2
      exact root_step t hil 0 1 (by omega) (by omega) _ u0 (root_step t hil 1 2 (by omega) (by omega) _ u1 (root_step t hil 1 3 (by omega) (by omega) _ u2 fin))
    · rcases Nat.lt_or_ge i (st 2) with c2 | c2
      · rw [decide_eq_true (by omega)] at u1
        rw [decide_eq_false (by omega)] at u0 u2
        exact root_step t hil 0 1 (by omega) (by omega) _ u0 (root_step t hil 0 2 (by omega) (by omega) _ u1 (root_step t hil 1 3 (by omega) (by omega) _ u2 fin))
      · rw [decide_eq_true (by omega)] at u2
        rw [decide_eq_false (by omega)] at u0 u1
        exact root_step t hil 0 1 (by omega) (by omega) _ u0 (root_step t hil 0 2 (by omega) (by omega) _ u1 (root_step t hil 0 3 (by omega) (by omega) _ u2 fin))
theorem all_j0 (t : List S29) (ht : Drawn t) : Ev (fun k => laws_FnAllRows.j0 k t (treeText t) true) true := by
  refine Ev.step (fun k => by simp only [laws_FnAllRows.j0]; rw [if_pos trivial]) ?_
  exact Ev.bind (specTreeText_ev t ht.fits) (Ev.pure (beq_self_eq_true _))
theorem FnAllRows : laws_FnAllRows.Pure := by
  intro l0 _ h0
  apply Ev.rounds
  unfold laws_FnAllRows.f
  by_cases c0 : (l0.length : Int) > 1048576
  · exact Ev.pos c0 (Ev.pure rfl)
  obtain ⟨t, hd, ht⟩ := drawTreeText_ev l0 h0
  refine Ev.neg c0 (Ev.bind hd (Ev.bindc (show impl_TreeText.f t = some (treeText t) from rfl) (Ev.bind (specTreeText_ev t ht.fits) (Ev.pos rfl (Ev.bind (specTreeOk_ev t ht.fits) ?_)))))
  cases hv : tok t [] 0 (-1) with
  | false => exact all_j0 t ht
  | true =>
    refine Ev.step (fun k => by simp only [Bool.not_true, laws_FnAllRows.j0]; rw [if_neg (by decide)]) ?_
    exact roots_loop t ht hv t.length 0 (by omega)
end Go.Proofs.YtdapbpgooehibaaDoor.Pure
