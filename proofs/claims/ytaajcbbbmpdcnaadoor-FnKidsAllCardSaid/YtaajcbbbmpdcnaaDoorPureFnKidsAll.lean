/- The pure statement of the law FnKidsAll: at every code, each made row is a kid, once. No further condition. -/
import Derived.Test.YtaajcbbbmpdcnaaDoorPx21
import Derived.Test.YtaajcbbbmpdcnaaDoorBaseLk
namespace Go.Proofs.YtaajcbbbmpdcnaaDoor.Pure
open Go.RowKit Go.Proofs.YtaajcbbbmpdcnaaDoor Go.Proofs.YtaajcbbbmpdcnaaDoor.P Go.Proofs.YtaajcbbbmpdcnaaDoorW.PrintWords Go.Proofs.YtaajcbbbmpdcnaaDoorW.PrintLast

theorem treeKids_len (l : List S47) (id : Int) : (treeKids l id).length ≤ l.length := by
  by_cases hv : tok l [] 0 (-1) = true
  · rw [← kidIds_valid hv]; exact kidIds_len l id
  · unfold treeKids; rw [if_neg hv]; simp
/-- How many stand under one of the first m. -/
def under1 (D : Nat → Int) (n m : Nat) : Nat := (List.range n).countP fun j => match Tree.par D j with | some u => decide (u < m) | none => false
theorem under1_zero (D : Nat → Int) (n : Nat) : under1 D n 0 = 0 := by
  unfold under1
  rw [List.countP_eq_zero]
  intro j _
  cases Tree.par D j <;> simp
theorem count_split {p q r : Nat → Bool} (l : List Nat) (h : ∀ j ∈ l, r j = (p j || q j) ∧ ¬ (p j = true ∧ q j = true)) : l.countP r = l.countP p + l.countP q := by
  induction l with
  | nil => rfl
  | cons a l ih =>
    have h1 := h a (by simp)
    have h2 := ih (fun j hj => h j (by simp [hj]))
    simp only [List.countP_cons, h2, h1.1]
    cases hp : p a <;> cases hq : q a <;> simp [hp, hq] at h1 ⊢ <;> omega
theorem under1_succ (D : Nat → Int) (n m : Nat) : under1 D n (m + 1) = under1 D n m + (Tree.kidsOf D n m).length := by
  unfold under1 Tree.kidsOf
  rw [← List.countP_eq_length_filter]
  apply count_split
  intro j _
  cases Tree.par D j with
  | none => simp
  | some u =>
    constructor
    · rw [Bool.eq_iff_iff]; simp; omega
    · simp; omega
theorem under1_all (t : List S47) (hv : tok t [] 0 (-1) = true) : under1 (depthAt t) t.length t.length + 3 = t.length := by
  have h3 := roots_three hv
  have hs : (List.range t.length).countP (fun _ => true) = under1 (depthAt t) t.length t.length + (List.range t.length).countP (fun i => rootB (idAt t i)) := by
    unfold under1
    apply count_split
    intro j hj
    have hjl := List.mem_range.1 hj
    have hr := root_par hv hjl
    cases hp : Tree.par (depthAt t) j with
    | none => rw [hr.2 hp]; simp
    | some u =>
      have hu := Tree.par_lt hp
      have hn : rootB (idAt t j) = false := by
        rw [Bool.eq_false_iff]
        intro h
        have := hr.1 h
        rw [hp] at this; cases this
      rw [hn]; simp; omega
  rw [h3] at hs
  simp at hs
  omega
theorem under1_le (D : Nat → Int) (n m : Nat) : under1 D n m ≤ n := by
  unfold under1
  exact Nat.le_trans List.countP_le_length (by simp)
theorem all_loop (t : List S47) (ht : Drawn t) (hv : tok t [] 0 (-1) = true) : ∀ (d i : Nat), i + d = t.length → Ev (fun k => laws_FnKidsAll.l0 k t (under1 (depthAt t) t.length i : Int) (i : Int)) true := by
  have hl := ht.fits.1
  intro d
  induction d with
  | zero =>
    intro i hi
    have hall := under1_all t hv
    have e : i = t.length := by omega
    refine Ev.step (f := fun _ => some ((under1 (depthAt t) t.length i : Int) == wrap64 ((t.length : Int) - 3))) (fun k => by simp only [laws_FnKidsAll.l0]; rw [if_neg (by omega)]) (Ev.pure ?_)
    rw [wrap64_id (by omega), beq_iff_eq, e]
    omega
  | succ d ih =>
    intro i hi
    have hil : i < t.length := by omega
    have h1 := under1_le (depthAt t) t.length i
    have h2 := under1_le (depthAt t) t.length (i + 1)
    have hs := under1_succ (depthAt t) t.length i
    refine Ev.step (fun k => by simp only [laws_FnKidsAll.l0]; rw [if_pos (by omega), if_pos (by omega), rd_row t hil, wrap_succ i (by omega)]) ?_
    refine Ev.bindc (show impl_TreeKids.f t (rowAt t i).f0 = some (treeKids t (idAt t i)) from rfl) ?_
    rw [kids_self hv hil, List.length_map, show wrap64 ((under1 (depthAt t) t.length i : Int) + ((Tree.kidsOf (depthAt t) t.length i).length : Int)) = (under1 (depthAt t) t.length (i + 1) : Int) by rw [wrap64_id (by omega), hs]; omega]
    exact ih (i + 1) (by omega)
theorem FnKidsAll : laws_FnKidsAll.Pure := by
  intro l0 _ h0
  apply Ev.rounds
  unfold laws_FnKidsAll.f
  by_cases c0 : (l0.length : Int) > 1048576
  · exact Ev.pos c0 (Ev.pure rfl)
  obtain ⟨t, id, hd, ht, _⟩ := drawTreeKids_ev l0 h0
  have hl := ht.fits.1
  have hk := treeKids_len t id
  refine Ev.neg c0 (Ev.bind hd (Ev.bindc rfl (Ev.bind (specTreeKids_ev t ht.fits id) (Ev.bind (lpInts_ev _ (show (treeKids t id).length ≤ 1099511627776 by omega)) (Ev.pos rfl (Ev.bind (specTreeOk_ev t ht.fits) ?_))))))
  by_cases hv : tok t [] 0 (-1) = true
  · rw [hv]
    refine Ev.step (fun k => by simp only [Bool.not_true, laws_FnKidsAll.j0]; rw [if_neg (by decide)]) ?_
    have := all_loop t ht hv t.length 0 (by omega)
    rw [under1_zero] at this
    exact this
  · rw [Bool.eq_false_iff.2 hv]
    refine Ev.step (fun k => by simp only [Bool.not_false, laws_FnKidsAll.j0]; rw [if_pos trivial]) ?_
    exact Ev.bind (specTreeKids_ev t ht.fits id) (Ev.bind (lpInts_ev _ (by omega)) (Ev.pure rfl))
end Go.Proofs.YtaajcbbbmpdcnaaDoor.Pure
