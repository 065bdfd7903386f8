/- The pure statement of the law FnDeep: at every code, a row stands under as many as it stands deep. No further condition. -/
import Derived.Test.YtaajcbbbmpdcnaaDoorPx17
import Derived.Test.YtaajcbbbmpdcnaaDoorBaseDraw
import Derived.Test.YtaajcbbbmpdcnaaDoorBaseLp
namespace Go.Proofs.YtaajcbbbmpdcnaaDoor.Pure
open Go.RowKit Go.Proofs.YtaajcbbbmpdcnaaDoor Go.Proofs.YtaajcbbbmpdcnaaDoor.P Go.Proofs.YtaajcbbbmpdcnaaDoorW.PrintWords Go.Proofs.YtaajcbbbmpdcnaaDoorW.PrintLast

theorem same_bool (b : Bool) : (b == b) = true := by cases b <;> rfl
theorem deep_end (t : List S47) (hf : RowsFit t) (hv : tok t [] 0 (-1) = true) {i : Nat} (hi : i < t.length) (n : Int) (hn : n = depthAt t i) :
    Ev (fun k => (laws_lpAt.f k t (idAt t i)).bind fun z => (if 0 ≤ z then (if z < (t.length : Int) then (some (n == ((rd_T47 t z).f1))) else (none)) else (none))) true := by
  refine Ev.bind (lpAt_ev t hf.1 _) ?_
  rw [place_self hv hi]
  simp only [placeInt]
  refine Ev.pos (by omega) (Ev.pos (by omega) (Ev.pure ?_))
  rw [rd_row t hi, hn]
  exact beq_self_eq_true _
theorem deep_loop (t : List S47) (hf : RowsFit t) (hv : tok t [] 0 (-1) = true) {i : Nat} (hi : i < t.length) : ∀ (d j : Nat), j < t.length → depthAt t j = (d : Int) → Ev (fun k => laws_FnDeep.l0 k t (idAt t i) (upId t (Tree.par (depthAt t) j)) (depthAt t i - (d : Int))) true := by
  have hdi := (rowB_bounds (valid_row hv hi)).2
  intro d
  induction d with
  | zero =>
    intro j hj hd
    have hp : Tree.par (depthAt t) j = none := (Tree.par_zero (valid_steps hv) hj).2 (by omega)
    rw [hp, show upId t none = (0 : Int) from rfl]
    refine Ev.step (fun k => by simp only [laws_FnDeep.l0]; rw [if_neg (show ¬ (0 : Int) > 0 by omega)]) ?_
    exact deep_end t hf hv hi (depthAt t i - ((0 : Nat) : Int)) (by omega)
  | succ d ih =>
    intro j hj hd
    cases hp : Tree.par (depthAt t) j with
    | none =>
      have := (Tree.par_zero (valid_steps hv) hj).1 hp
      omega
    | some u =>
      have hu := Tree.par_lt hp
      have hdu := Tree.par_depth (valid_steps hv) hj hp
      have hpos := id_pos hv (show u < t.length by omega)
      have hdu0 := (rowB_bounds (valid_row hv (show u < t.length by omega))).2
      -- the step is one of at most 18
      have hle : depthAt t i - ((d + 1 : Nat) : Int) < 30 := by omega
      rw [show upId t (some u) = idAt t u from rfl]
      by_cases hneg : 0 ≤ depthAt t i - ((d + 1 : Nat) : Int)
      · refine Ev.step (fun k => by simp only [laws_FnDeep.l0]; rw [if_pos (show idAt t u > 0 by omega), if_pos hle, wrap64_id (a := depthAt t i - ((d + 1 : Nat) : Int) + 1) (by omega)]) ?_
        refine Ev.bindc (show impl_TreeUp.f t (idAt t u) = some (treeUp t (idAt t u)) from rfl) ?_
        rw [up_self hv (by omega)]
        have := ih u (by omega) (by omega)
        rw [show depthAt t i - ((d + 1 : Nat) : Int) + 1 = depthAt t i - (d : Int) by omega]
        exact this
      · refine Ev.step (fun k => by simp only [laws_FnDeep.l0]; rw [if_pos (show idAt t u > 0 by omega), if_pos hle, wrap64_id (a := depthAt t i - ((d + 1 : Nat) : Int) + 1) (by omega)]) ?_
        refine Ev.bindc (show impl_TreeUp.f t (idAt t u) = some (treeUp t (idAt t u)) from rfl) ?_
        rw [up_self hv (by omega)]
        have := ih u (by omega) (by omega)
        rw [show depthAt t i - ((d + 1 : Nat) : Int) + 1 = depthAt t i - (d : Int) by omega]
        exact this
theorem FnDeep : laws_FnDeep.Pure := by
  intro l0 _ h0
  apply Ev.rounds
  unfold laws_FnDeep.f
  by_cases c0 : (l0.length : Int) > 1048576
  · exact Ev.pos c0 (Ev.pure rfl)
  obtain ⟨t, id, hd, ht, _⟩ := drawTreeUp_ev l0 h0
  refine Ev.neg c0 (Ev.bind hd (Ev.bind (specTreeUp_ev t ht.fits id) (Ev.bindc rfl (Ev.neg (by simp) (Ev.pos rfl ?_)))))
  cases hb : (treeUp t id).2 with
  | false =>
    refine Ev.step (fun k => by simp only [Bool.not_false, laws_FnDeep.j0]; rw [if_pos trivial]) ?_
    exact Ev.pos rfl (Ev.pure (beq_self_eq_true _))
  | true =>
    -- a row is there
    have hv : tok t [] 0 (-1) = true := by
      by_cases hv : tok t [] 0 (-1) = true
      · exact hv
      · unfold treeUp at hb; rw [if_neg hv] at hb; cases hb
    cases hp : placeOf t t.length id with
    | none => unfold treeUp at hb; rw [if_pos hv, hp] at hb; cases hb
    | some i =>
      obtain ⟨hi, rfl⟩ := place_of hp
      refine Ev.step (fun k => by simp only [Bool.not_true, laws_FnDeep.j0]; rw [if_neg (by decide)]) ?_
      rw [up_self hv hi]
      have hdi := (rowB_bounds (valid_row hv hi)).2
      obtain ⟨d, hdd⟩ := Int.eq_ofNat_of_zero_le hdi.1
      have := deep_loop t ht.fits hv hi d i hi hdd
      rw [hdd, Int.sub_self] at this
      exact this
end Go.Proofs.YtaajcbbbmpdcnaaDoor.Pure
