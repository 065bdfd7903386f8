/- The pure statement of the law FnTreeForm: at every two codes, in a valid drawn outline each row stands under one that is one less deep, and is there once; with a row twice, or without its first row, it is none. No further condition. -/
import Derived.Test.YtdapbpgooehibaaDoorPx9
import Derived.Test.YtdapbpgooehibaaDoorBaseTreeD
import Derived.Test.YtdapbpgooehibaaDoorTreeN
import Derived.Test.YtdapbpgooehibaaDoorBaseLp
namespace Go.Proofs.YtdapbpgooehibaaDoor.Pure
open Go.RowKit Go.Proofs.YtdapbpgooehibaaDoor Go.Proofs.YtdapbpgooehibaaDoor.P Go.Proofs.YtdapbpgooehibaaDoorW.PrintWords Go.Proofs.YtdapbpgooehibaaDoorW.PrintLast

/-- The first row of a valid outline is the first root. -/
theorem first_id {t : List S29} (hv : tok t [] 0 (-1) = true) (h0 : 0 < t.length) : idAt t 0 = 1 := by
  cases t with
  | nil => cases h0
  | cons x rest =>
    have hd := (valid_steps hv).2.1 h0
    have hr := valid_row hv h0
    have hb : rootB (idAt (x :: rest) 0) = true := (rowB_depth hr).2 (by omega)
    rw [tok_step] at hv
    have hb' : rootB x.f0 = true := hb
    split at hv
    · split at hv
      · rename_i h
        exact h.1 hb'
      · cases hv
    · cases hv
/-- A row twice is no outline. -/
theorem twice_no (t : List S29) {k : Nat} (hk : k < t.length) (y : S29) (hy : y.f0 = idAt t k) : tok (t ++ [y]) [] 0 (-1) = false := by
  cases h : tok (t ++ [y]) [] 0 (-1) with
  | false => rfl
  | true =>
    have e := valid_id h (i := k) (j := t.length) (by simp; omega) (by simp) (by
      have e1 : idAt (t ++ [y]) k = idAt t k := by simp [idAt, rowAt, List.getElem?_append, hk]
      have e2 : idAt (t ++ [y]) t.length = y.f0 := by simp [idAt, rowAt]
      rw [e1, e2, hy])
    omega
/-- Without its first row it is none. -/
theorem headless_no {t : List S29} (hv : tok t [] 0 (-1) = true) : tok (t.drop 1) [] 0 (-1) = false := by
  cases h : tok (t.drop 1) [] 0 (-1) with
  | false => rfl
  | true =>
    obtain ⟨i, hi⟩ := root_place h (r := 1) (by omega) (by omega)
    obtain ⟨hil, e⟩ := place_of hi
    have hl : i + 1 < t.length := by simp at hil; omega
    have e1 : idAt (t.drop 1) i = idAt t (i + 1) := by simp [idAt, rowAt]
    have := valid_id hv (i := 0) (j := i + 1) (by omega) hl (by rw [first_id hv (by omega), ← e1, ← e])
    omega
theorem form_loop (l1 : List Int) (t : List S29) (ht : Drawn t) (hv : tok t [] 0 (-1) = true) : ∀ (d i : Nat), i + d = t.length → Ev (fun k => laws_FnTreeForm.l0 k l1 t (i : Int)) true := by
  have hl := ht.fits.1
  have h1 := ht.1
  have h2 := ht.2.1
  intro d
  induction d with
  | zero =>
    intro i hi
    refine Ev.step (fun k => by simp only [laws_FnTreeForm.l0]; rw [if_neg (by omega), if_neg (by omega)]) ?_
    have m0 : 0 ≤ (l1.length : Int) % (t.length : Int) := Int.emod_nonneg _ (by omega)
    have m1 : (l1.length : Int) % (t.length : Int) < (t.length : Int) := Int.emod_lt_of_pos _ (by omega)
    obtain ⟨n, hn⟩ := Int.eq_ofNat_of_zero_le m0
    have hnl : n < t.length := by omega
    rw [hn]
    refine Ev.bindc rfl (Ev.pos (by simp; omega) (Ev.bindc rfl (Ev.pos (by omega) (Ev.pos (by omega) (Ev.bindc rfl (Ev.pos (by simp; omega) (Ev.bindc (show impl_TreeOk.f _ = some (tok _ [] 0 (-1)) from rfl) ?_)))))))
    have e1 := twice_no t hnl (⟨(rd_T29 t (n : Int)).f0, (rd_T29 t (n : Int)).f1, (rd_T29 t (n : Int)).f2⟩) (by rw [rd_row t hnl]; rfl)
    rw [List.nil_append, e1]
    refine Ev.neg (by decide) (Ev.pos (by omega) (Ev.bindc (show impl_TreeOk.f _ = some (tok _ [] 0 (-1)) from rfl) ?_))
    rw [headless_no hv]
    exact Ev.neg (by decide) (Ev.bindc rfl (Ev.bindc (show impl_TreeOk.f _ = some true from by decide +kernel) (Ev.pure rfl)))
  | succ d ih =>
    intro i hi
    have hil : i < t.length := by omega
    have hs := valid_steps hv
    have hdb := rowB_bounds (valid_row hv hil)
    refine Ev.step (fun k => by simp only [laws_FnTreeForm.l0]; rw [if_pos (by omega), if_pos (by omega), rd_row t hil, wrap_succ i (by omega)]) ?_
    refine Ev.bindc (show impl_TreeUp.f t (rowAt t i).f0 = some (treeUp t (idAt t i)) from rfl) ?_
    rw [up_self hv hil]
    refine Ev.pos rfl (Ev.bind (lpAt_ev t hl _) ?_)
    rw [show placeOf t t.length (rowAt t i).f0 = some i from place_self hv hil]
    refine Ev.pos rfl ?_
    cases hp : Tree.par (depthAt t) i with
    | none =>
      have hz : (rowAt t i).f1 = 0 := (Tree.par_zero hs hil).1 hp
      refine Ev.neg (by rw [hz]; simp [upId]) (Ev.neg (by simp [upId]) (ih (i + 1) (by omega)))
    | some u =>
      have hu := Tree.par_lt hp
      have hul : u < t.length := by omega
      have hid := id_pos hv hul
      have hde : depthAt t u = depthAt t i - 1 := Tree.par_depth hs hil hp
      have hdu := rowB_bounds (valid_row hv hul)
      have e0 : (rowAt t i).f1 ≠ 0 := by have h1 := hdu.2.1; have : (rowAt t i).f1 = depthAt t i := rfl; omega
      have e1 : idAt t u ≠ 0 := by omega
      refine Ev.neg (by show ¬ ((idAt t u == 0) != ((rowAt t i).f1 == 0)) = true; rw [beq_eq_false_iff_ne.2 e0, beq_eq_false_iff_ne.2 e1]; decide) (Ev.pos (show idAt t u > 0 by omega) (Ev.bind (lpAt_ev t hl _) ?_))
      rw [show placeOf t t.length (upId t (some u)) = some u from place_self hv hul]
      refine Ev.pos (by simp [placeInt]) (Ev.pos (show (u : Int) < (t.length : Int) by omega) (Ev.pos ?_ (ih (i + 1) (by omega))))
      show (rd_T29 t (u : Int)).f1 = wrap64 ((rowAt t i).f1 - 1)
      rw [rd_row t hul, wrap64_id (by have : (rowAt t i).f1 = depthAt t i := rfl; omega)]
      exact hde
theorem FnTreeForm : laws_FnTreeForm.Pure := by
  intro l0 l1 _ h0 _ h1
  apply Ev.rounds
  unfold laws_FnTreeForm.f
  by_cases c0 : (l0.length : Int) > 1048576
  · refine Ev.pos c0 (Ev.step (f := fun _ => some true) (fun k => ?_) (Ev.pure rfl))
    simp only [laws_FnTreeForm.j0]; rw [if_pos trivial]
  refine Ev.neg c0 ?_
  by_cases c1 : (l1.length : Int) > 1048576
  · refine Ev.step (f := fun _ => some true) (fun k => ?_) (Ev.pure rfl)
    simp only [laws_FnTreeForm.j0]; rw [if_pos (decide_eq_true c1)]
  obtain ⟨t, hd, ht⟩ := drawTreeOk_ev l0 h0
  have sp := specTreeOk_ev t ht.fits
  refine Ev.step (fun k => by simp only [laws_FnTreeForm.j0]; rw [if_neg (by simpa using c1)]) ?_
  refine Ev.bind hd (Ev.bindc (show impl_TreeOk.f t = some (tok t [] 0 (-1)) from rfl) (Ev.bind sp (Ev.neg (by simp) ?_)))
  cases hv : tok t [] 0 (-1) with
  | false =>
    refine Ev.step (fun k => by simp only [laws_FnTreeForm.j1, Bool.not_false]; rw [if_pos trivial]) ?_
    refine Ev.bind sp (Ev.pure ?_)
    rw [hv]; rfl
  | true =>
    refine Ev.step (fun k => by simp only [laws_FnTreeForm.j1, Bool.not_true]; rw [if_neg (by decide)]) ?_
    exact form_loop l1 t ht hv t.length 0 (by omega)
end Go.Proofs.YtdapbpgooehibaaDoor.Pure
