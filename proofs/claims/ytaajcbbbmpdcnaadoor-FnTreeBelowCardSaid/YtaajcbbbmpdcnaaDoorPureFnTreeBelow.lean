/- The pure statement of the law FnTreeBelow: at every code, what stands under a row stands right behind it. No further condition. -/
import Derived.Test.YtaajcbbbmpdcnaaDoorPx16
import Derived.Test.YtaajcbbbmpdcnaaDoorBaseDraw
import Derived.Test.YtaajcbbbmpdcnaaDoorBaseLp
namespace Go.Proofs.YtaajcbbbmpdcnaaDoor.Pure
open Go.RowKit Go.Proofs.YtaajcbbbmpdcnaaDoor Go.Proofs.YtaajcbbbmpdcnaaDoor.P Go.Proofs.YtaajcbbbmpdcnaaDoorW.PrintWords Go.Proofs.YtaajcbbbmpdcnaaDoorW.PrintLast

theorem same_bool (b : Bool) : (b == b) = true := by cases b <;> rfl
theorem j0_true (t : List S47) (ht : RowsFit t) (id un : Int) : Ev (fun k => laws_FnTreeBelow.j0 k t id un (treeUnder t id un) true) true := by
  refine Ev.step (fun k => by simp only [laws_FnTreeBelow.j0]; rw [if_pos trivial]) ?_
  exact Ev.bind (specTreeUnder_ev t ht id un) (Ev.pure (same_bool _))
/-- Behind the loop: not both ways. -/
theorem below_end (t : List S47) (hv : tok t [] 0 (-1) = true) (id : Int) {v : Nat} (hvl : v < t.length) :
    Ev (fun _ => if treeUnder t id (idAt t v) = true then (if id = idAt t v then some true else ((impl_TreeUnder.f t (idAt t v) id).bind fun z => some (!z))) else some true) true := by
  by_cases h : treeUnder t id (idAt t v) = true
  · refine Ev.pos h ?_
    by_cases e : id = idAt t v
    · exact Ev.pos e (Ev.pure rfl)
    · refine Ev.neg e (Ev.bindc rfl (Ev.pure ?_))
      have hb : treeUnder t (idAt t v) id = false := by
        rw [Bool.eq_false_iff]
        intro h2
        obtain ⟨_, i, u, hi, _⟩ := under_places h
        obtain ⟨hil, rfl⟩ := place_of hi
        rw [under_self hv hil hvl] at h
        rw [under_self hv hvl hil] at h2
        have := h.1; have := h2.1
        exact e (by rw [show i = v by omega])
      rw [hb]; rfl
  · exact Ev.neg h (Ev.pure rfl)
theorem below_loop (t : List S47) (hf : RowsFit t) (hv : tok t [] 0 (-1) = true) (id : Int) {v : Nat} (hvl : v < t.length) : ∀ (d i : Nat) (b : Bool), i + d = t.length → (b = true ↔ ∀ k, v < k → k < i → depthAt t v < depthAt t k) → Ev (fun k => laws_FnTreeBelow.l0 k t id (idAt t v) (treeUnder t id (idAt t v)) (v : Int) b (i : Int)) true := by
  have hl := hf.1
  intro d
  induction d with
  | zero =>
    intro i b hi hb
    exact Ev.step (fun k => by simp only [laws_FnTreeBelow.l0]; rw [if_neg (by omega)]) (below_end t hv id hvl)
  | succ d ih =>
    intro i b hi hb
    have hil : i < t.length := by omega
    have hw : wrap64 ((i : Int) + 1) = ((i + 1 : Nat) : Int) := wrap_succ i (by omega)
    have hr : (rd_T47 t (i : Int)) = rowAt t i := rd_row t hil
    have hrv : (rd_T47 t (v : Int)) = rowAt t v := rd_row t hvl
    have step : ∀ k, laws_FnTreeBelow.l0 (k + 1) t id (idAt t v) (treeUnder t id (idAt t v)) (v : Int) b (i : Int) = _ := fun k => by simp only [laws_FnTreeBelow.l0]; rw [if_pos (by omega), hr, hrv, hw]
    have hcall : impl_TreeUnder.f t (rowAt t i).f0 (idAt t v) = some (treeUnder t (idAt t i) (idAt t v)) := rfl
    by_cases c : (i : Int) > (v : Int)
    · have hne : ¬ (i : Int) = (v : Int) := by omega
      cases b with
      | true =>
        have hall := hb.1 rfl
        have hu : treeUnder t (idAt t i) (idAt t v) = decide ((rowAt t i).f1 > (rowAt t v).f1) := by
          rw [Bool.eq_iff_iff, under_self hv hil hvl, decide_eq_true_iff]
          constructor
          · intro h; exact h.2 i (by omega) (Nat.le_refl _)
          · intro h
            refine ⟨by omega, fun k k1 k2 => ?_⟩
            by_cases e : k = i
            · rw [e]; exact h
            · exact hall k k1 (by omega)
        refine Ev.step step (Ev.pos c (Ev.pos rfl (Ev.pos (by omega) (Ev.pos (by omega) (Ev.pos (by omega) (Ev.bindc hcall (Ev.neg hne (Ev.neg (by rw [hu]; simp) ?_))))))))
        refine ih (i + 1) _ (by omega) ?_
        rw [decide_eq_true_iff]
        constructor
        · intro h k k1 k2
          by_cases e : k = i
          · rw [e]; exact h
          · exact hall k k1 (by omega)
        · intro h; exact h i (by omega) (by omega)
      | false =>
        have hu : treeUnder t (idAt t i) (idAt t v) = false := by
          rw [Bool.eq_false_iff]
          intro h
          rw [under_self hv hil hvl] at h
          have := hb.2 (fun k k1 k2 => h.2 k k1 (by omega))
          cases this
        refine Ev.step step (Ev.pos c (Ev.neg (by decide) (Ev.pos (by omega) (Ev.bindc hcall (Ev.neg hne (Ev.neg (by rw [hu]; decide) ?_))))))
        refine ih (i + 1) false (by omega) ⟨fun h => (by cases h), fun h => ?_⟩
        exact hb.2 (fun k k1 k2 => h k k1 (by omega))
    · by_cases e : (i : Int) = (v : Int)
      · have eiv : i = v := by omega
        have hu : treeUnder t (idAt t i) (idAt t v) = true := by rw [under_self hv hil hvl, eiv]; exact Tree.under_refl _ _
        refine Ev.step step (Ev.neg c (Ev.pos (by omega) (Ev.bindc hcall (Ev.pos e (Ev.neg (by rw [hu]; decide) ?_)))))
        exact ih (i + 1) b (by omega) ⟨fun h k k1 k2 => by omega, fun h => hb.2 (fun k k1 k2 => by omega)⟩
      · have hu : treeUnder t (idAt t i) (idAt t v) = false := by
          rw [Bool.eq_false_iff]
          intro h
          rw [under_self hv hil hvl] at h
          have := h.1; omega
        refine Ev.step step (Ev.neg c (Ev.pos (by omega) (Ev.bindc hcall (Ev.neg e (Ev.neg (by rw [hu]; decide) ?_)))))
        exact ih (i + 1) b (by omega) ⟨fun h k k1 k2 => by omega, fun h => hb.2 (fun k k1 k2 => by omega)⟩
theorem FnTreeBelow : laws_FnTreeBelow.Pure := by
  intro l0 _ h0
  apply Ev.rounds
  unfold laws_FnTreeBelow.f
  by_cases c0 : (l0.length : Int) > 1048576
  · exact Ev.pos c0 (Ev.pure rfl)
  obtain ⟨t, id, un, hd, ht⟩ := drawTreeUnder_ev l0 h0
  refine Ev.neg c0 (Ev.bind hd (Ev.bindc rfl (Ev.bind (specTreeUnder_ev t ht.fits id un) (Ev.neg (by simp) (Ev.bind (specTreeOk_ev t ht.fits) ?_)))))
  by_cases hv : tok t [] 0 (-1) = true
  · refine Ev.pos hv (Ev.bind (lpAt_ev t ht.fits.1 un) ?_)
    cases hp : placeOf t t.length un with
    | none => exact j0_true t ht.fits id un
    | some v =>
      obtain ⟨hvl, rfl⟩ := place_of hp
      rw [decide_eq_false (show ¬ placeInt (some v) < 0 by simp [placeInt])]
      refine Ev.step (fun k => by simp only [laws_FnTreeBelow.j0]; rw [if_neg (by decide)]) ?_
      refine Ev.bind (lpAt_ev t ht.fits.1 _) ?_
      rw [hp]
      exact below_loop t ht.fits hv id hvl t.length 0 true (by omega) ⟨fun _ k k1 k2 => by omega, fun _ => rfl⟩
  · exact Ev.neg hv (j0_true t ht.fits id un)
end Go.Proofs.YtaajcbbbmpdcnaaDoor.Pure
