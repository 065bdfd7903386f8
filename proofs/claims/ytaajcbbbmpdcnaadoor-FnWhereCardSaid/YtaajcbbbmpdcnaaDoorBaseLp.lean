/- The laws' own words on rows and numbers answer as plain words do; what holds in a valid outline of places, kids and roots. Conditions: rows as Go can hold them. -/
import Derived.Test.YtaajcbbbmpdcnaaDoorBaseTreeU
import Derived.Test.YtaajcbbbmpdcnaaDoorPx1
import Derived.Test.YtaajcbbbmpdcnaaDoorPx4
namespace Go.Proofs.YtaajcbbbmpdcnaaDoor.P
open Go.RowKit Go.Proofs.YtaajcbbbmpdcnaaDoorW.PrintWords Go.Proofs.YtaajcbbbmpdcnaaDoorW.PrintLast
set_option linter.unusedVariables false
set_option linter.unusedSimpArgs false
theorem rd_int' (l : List Int) {i : Nat} (h : i < l.length) : rd l (i : Int) = l[i] := by simp [rd, h]
theorem lpAt_loop (l : List S47) (hl : l.length ≤ 1099511627776) (id : Int) : ∀ (d i : Nat), i + d = l.length → (∀ k, k < i → idAt l k ≠ id) → Ev (fun k => laws_lpAt.l0 k l id (i : Int)) (placeInt (placeOf l l.length id)) := by
 intro d
 induction d with
 | zero =>
  intro i hi hno
  have : placeOf l l.length id = none := Tree.firstB_none.2 fun k hk => by simpa using hno k (by omega)
  rw [this]
  exact Ev.step (f := fun _ => some (-1)) (fun k => by simp only [laws_lpAt.l0]; rw [if_neg (by omega)]) (Ev.pure rfl)
 | succ d ih =>
  intro i hi hno
  have hlt : i < l.length := by omega
  by_cases h : idAt l i = id
  ·have : placeOf l l.length id = some i := Tree.firstB_some.2 ⟨hlt, by simpa using h, fun k hk => by simpa using hno k hk⟩
   rw [this]
   exact Ev.step (f := fun _ => some (i : Int)) (fun k => by simp only [laws_lpAt.l0]; rw [if_pos (by omega), if_pos (by omega), rd_row l hlt, if_pos (show (rowAt l i).f0 = id from h)]) (Ev.pure rfl)
  ·refine Ev.step (fun k => by simp only [laws_lpAt.l0]; rw [if_pos (by omega), if_pos (by omega), rd_row l hlt, if_neg (show ¬ (rowAt l i).f0 = id from h), wrap_succ i (by omega)]) ?_
   exact ih (i + 1) (by omega) (fun k hk => by
    by_cases e : k = i
    ·rw [e]; exact h
    ·exact hno k (by omega))
theorem lpAt_ev (l : List S47) (hl : l.length ≤ 1099511627776) (id : Int) : Ev (fun k => laws_lpAt.f k l id) (placeInt (placeOf l l.length id)) :=
 lpAt_loop l hl id l.length 0 (by omega) (fun k hk => absurd hk (by omega))
theorem lpAmong_loop (l : List Int) (hl : l.length ≤ 1099511627776) (x : Int) : ∀ (d i : Nat), i + d = l.length → Ev (fun k => laws_lpAmong.l0 k l x (i : Int)) (decide (x ∈ l.drop i)) := by
 intro d
 induction d with
 | zero =>
  intro i hi
  refine Ev.step (f := fun _ => some false) (fun k => by simp only [laws_lpAmong.l0]; rw [if_neg (by omega)]) (Ev.pure ?_)
  rw [List.drop_of_length_le (by omega)]; simp
 | succ d ih =>
  intro i hi
  have hlt : i < l.length := by omega
  by_cases h : l[i] = x
  ·refine Ev.step (f := fun _ => some true) (fun k => by simp only [laws_lpAmong.l0]; rw [if_pos (by omega), if_pos (by omega), rd_int' l hlt, if_pos h]) (Ev.pure ?_)
   refine (decide_eq_true ?_).symm
   rw [List.drop_eq_getElem_cons hlt, h]; exact List.mem_cons_self
  ·refine Ev.step (fun k => by simp only [laws_lpAmong.l0]; rw [if_pos (by omega), if_pos (by omega), rd_int' l hlt, if_neg h, wrap_succ i (by omega)]) (Ev.cong (ih (i + 1) (by omega)) ?_)
   have hm : (x ∈ l.drop i) = (x ∈ l.drop (i + 1)) := propext ⟨fun m => by
    rw [List.drop_eq_getElem_cons hlt] at m
    exact (List.mem_cons.1 m).resolve_left (fun e => h e.symm), fun m => by rw [List.drop_eq_getElem_cons hlt]; exact List.mem_cons_of_mem _ m⟩
   simp only [hm]
theorem lpAmong_ev (l : List Int) (hl : l.length ≤ 1099511627776) (x : Int) : Ev (fun k => laws_lpAmong.f k l x) (decide (x ∈ l)) := by
 unfold laws_lpAmong.f
 have := lpAmong_loop l hl x l.length 0 (by omega)
 simpa using this
theorem place_self {l : List S47} (hv : tok l [] 0 (-1) = true) {i : Nat} (hi : i < l.length) : placeOf l l.length (idAt l i) = some i :=
 Tree.firstB_some.2 ⟨hi, by simp, fun k hk => by
  simp only [beq_eq_false_iff_ne]
  intro e
  have := valid_id hv (by omega) hi e; omega⟩
theorem id_pos {l : List S47} (hv : tok l [] 0 (-1) = true) {i : Nat} (hi : i < l.length) : 1 ≤ idAt l i ∧ idAt l i ≤ 36 := by
 have h := valid_row hv hi
 unfold rowB at h
 by_cases hr : rootB (idAt l i) = true
 ·have := rootB_iff.1 hr; omega
 ·rw [if_neg hr, Bool.and_eq_true, Bool.and_eq_true] at h
  have := madeB_iff.1 h.1.1; omega
theorem up_self {l : List S47} (hv : tok l [] 0 (-1) = true) {i : Nat} (hi : i < l.length) : treeUp l (idAt l i) = (upId l (Tree.par (depthAt l) i), true) := by
 unfold treeUp
 rw [if_pos hv, place_self hv hi]
 dsimp only
 cases Tree.par (depthAt l) i <;> rfl
end Go.Proofs.YtaajcbbbmpdcnaaDoor.P
