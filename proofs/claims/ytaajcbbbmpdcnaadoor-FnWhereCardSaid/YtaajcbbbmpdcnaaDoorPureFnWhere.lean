/- The pure statement of the law FnWhere: at every code, OpWhere answers as the reference, and, where the row it is put under is there, right under it or behind the wished one. No further condition. -/
import Derived.Test.YtaajcbbbmpdcnaaDoorPx12
import Derived.Test.YtaajcbbbmpdcnaaDoorBaseOpW
import Derived.Test.YtaajcbbbmpdcnaaDoorBaseFit
namespace Go.Proofs.YtaajcbbbmpdcnaaDoor.Pure
open Go.RowKit Go.Proofs.YtaajcbbbmpdcnaaDoor Go.Proofs.YtaajcbbbmpdcnaaDoor.P Go.Proofs.YtaajcbbbmpdcnaaDoorW.PrintWords Go.Proofs.YtaajcbbbmpdcnaaDoorW.PrintLast
theorem where_true {t : List S47} {kind id up at_ : Int} {s : ByteArray} {r1 r2 : Int} (h : opWhere t kind id up at_ s = (r1, r2, true)) :
  tok t [] 0 (-1) = true ∧ (if (placeOf t t.length up).isSome = true then (up, atOf (kidIds t up) id at_ 0, true) else ((3 : Int), (0 : Int), true)) = (r1, r2, true) := by
 by_cases hv : tok t [] 0 (-1) = true
 ·refine ⟨hv, ?_⟩
  by_cases ho : opB kind id up at_ s = true
  ·rw [← where3_eq hv kind id up at_ s ho] at h
   unfold where3 at h
   split at h
   ·cases h
   ·exact h
  ·unfold opWhere at h
   rw [if_pos hv, if_neg ho] at h; cases h
 ·unfold opWhere at h
  rw [if_neg hv] at h; cases h
theorem kid_pos {t : List S47} (hv : tok t [] 0 (-1) = true) (up x : Int) (hx : x ∈ kidIds t up) : 1 ≤ x := by
 rw [kidIds_valid hv] at hx
 unfold treeKids at hx
 rw [if_pos hv] at hx
 cases hp : placeOf t t.length up with
 | none => rw [hp] at hx; cases hx
 | some u =>
  rw [hp] at hx
  obtain ⟨k, hk, rfl⟩ := List.mem_map.1 hx
  exact (id_pos hv (Tree.mem_kids.1 hk).1).1
theorem FnWhere : laws_FnWhere.Pure := by
 intro l hl hx
 apply Ev.rounds
 unfold laws_FnWhere.f
 by_cases h : (l.length : Int) > 1048576
 ·exact Ev.pos h (Ev.pure rfl)
 ·refine Ev.neg h ?_
  obtain ⟨t, kind, id, up, at_, s, hd, ht, hn⟩ := drawOpWhere_ev l hx
  have n1 := hn.id
  have n2 := hn.up
  have n3 := hn.at_
  have n4 := hn.text
  have hl20 := ht.2.1
  refine Ev.bind hd (Ev.bind (specOpWhere_ev t ht.fits kind id up at_ s ⟨by omega, by omega⟩ ⟨by omega, by omega⟩ ⟨by omega, by omega⟩ (by omega)) (Ev.bindc rfl ?_))
  dsimp only
  rw [bne_self_eq_false]
  refine Ev.neg (by decide) (Ev.pos rfl (Ev.pos rfl ?_))
  generalize hr : opWhere t kind id up at_ s = r
  obtain ⟨r1, r2, r3⟩ := r
  dsimp only
  cases r3 with
  | false =>
   refine Ev.step (fun k => by simp only [laws_FnWhere.j0]; rw [if_pos (show (!false) = true from rfl)]) ?_
   refine Ev.pos (show (false == false) = true from rfl) (Ev.pos trivial (Ev.pure ?_))
   exact beq_self_eq_true r2
  | true =>
   obtain ⟨hv, he⟩ := where_true hr
   refine Ev.step (fun k => by simp only [laws_FnWhere.j0]; rw [if_neg (by decide)]) (Ev.bind (lpAt_ev t ht.fits.1 up) ?_)
   cases hp : placeOf t t.length up with
   | none =>
    rw [hp, if_neg (by decide)] at he
    cases he
    exact Ev.pos (by simp [placeInt]) (Ev.pos rfl (Ev.pure rfl))
   | some u =>
    rw [hp, if_pos (by rfl)] at he
    have e1 : r1 = up := (congrArg Prod.fst he).symm
    have e2 : r2 = atOf (kidIds t up) id at_ 0 := (congrArg (fun x => x.2.1) he).symm
    refine Ev.neg (by simp [placeInt]) ?_
    by_cases c1 : at_ > 0
    ·refine Ev.pos c1 ?_
     by_cases c2 : at_ = id
     ·refine Ev.pos c2 (Ev.pos e1 (Ev.pure ?_))
      rw [e2]; unfold atOf; rw [if_neg (fun h => h.2 c2)]; rfl
     ·refine Ev.neg c2 (Ev.bindc rfl ?_)
      rw [← kidIds_valid hv]
      refine Ev.bind (lpAmong_ev (kidIds t up) (by have := kidIds_len t up; omega) at_) ?_
      by_cases c3 : at_ ∈ kidIds t up
      ·refine Ev.pos (by simpa using c3) (Ev.pos e1 (Ev.pure ?_))
       rw [e2]; unfold atOf; rw [if_pos ⟨c3, c2⟩]; exact beq_self_eq_true at_
      ·refine Ev.neg (by simpa using c3) (Ev.pos e1 (Ev.pure ?_))
       rw [e2]; unfold atOf; rw [if_neg (fun h => c3 h.1)]; rfl
    ·refine Ev.neg c1 (Ev.pos e1 (Ev.pure ?_))
     rw [e2]; unfold atOf; rw [if_neg (fun h => c1 (by have := kid_pos hv up at_ h.1; omega))]; rfl
end Go.Proofs.YtaajcbbbmpdcnaaDoor.Pure
