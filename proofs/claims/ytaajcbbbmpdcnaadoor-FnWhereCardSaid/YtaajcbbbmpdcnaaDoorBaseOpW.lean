/- The reference's OpWhere answers as the program's does, in plain words on places. Conditions: rows and numbers as Go can hold them. -/
import Derived.Test.YtaajcbbbmpdcnaaDoorBaseKv
import Derived.Test.YtaajcbbbmpdcnaaDoorBaseLp
import Derived.Test.YtaajcbbbmpdcnaaDoorBaseWhere
import Derived.Test.YtaajcbbbmpdcnaaDoorBaseOp
import Derived.Test.YtaajcbbbmpdcnaaDoorTreeO3
import Derived.Test.YtaajcbbbmpdcnaaDoorPx4
namespace Go.Proofs.YtaajcbbbmpdcnaaDoor.P
open Go.RowKit Go.Proofs.YtaajcbbbmpdcnaaDoorW.PrintWords Go.Proofs.YtaajcbbbmpdcnaaDoorW.PrintLast
set_option linter.unusedVariables false
set_option linter.unusedSimpArgs false
theorem near_eq {l : List S47} (hv : tok l [] 0 (-1) = true) (id up at_ : Int) {f3 : Nat} (h3 : placeOf l l.length 3 = some f3) :
  (idAt l (nearAt l f3 id up at_).1, idO l (nearAt l f3 id up at_).2, true) = if (placeOf l l.length up).isSome = true then (up, atOf (kidIds l up) id at_ 0, true) else ((3 : Int), (0 : Int), true) := by
 unfold nearAt
 cases hu : placeOf l l.length up with
 | none => rw [if_neg (by decide)]; dsimp only [idO]; rw [place_id h3]
 | some u =>
  have eu := place_id hu
  have hk : kidIds l up = (Tree.kidsOf (depthAt l) l.length u).map (idAt l) := by
   rw [kidIds_valid hv]; unfold treeKids; rw [if_pos hv, hu]
  rw [if_pos (by rfl), hk]
  dsimp only
  unfold atOf
  cases ha : placeOf l l.length at_ with
  | none =>
   rw [if_neg]
   ·dsimp only [idO]; rw [eu]
   ·rintro ⟨hm, _⟩
    obtain ⟨k, hk1, hk2⟩ := List.mem_map.1 hm
    have hkl := (Tree.mem_kids.1 hk1).1
    have := place_self hv hkl
    rw [hk2, ha] at this; cases this
  | some a =>
   have ea := place_id ha
   have hal := place_lt ha
   dsimp only
   by_cases hc : Tree.par (depthAt l) a = some u ∧ idAt l a ≠ id
   ·rw [if_pos hc, if_pos ⟨List.mem_map.2 ⟨a, Tree.mem_kids.2 ⟨hal, hc.1⟩, ea⟩, by rw [← ea]; exact hc.2⟩]
    dsimp only [idO]
    rw [eu, ea]
   ·rw [if_neg hc, if_neg]
    ·dsimp only [idO]; rw [eu]
    ·rintro ⟨hm, hne⟩
     obtain ⟨k, hk1, hk2⟩ := List.mem_map.1 hm
     obtain ⟨hkl, hkp⟩ := Tree.mem_kids.1 hk1
     have hself := place_self hv hkl
     rw [hk2, ha] at hself
     have : a = k := Option.some.inj hself
     subst this
     exact hc ⟨hkp, by rw [ea]; exact hne⟩
theorem where3_eq {l : List S47} (hv : tok l [] 0 (-1) = true) (kind id up at_ : Int) (text : ByteArray) (ho : opB kind id up at_ text = true) :
  where3 l kind id up at_ = opWhere l kind id up at_ text := by
 obtain ⟨f3, h3⟩ := root_place hv (r := 3) (by omega) (by omega)
 have hn := near_eq hv id up at_ h3
 unfold opWhere where3 whereAt
 rw [if_pos hv, if_pos ho, h3, Option.getD_some]
 by_cases k2 : kind = 2
 ·subst k2
  rw [if_pos (.inl rfl), if_neg (by decide), if_neg (by decide)]
 ·by_cases k1 : kind = 1
  ·subst k1
   rw [if_pos (rfl : (1 : Int) = 1)]
   cases hp : placeOf l l.length id with
   | some i => rw [if_pos (.inr (.inl (by simp)))]
   | none =>
    rw [if_neg (by rintro (h | h | ⟨h, _⟩) <;> revert h <;> decide)]
    rw [← hn]
  ·by_cases k3 : kind = 3
   ·subst k3
    rw [if_neg (show ¬ (3 : Int) = 1 by decide), if_pos (rfl : (3 : Int) = 3)]
    cases hp : placeOf l l.length id with
    | none => rw [if_pos (.inr (.inl (by decide)))]
    | some i =>
     dsimp only
     have e : (match placeOf l l.length up with
       | none => false
       | some u => Tree.metB (depthAt l) i (u + 2) (some u)) = underB l up id := by
      unfold underB
      cases placeOf l l.length up with
      | none => rfl
      | some u => rw [hp]
     cases hu : placeOf l l.length up with
     | none =>
      have eu : underB l up id = false := by unfold underB; rw [hu]
      rw [hu] at hn
      rw [if_neg (by rintro (h | h | ⟨_, h⟩) <;> first | (revert h; decide) | exact h rfl | (rw [eu] at h; cases h))]
      dsimp only
      rw [if_neg (show ¬ false = true by decide)]
      dsimp only
      rw [hn]
     | some u =>
      have eu : underB l up id = Tree.metB (depthAt l) i (u + 2) (some u) := by unfold underB; rw [hu, hp]
      rw [hu] at hn
      dsimp only
      by_cases hb : Tree.metB (depthAt l) i (u + 2) (some u) = true
      ·rw [if_pos (.inr (.inr ⟨rfl, eu.trans hb⟩)), if_pos hb]
      ·rw [if_neg (by rintro (h | h | ⟨_, h⟩) <;> first | (revert h; decide) | exact h rfl | exact hb (eu.symm.trans h)), if_neg hb]
       dsimp only
       rw [hn]
   ·exfalso
    unfold opB at ho
    rw [if_neg k1, if_neg k2, if_neg k3] at ho
    split at ho <;> cases ho
theorem specOpWhere_ev (l : List S47) (hl : RowsFit l) (kind id up at_ : Int) (s : ByteArray) (hi : I64 id) (hu : I64 up) (ha : I64 at_) (hs : s.size ≤ 9223372036854775806) : Ev (fun k => spec_OpWhere.f k l kind id up at_ s) (opWhere l kind id up at_ s) := by
 unfold spec_OpWhere.f
 refine Ev.bind (specTreeOk_ev l hl) ?_
 by_cases hv : tok l [] 0 (-1) = true
 ·refine Ev.pos hv (Ev.bind (specOpOk_ev kind id up at_ s hi hu ha hs) ?_)
  by_cases ho : opB kind id up at_ s = true
  ·refine Ev.pos ho (Ev.bind (l3Where_ev l hl.1 kind id up at_ s) (Ev.pure ?_))
   rw [where3_eq hv kind id up at_ s ho]
  ·have e : opWhere l kind id up at_ s = (0, 0, false) := by unfold opWhere; rw [if_pos hv, if_neg ho]
   rw [e]
   exact Ev.neg ho (Ev.pure rfl)
 ·have e : opWhere l kind id up at_ s = (0, 0, false) := by unfold opWhere; rw [if_neg hv]
  rw [e]
  exact Ev.neg hv (Ev.pure rfl)
end Go.Proofs.YtaajcbbbmpdcnaaDoor.P
