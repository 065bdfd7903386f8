/- The pure statement of the law FnOpOne: at every two codes, of two drawn changes with a text the texts are the same just if the changes are. No further condition. -/
import Derived.Test.YtdapbpgooehibaaDoorPx7
import Derived.Test.YtdapbpgooehibaaDoorPx6
import Derived.Test.YtdapbpgooehibaaDoorPx6
import Derived.Test.YtdapbpgooehibaaDoorBaseShow
import Derived.Test.YtdapbpgooehibaaDoorBaseOpD
namespace Go.Proofs.YtdapbpgooehibaaDoor.Pure
open Go.RowKit Go.Proofs.YtdapbpgooehibaaDoor Go.Proofs.YtdapbpgooehibaaDoor.P Go.Proofs.YtdapbpgooehibaaDoorW.PrintWords Go.Proofs.YtdapbpgooehibaaDoorW.PrintLast

theorem bytes_ext {a b : ByteArray} : a.toList = b.toList ↔ a = b := by
  constructor
  · intro h; rw [Lib.toList_data, Lib.toList_data] at h; exact ba_eq h
  · intro h; rw [h]
theorem show_nil {k i u a : Int} {s : ByteArray} : (opShow k i u a s).toList = ([] : List UInt8) ↔ opB k i u a s = false := by
  unfold opShow
  cases h : opB k i u a s with
  | false => rw [if_neg (by decide)]; simp [Lib.toList_data]
  | true =>
    rw [if_pos rfl, Lib.toList_data]
    constructor
    · intro e; exact absurd (ba_eq (b := ⟨#[]⟩) e) (opTxt_ne _ _ _ _ _)
    · intro e; cases e
theorem FnOpOne : laws_FnOpOne.Pure := by
  intro l0 l1 _ h0 _ h1
  apply Ev.rounds
  unfold laws_FnOpOne.f
  by_cases c0 : (l0.length : Int) > 1048576
  · refine Ev.pos c0 (Ev.step (f := fun _ => some true) (fun k => ?_) (Ev.pure rfl))
    simp only [laws_FnOpOne.j0]; rw [if_pos trivial]
  refine Ev.neg c0 ?_
  by_cases c1 : (l1.length : Int) > 1048576
  · refine Ev.step (f := fun _ => some true) (fun k => ?_) (Ev.pure rfl)
    simp only [laws_FnOpOne.j0]; rw [if_pos (decide_eq_true c1)]
  obtain ⟨kind, id, up, at_, s, hd, hl⟩ := drawOpShow_ev l0 h0
  obtain ⟨kind', id', up', at', s', hd', hl'⟩ := drawOpOk_ev l1 h1
  have sp := specShow_ev kind id up at_ s (by have := hl.id; omega) (by have := hl.up; omega) (by have := hl.at_; omega) (by have := hl.text; omega)
  refine Ev.step (fun k => by simp only [laws_FnOpOne.j0]; rw [if_neg (by simpa using c1)]) ?_
  refine Ev.bind hd (Ev.bind hd' (Ev.bindc (show impl_OpShow.f kind id up at_ s = some (opShow kind id up at_ s) from rfl) (Ev.bindc (show impl_OpShow.f kind' id' up' at' s' = some (opShow kind' id' up' at' s') from rfl) (Ev.bind sp (Ev.pos rfl ?_)))))
  by_cases n1 : (opShow kind id up at_ s).toList = ([] : List UInt8)
  · refine Ev.pos n1 (Ev.bind sp (Ev.pure ?_)); simp
  refine Ev.neg n1 ?_
  by_cases n2 : (opShow kind' id' up' at' s').toList = ([] : List UInt8)
  · refine Ev.pos n2 (Ev.bind sp (Ev.pure ?_)); simp
  refine Ev.neg n2 (Ev.pure ?_)
  have o1 : opB kind id up at_ s = true := by cases h : opB kind id up at_ s with | true => rfl | false => exact absurd (show_nil.2 h) n1
  have o2 : opB kind' id' up' at' s' = true := by cases h : opB kind' id' up' at' s' with | true => rfl | false => exact absurd (show_nil.2 h) n2
  dsimp only
  rw [beq_iff_eq, Bool.eq_iff_iff]
  simp only [Bool.and_eq_true, beq_iff_eq]
  rw [bytes_ext, bytes_ext]
  unfold opShow
  rw [if_pos o1, if_pos o2]
  constructor
  · intro e; exact opTxt_inj o1 o2 e
  · rintro ⟨rfl, rfl, rfl, rfl, rfl⟩; rfl
end Go.Proofs.YtdapbpgooehibaaDoor.Pure
