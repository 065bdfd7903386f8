/- The pure statement of the law FnOpForm: at every code, the drawn change is valid for both or for none; a valid one is none with a root's number, with kind 4, behind row 17, or under row 40. No further condition. -/
import Derived.Test.YtbafffcgmdmebaaDoorPx9
import Derived.Test.YtbafffcgmdmebaaDoorPx8
import Derived.Test.YtbafffcgmdmebaaDoorBaseOp
namespace Go.Proofs.YtbafffcgmdmebaaDoor.Pure
open Go.RowKit Go.Proofs.YtbafffcgmdmebaaDoor Go.Proofs.YtbafffcgmdmebaaDoor.P Go.Proofs.YtbafffcgmdmebaaDoorW.PrintWords Go.Proofs.YtbafffcgmdmebaaDoorW.PrintLast

theorem drawOpOk_ev (l : List Int) (h : ∀ x ∈ l, (Lit.int .u8 x).wf = true) : ∃ kind id up at_ s, Ev (fun k => spec_DrawOpOk.f k l) (kind, id, up, at_, s) ∧ OpLike kind id up at_ s := by
  have hb := RdOk.open_ l h
  obtain ⟨kind, id, up, at_, s, q, ho, hl, q0, q1⟩ := op_ev _ hb 0 (by omega)
  obtain ⟨v, hv, v0, v1⟩ := pick_ev _ hb q 5 (by omega) (by omega)
  obtain ⟨t, q2, ht, t1, _⟩ := text_ev _ hb (q + 1) (by omega)
  unfold spec_DrawOpOk.f
  by_cases g : v = 0
  · exact ⟨kind, id, up, at_, t, Ev.bindc (l6Open_eq l) (Ev.bind ho (Ev.bind hv (Ev.pos g (Ev.bind ht (Ev.pure rfl))))), ⟨hl.kind, hl.id, hl.up, hl.at_, t1⟩⟩
  · exact ⟨kind, id, up, at_, s, Ev.bindc (l6Open_eq l) (Ev.bind ho (Ev.bind hv (Ev.neg g (Ev.pure rfl)))), hl⟩
theorem op_root (kind up at_ : Int) (s : ByteArray) : opB kind 1 up at_ s = false := by
  unfold opB; rw [if_neg (by rw [madeB_iff]; omega)]
theorem op_kind (id up at_ : Int) (s : ByteArray) : opB 4 id up at_ s = false := by
  unfold opB; split <;> simp
theorem op_at (kind id up : Int) (s : ByteArray) : opB kind id up 17 s = false := by
  have hp : placeB up 17 = false := by unfold placeB; rw [show madeB 17 = false by decide]; simp
  unfold opB; rw [hp]; split <;> simp
theorem op_up (kind id at_ : Int) (s : ByteArray) : opB kind id 40 at_ s = false := by
  have hp : placeB 40 at_ = false := by unfold placeB; rw [show madeB 40 = false by decide, show rootB 40 = false by decide]; simp
  unfold opB; rw [hp]; split <;> simp

theorem FnOpForm : laws_FnOpForm.Pure := by
  intro l0 _ h0
  apply Ev.rounds
  unfold laws_FnOpForm.f
  by_cases c0 : (l0.length : Int) > 1048576
  · exact Ev.pos c0 (Ev.pure rfl)
  refine Ev.neg c0 ?_
  obtain ⟨kind, id, up, at_, s, hd, hl⟩ := drawOpOk_ev l0 h0
  have sp := specOpOk_ev kind id up at_ s (by have := hl.id; omega) (by have := hl.up; omega) (by have := hl.at_; omega) (by have := hl.text; omega)
  refine Ev.bind hd (Ev.bindc (show impl_OpOk.f kind id up at_ s = some (opB kind id up at_ s) from rfl) (Ev.bind sp (Ev.neg (by simp) ?_)))
  cases ho : opB kind id up at_ s with
  | false =>
    refine Ev.step (fun k => by simp only [laws_FnOpForm.j0, Bool.not_false]; rw [if_pos trivial]) ?_
    refine Ev.bind sp (Ev.pure ?_)
    rw [ho]; rfl
  | true =>
    refine Ev.step (f := fun _ => some true) (fun k => ?_) (Ev.pure rfl)
    simp only [laws_FnOpForm.j0, impl_OpOk.f, op_root, op_kind, op_at, op_up, Option.bind_some]
    simp
end Go.Proofs.YtbafffcgmdmebaaDoor.Pure
