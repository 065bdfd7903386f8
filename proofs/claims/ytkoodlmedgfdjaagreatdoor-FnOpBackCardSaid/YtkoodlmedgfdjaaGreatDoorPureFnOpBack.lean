/- The pure statement of the law FnOpBack: at every code, a drawn change is read back from its text. No further condition. -/
import Derived.Test.YtkoodlmedgfdjaaGreatDoorPx5
import Derived.Test.YtkoodlmedgfdjaaGreatDoorBaseOpR
namespace Go.Proofs.YtkoodlmedgfdjaaGreatDoor.Pure
open Go.RowKit Go.Proofs.YtkoodlmedgfdjaaGreatDoor Go.Proofs.YtkoodlmedgfdjaaGreatDoor.P Go.Proofs.YtkoodlmedgfdjaaGreatDoorW.PrintWords Go.Proofs.YtkoodlmedgfdjaaGreatDoorW.PrintLast

theorem FnOpBack : laws_FnOpBack.Pure := by
  intro l0 _ h0
  apply Ev.rounds
  unfold laws_FnOpBack.f
  by_cases c0 : (l0.length : Int) > 1048576
  · exact Ev.pos c0 (Ev.pure rfl)
  obtain ⟨kind, id, up, at_, s, hd, hl⟩ := drawOpShow_ev l0 h0
  have sp := specShow_ev kind id up at_ s (by have := hl.id; omega) (by have := hl.up; omega) (by have := hl.at_; omega) (by have := hl.text; omega)
  refine Ev.neg c0 (Ev.bind hd (Ev.bindc (show impl_OpShow.f kind id up at_ s = some (opShow kind id up at_ s) from rfl) (Ev.bind sp (Ev.pos rfl ?_))))
  cases ho : opB kind id up at_ s with
  | false =>
    rw [beq_iff_eq.2 (show_nil.2 ho)]
    refine Ev.step (fun k => by simp only [laws_FnOpBack.j0]; rw [if_pos trivial]) ?_
    exact Ev.bind sp (Ev.pure (beq_self_eq_true _))
  | true =>
    rw [beq_eq_false_iff_ne.2 (fun c => by rw [show_nil, ho] at c; cases c)]
    refine Ev.step (fun k => by simp only [laws_FnOpBack.j0]; rw [if_neg (by decide)]) ?_
    have e : opShow kind id up at_ s = opTxt kind id up at_ s := if_pos ho
    rw [e]
    refine Ev.bindc (show impl_OpRead.f (opTxt kind id up at_ s) = some (readT (opRead (opTxt kind id up at_ s))) from rfl) ?_
    rw [read_shown ho]
    refine Ev.pos rfl (Ev.pos (by simp [readT]) (Ev.bindc (show impl_OpOk.f kind id up at_ s = some (opB kind id up at_ s) from rfl) (Ev.pure ?_)))
    exact ho
end Go.Proofs.YtkoodlmedgfdjaaGreatDoor.Pure
