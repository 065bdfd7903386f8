/- The pure statement of the law FnOpCut: at every code, the text of a drawn change without its last byte is that of another change or none; with a blank behind it or ahead of it, of none. No further condition. -/
import Derived.Test.YtkoodlmedgfdjaaGreatDoorPx6
import Derived.Test.YtkoodlmedgfdjaaGreatDoorBaseOpR
namespace Go.Proofs.YtkoodlmedgfdjaaGreatDoor.Pure
open Go.RowKit Go.Proofs.YtkoodlmedgfdjaaGreatDoor Go.Proofs.YtkoodlmedgfdjaaGreatDoor.P Go.Proofs.YtkoodlmedgfdjaaGreatDoorW.PrintWords Go.Proofs.YtkoodlmedgfdjaaGreatDoorW.PrintLast Go.Proofs.YtkoodlmedgfdjaaGreatDoor.OpTxt
set_option linter.unusedSimpArgs false

theorem FnOpCut : laws_FnOpCut.Pure := by
  intro l0 _ h0
  apply Ev.rounds
  unfold laws_FnOpCut.f
  by_cases c0 : (l0.length : Int) > 1048576
  · exact Ev.pos c0 (Ev.pure rfl)
  obtain ⟨kind, id, up, at_, s, hd, hl⟩ := drawOpShow_ev l0 h0
  have sp := specShow_ev kind id up at_ s (by have := hl.id; omega) (by have := hl.up; omega) (by have := hl.at_; omega) (by have := hl.text; omega)
  refine Ev.neg c0 (Ev.bind hd (Ev.bindc (show impl_OpShow.f kind id up at_ s = some (opShow kind id up at_ s) from rfl) (Ev.bind sp (Ev.pos rfl ?_))))
  cases ho : opB kind id up at_ s with
  | false =>
    rw [beq_iff_eq.2 (show_nil.2 ho)]
    refine Ev.step (fun k => by simp only [laws_FnOpCut.j0]; rw [if_pos trivial]) ?_
    exact Ev.bind sp (Ev.pure (beq_self_eq_true _))
  | true =>
    rw [beq_eq_false_iff_ne.2 (fun c => by rw [show_nil, ho] at c; cases c)]
    have e : opShow kind id up at_ s = opTxt kind id up at_ s := if_pos ho
    rw [e]
    have hz := opTxt_size ho
    have hp : 0 < (opTxt kind id up at_ s).size := by
      rcases Nat.eq_zero_or_pos (opTxt kind id up at_ s).size with c | c
      · exact absurd (ba_eq (b := ⟨#[]⟩) (List.length_eq_zero_iff.1 (by simpa using c))) (opTxt_ne _ _ _ _ _)
      · exact c
    have hc := cut_txt (plain_op ho)
    rw [← opTxt_data] at hc
    generalize hx : opTxt kind id up at_ s = x at hz hp hc
    have w1 : wrap64 ((x.size : Int) - 1) = (x.size : Int) - 1 := wrap64_id (by omega)
    have two : (opRead (x ++ ⟨#[32]⟩)).2 = false := read_hole (by
      rw [ByteArray.data_append, Array.toList_append]
      show _ ∈ cut 32 (x.data.toList ++ [32])
      rw [cut_snoc]; simp)
    have three : (opRead ((⟨#[32]⟩ : ByteArray) ++ x)).2 = false := read_hole (by
      rw [ByteArray.data_append, Array.toList_append]
      show _ ∈ cut 32 (32 :: x.data.toList)
      rw [cut_cons, if_pos rfl]; simp)
    refine Ev.step (fun k => by simp only [laws_FnOpCut.j0]; rw [if_neg (by decide), w1]) ?_
    refine Ev.pos (by omega) (Ev.pos (by omega) (Ev.bindc (show impl_OpRead.f _ = some (readT (opRead _)) from rfl) (Ev.pos (by omega) (Ev.bindc (show impl_OpRead.f _ = some (readT (opRead _)) from rfl) (Ev.pos (by omega) (Ev.bindc (show impl_OpRead.f _ = some (readT (opRead _)) from rfl) ?_))))))
    have t2 : (readT (opRead (x ++ ⟨#[32]⟩))).2.2.2.2.2 = false := two
    have t3 : (readT (opRead ((⟨#[32]⟩ : ByteArray) ++ x))).2.2.2.2.2 = false := three
    by_cases one : (readT (opRead (x.extract 0 ((x.size : Int) - 1).toNat))).2.2.2.2.2 = true
    · refine Ev.pos one (Ev.pos ?_ (Ev.neg (by rw [t2]; decide) (Ev.pure (by rw [t3]; rfl))))
      rcases opRead_cases (x.extract 0 ((x.size : Int) - 1).toNat) with ⟨k, i, u, n, t, er, h1, h2, h3⟩ | ⟨er, _⟩
      · rw [er]
        show (!(k == kind) || (!(i == id) || (!(u == up) || (!(n == at_) || (!(t.toList == s.toList)))))) = true
        by_cases same : k = kind ∧ i = id ∧ u = up ∧ n = at_ ∧ t = s
        · obtain ⟨rfl, rfl, rfl, rfl, rfl⟩ := same
          rw [hx] at h3
          have hs := congrArg ByteArray.size h3
          rw [ByteArray.size_extract] at hs
          omega
        · simp only [Bool.or_eq_true, Bool.not_eq_true', beq_eq_false_iff_ne, ne_eq, bytes_ext]
          by_cases q1 : k = kind <;> by_cases q2 : i = id <;> by_cases q3 : u = up <;> by_cases q4 : n = at_ <;> by_cases q5 : t = s <;> simp [q1, q2, q3, q4, q5] at same ⊢
      · rw [er] at one; cases one
    · exact Ev.neg one (Ev.neg (by rw [t2]; decide) (Ev.pure (by rw [t3]; rfl)))
end Go.Proofs.YtkoodlmedgfdjaaGreatDoor.Pure
