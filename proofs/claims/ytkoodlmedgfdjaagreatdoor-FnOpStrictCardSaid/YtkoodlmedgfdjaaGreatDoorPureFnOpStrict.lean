/- The pure statement of the law FnOpStrict: at every code, a drawn text is read as the reference reads it, and where it is that of a change, this change is shown as this text. No further condition. -/
import Derived.Test.YtkoodlmedgfdjaaGreatDoorBaseOp
import Derived.Test.YtkoodlmedgfdjaaGreatDoorBaseShow
import Derived.Test.YtkoodlmedgfdjaaGreatDoorOpReadT
import Derived.Test.YtkoodlmedgfdjaaGreatDoorPx5
import Derived.Test.YtkoodlmedgfdjaaGreatDoorPx6
import Derived.Test.YtkoodlmedgfdjaaGreatDoorBaseRead
/- Drawn changes: what the draws DrawOpShow and DrawOpOk give. Condition: a code of bytes. -/
namespace Go.Proofs.YtkoodlmedgfdjaaGreatDoor.P
open Go.RowKit Go.Proofs.YtkoodlmedgfdjaaGreatDoorW.PrintWords Go.Proofs.YtkoodlmedgfdjaaGreatDoorW.PrintLast
set_option linter.unusedVariables false
end Go.Proofs.YtkoodlmedgfdjaaGreatDoor.P
/- What is read of texts that are shown, shortened and lengthened; what the draw DrawOpRead gives. Condition: a code of bytes. -/
namespace Go.Proofs.YtkoodlmedgfdjaaGreatDoor.P
open Go.RowKit Go.Proofs.YtkoodlmedgfdjaaGreatDoorW.PrintWords Go.Proofs.YtkoodlmedgfdjaaGreatDoorW.PrintLast Go.Proofs.YtkoodlmedgfdjaaGreatDoor.OpTxt
set_option linter.unusedVariables false
set_option linter.unusedSimpArgs false

theorem bytes_ext {a b : ByteArray} : a.toList = b.toList ↔ a = b := by
  constructor
  · intro h; rw [Lib.toList_data, Lib.toList_data] at h; exact ba_eq h
  · intro h; rw [h]
theorem show_nil {k i u a : Int} {s : ByteArray} : (opShow k i u a s).toList = ([] : List UInt8) ↔ opB k i u a s = false := by
  unfold opShow
  cases h : opB k i u a s with
  | false => rw [if_neg (by decide)]; simp [Lib.toList_data]
  | true =>
    rw [if_pos rfl, Lib.toList_data]
    constructor
    · intro e; exact absurd (ba_eq (b := ⟨#[]⟩) e) (opTxt_ne _ _ _ _ _)
    · intro e; cases e
theorem op_text {k i u a : Int} {s : ByteArray} (h : opB k i u a s = true) : s.size ≤ 4 := by
  have ht : textB s = true → s.size ≤ 4 := fun h => by unfold textB at h; simp only [Bool.and_eq_true, decide_eq_true_eq] at h; exact h.1
  unfold opB at h
  by_cases hm : madeB i = true
  · rw [if_pos hm] at h
    by_cases k1 : k = 1
    · rw [if_pos k1] at h; simp only [Bool.and_eq_true] at h; exact ht h.2
    · rw [if_neg k1] at h
      by_cases k2 : k = 2
      · rw [if_pos k2] at h; simp only [Bool.and_eq_true, decide_eq_true_eq] at h; exact ht h.2
      · rw [if_neg k2] at h
        by_cases k3 : k = 3
        · rw [if_pos k3] at h
          simp only [Bool.and_eq_true] at h
          have h2 := h.2
          rw [Lib.toList_data] at h2
          have h3 := List.isEmpty_iff.1 h2
          have : s.data.toList.length = s.size := by simp
          rw [h3] at this; simp at this; omega
        · rw [if_neg k3] at h; cases h
  · rw [if_neg hm] at h; cases h
theorem opTxt_size {k i u a : Int} {s : ByteArray} (h : opB k i u a s = true) : (opTxt k i u a s).size ≤ 24 := by
  have h1 := op_text h
  have h2 := txt_len (o := (k, i, u, a, s.data.toList)) (by simpa using h1)
  show (txt (k, i, u, a, s.data.toList)).toArray.size ≤ 24
  simpa using h2
/-- What is shown is read back. -/
theorem read_shown {k i u a : Int} {s : ByteArray} (h : opB k i u a s = true) : opRead (opTxt k i u a s) = ((k, i, u, a, s), true) := opRead_some.2 ⟨opTxt_size h, h, rfl⟩
theorem cut_snoc (c : UInt8) : ∀ a : List UInt8, cut c (a ++ [c]) = cut c a ++ [[]]
  | [] => by simp [cut]
  | x :: r => by
    have ih := cut_snoc c r
    obtain ⟨y, ys, e⟩ : ∃ y ys, cut c r = y :: ys := by
      cases h : cut c r with
      | nil => exact absurd h (cut_ne c r)
      | cons y ys => exact ⟨y, ys, rfl⟩
    rw [List.cons_append, cut_cons, cut_cons, ih, e]
    split <;> rfl
theorem dig_ne (n : Nat) : dig2 n ≠ [] := by unfold dig2; split <;> simp
/-- No word of a change is empty. -/
theorem words_full (o : Ch) : ([] : List UInt8) ∉ words o := by
  intro h
  have d := fun n => Ne.symm (dig_ne n)
  unfold words at h
  split at h
  · simp [d] at h
  · split at h
    · simp [d] at h
    · simp [d] at h
theorem read_false {s : ByteArray} (h : ∀ k i u n t, opB k i u n t = true → opTxt k i u n t ≠ s) : (opRead s).2 = false := by
  rcases opRead_cases s with ⟨k, i, u, n, t, _, h1, h2, h3⟩ | ⟨e, _⟩
  · exact absurd h3 (h k i u n t h2)
  · rw [e]
/-- A text with an empty word is none of a change. -/
theorem read_hole {s : ByteArray} (h : ([] : List UInt8) ∈ cut 32 s.data.toList) : (opRead s).2 = false := read_false fun k i u n t h2 h3 => by
  rw [← h3, opTxt_data, cut_txt (plain_op h2)] at h
  exact words_full _ h
theorem drawOpRead_ev (l : List Int) (h : ∀ x ∈ l, (Lit.int .u8 x).wf = true) : ∃ s, Ev (fun k => spec_DrawOpRead.f k l) s := by
  have hb := RdOk.open_ l h
  obtain ⟨kind, id, up, at_, t, q, ho, hl, q0, q1⟩ := op_ev _ hb 0 (by omega)
  have sp := specShow_ev kind id up at_ t (by have := hl.id; omega) (by have := hl.up; omega) (by have := hl.at_; omega) (by have := hl.text; omega)
  have hz : (opShow kind id up at_ t).size ≤ 24 := by
    unfold opShow
    split
    · rename_i h; exact opTxt_size h
    · show 0 ≤ 24; omega
  obtain ⟨v, hv, v0, v1⟩ := pick_ev _ hb q (((opShow kind id up at_ t).size : Int) + 1) (by omega) (by omega)
  obtain ⟨g, hg, g0, g1⟩ := pick_ev _ hb (q + 1) 7 (by omega) (by omega)
  obtain ⟨x, hx, hm⟩ := of_ev _ hb (q + 1 + 1) (by omega) [(⟨#[48]⟩ : ByteArray), (⟨#[32]⟩ : ByteArray), (⟨#[49]⟩ : ByteArray), (⟨#[97]⟩ : ByteArray), (⟨#[39]⟩ : ByteArray)] (by simp)
  have hxs : x.size = 1 := by
    simp only [List.mem_cons, List.not_mem_nil, or_false] at hm
    rcases hm with rfl | rfl | rfl | rfl | rfl <;> rfl
  have hw : wrap64 (((opShow kind id up at_ t).size : Int) + 1) = ((opShow kind id up at_ t).size : Int) + 1 := wrap64_id (by omega)
  unfold spec_DrawOpRead.f
  by_cases c0 : g = 0
  · exact ⟨_, Ev.bindc (l6Open_eq l) (Ev.bind ho (Ev.bind sp (by rw [hw]; exact Ev.bind hv (Ev.bind hg (Ev.pos c0 (Ev.pos v0 (Ev.pos (by omega) (Ev.pure rfl))))))))⟩
  · by_cases c1 : g = 1
    · have e1 : ((opShow kind id up at_ t).extract 0 v.toNat).size + x.size ≤ 9223372036854775807 := by rw [ByteArray.size_extract]; omega
      have e2 : ((opShow kind id up at_ t).extract 0 v.toNat ++ x).size + ((opShow kind id up at_ t).extract v.toNat (opShow kind id up at_ t).size).size ≤ 9223372036854775807 := by rw [ByteArray.size_append, ByteArray.size_extract, ByteArray.size_extract]; omega
      exact ⟨_, Ev.bindc (l6Open_eq l) (Ev.bind ho (Ev.bind sp (by rw [hw]; exact Ev.bind hv (Ev.bind hg (Ev.neg c0 (Ev.pos c1 (Ev.pos v0 (Ev.pos (by omega) (Ev.bind hx (Ev.pos e1 (Ev.pos e2 (Ev.pure rfl))))))))))))⟩
    · exact ⟨_, Ev.bindc (l6Open_eq l) (Ev.bind ho (Ev.bind sp (by rw [hw]; exact Ev.bind hv (Ev.bind hg (Ev.neg c0 (Ev.neg c1 (Ev.pure rfl)))))))⟩
end Go.Proofs.YtkoodlmedgfdjaaGreatDoor.P
namespace Go.Proofs.YtkoodlmedgfdjaaGreatDoor.Pure
open Go.RowKit Go.Proofs.YtkoodlmedgfdjaaGreatDoor Go.Proofs.YtkoodlmedgfdjaaGreatDoor.P Go.Proofs.YtkoodlmedgfdjaaGreatDoorW.PrintWords Go.Proofs.YtkoodlmedgfdjaaGreatDoorW.PrintLast Go.Proofs.YtkoodlmedgfdjaaGreatDoor.OpTxt
set_option linter.unusedSimpArgs false

theorem FnOpStrict : laws_FnOpStrict.Pure := by
  intro l0 _ h0
  apply Ev.rounds
  unfold laws_FnOpStrict.f
  by_cases c0 : (l0.length : Int) > 1048576
  · exact Ev.pos c0 (Ev.pure rfl)
  obtain ⟨s, hd⟩ := drawOpRead_ev l0 h0
  refine Ev.neg c0 (Ev.bind hd (Ev.bind (specOpRead_ev s) (Ev.bindc (show impl_OpRead.f s = some (readT (opRead s)) from rfl) (Ev.neg (by simp) (Ev.neg (by simp) ?_)))))
  rcases opRead_cases s with ⟨k, i, u, n, t, e, h1, h2, h3⟩ | ⟨e, _⟩
  · rw [e]
    refine Ev.step (fun k => by simp only [laws_FnOpStrict.j0, readT, Bool.not_true]; rw [if_neg (by decide)]) ?_
    refine Ev.bindc (show impl_OpOk.f k i u n t = some (opB k i u n t) from rfl) (Ev.pos h2 (Ev.bindc (show impl_OpShow.f k i u n t = some (opShow k i u n t) from rfl) (Ev.pure ?_)))
    rw [show opShow k i u n t = opTxt k i u n t from if_pos h2, h3]
    exact beq_self_eq_true _
  · rw [e]
    refine Ev.step (fun k => by simp only [laws_FnOpStrict.j0, readT, Bool.not_false]; rw [if_pos trivial]) ?_
    exact Ev.pos rfl (Ev.pure (by simp))
end Go.Proofs.YtkoodlmedgfdjaaGreatDoor.Pure
