/- The texts of changes, in bytes: what is shown of a change, and what is read of a text. No Go, no memory; no condition. -/
import Derived.Test.YtkoodlmedgfdjaaGreatDoorOpTxtM
import Derived.Test.YtkoodlmedgfdjaaGreatDoorPlainOp
import Derived.Lib.Bytes
namespace Go.Proofs.YtkoodlmedgfdjaaGreatDoor
open Go.Proofs.YtkoodlmedgfdjaaGreatDoor.OpTxt
set_option linter.unusedVariables false
set_option linter.unusedSimpArgs false

theorem plain_op {kind id up at_ : Int} {text : ByteArray} (h : opB kind id up at_ text = true) : Plain (kind, id, up, at_, text.data.toList) := by
  have made : ∀ n : Int, madeB n = true → 0 ≤ n ∧ n < 100 := fun n h => by have := madeB_iff.1 h; omega
  have root : ∀ n : Int, rootB n = true → 0 ≤ n ∧ n < 100 := fun n h => by have := rootB_iff.1 h; omega
  have place : ∀ {u a : Int}, placeB u a = true → (0 ≤ u ∧ u < 100) ∧ 0 ≤ a ∧ a < 100 := by
    intro u a h
    unfold placeB at h
    simp only [Bool.and_eq_true, Bool.or_eq_true, decide_eq_true_eq] at h
    exact ⟨h.1.elim (made _) (root _), h.2.elim (fun e => by omega) (made _)⟩
  have free : ∀ {t : ByteArray}, textB t = true → (32 : UInt8) ∉ t.data.toList := by
    intro t h hm
    unfold textB at h
    simp only [Bool.and_eq_true, List.all_eq_true, decide_eq_true_eq] at h
    have := h.2 32 (by rw [Lib.toList_data]; exact hm)
    exact absurd this.1 (by decide)
  have none : ∀ {t : ByteArray}, t.toList.isEmpty = true → t.data.toList = [] := by
    intro t h; rw [Lib.toList_data] at h; exact List.isEmpty_iff.1 h
  unfold opB at h
  by_cases hm : madeB id = true
  · rw [if_pos hm] at h
    by_cases k1 : kind = 1
    · rw [if_pos k1] at h
      simp only [Bool.and_eq_true] at h
      have hp := place h.1
      exact ⟨.inl k1, made _ hm, hp.1, hp.2, free h.2, fun e => by dsimp only at e; omega, fun e => by dsimp only at e; omega⟩
    · rw [if_neg k1] at h
      by_cases k2 : kind = 2
      · rw [if_pos k2] at h
        simp only [Bool.and_eq_true, decide_eq_true_eq] at h
        exact ⟨.inr (.inl k2), made _ hm, by dsimp only; omega, by dsimp only; omega, free h.2, fun _ => h.1, fun e => by dsimp only at e; omega⟩
      · rw [if_neg k2] at h
        by_cases k3 : kind = 3
        · rw [if_pos k3] at h
          simp only [Bool.and_eq_true] at h
          have hp := place h.1
          have hn := none h.2
          exact ⟨.inr (.inr k3), made _ hm, hp.1, hp.2, by rw [hn]; simp, fun e => by dsimp only at e; omega, fun _ => hn⟩
        · rw [if_neg k3] at h; cases h
  · rw [if_neg hm] at h; cases h
/-- The text of a change, in bytes. -/
def opTxt (kind id up at_ : Int) (text : ByteArray) : ByteArray := ⟨(txt (kind, id, up, at_, text.data.toList)).toArray⟩
/-- What is shown of a change: nothing, if it is not valid. -/
def opShow (kind id up at_ : Int) (text : ByteArray) : ByteArray := if opB kind id up at_ text = true then opTxt kind id up at_ text else ⟨#[]⟩
theorem opTxt_data (kind id up at_ : Int) (text : ByteArray) : (opTxt kind id up at_ text).data.toList = txt (kind, id, up, at_, text.data.toList) := rfl
theorem ba_eq {a b : ByteArray} (h : a.data.toList = b.data.toList) : a = b := by
  cases a; cases b
  congr 1
  exact Array.toList_inj.1 h
/-- A change that is read of a text, and whether it is one. -/
def opRead (s : ByteArray) : (Int × Int × Int × Int × ByteArray) × Bool :=
  let r := readW (cut 32 s.data.toList)
  if s.size ≤ 24 ∧ opB r.1 r.2.1 r.2.2.1 r.2.2.2.1 ⟨r.2.2.2.2.toArray⟩ = true ∧ txt r = s.data.toList then ((r.1, r.2.1, r.2.2.1, r.2.2.2.1, ⟨r.2.2.2.2.toArray⟩), true) else ((0, 0, 0, 0, ⟨#[]⟩), false)
/-- What is read of a text is the valid change that has this text. -/
theorem opRead_some {s : ByteArray} {k i u a : Int} {t : ByteArray} : opRead s = ((k, i, u, a, t), true) ↔ s.size ≤ 24 ∧ opB k i u a t = true ∧ opTxt k i u a t = s := by
  unfold opRead
  constructor
  · intro h
    dsimp only at h
    split at h
    · rename_i c
      simp only [Prod.mk.injEq, and_true] at h
      obtain ⟨rfl, rfl, rfl, rfl, rfl⟩ := h
      refine ⟨c.1, c.2.1, ba_eq ?_⟩
      rw [opTxt_data]; exact c.2.2
    · simp at h
  · rintro ⟨h1, h2, h3⟩
    have hp := plain_op h2
    have e : readW (cut 32 s.data.toList) = (k, i, u, a, t.data.toList) := by rw [← h3, opTxt_data]; exact read_txt hp
    dsimp only
    rw [e]
    dsimp only
    rw [if_pos ⟨h1, h2, by rw [← h3, opTxt_data]⟩]
theorem opRead_cases (s : ByteArray) : (∃ k i u a t, opRead s = ((k, i, u, a, t), true) ∧ s.size ≤ 24 ∧ opB k i u a t = true ∧ opTxt k i u a t = s) ∨ (opRead s = ((0, 0, 0, 0, ⟨#[]⟩), false) ∧ ∀ k i u a t, s.size ≤ 24 → opB k i u a t = true → opTxt k i u a t ≠ s) := by
  by_cases h : (opRead s).2 = true
  · left
    rcases h1 : opRead s with ⟨⟨k, i, u, a, t⟩, b⟩
    rw [h1] at h
    obtain rfl : b = true := h
    exact ⟨k, i, u, a, t, rfl, opRead_some.1 h1⟩
  · right
    have e : opRead s = ((0, 0, 0, 0, ⟨#[]⟩), false) := by
      unfold opRead at h ⊢
      dsimp only at h ⊢
      split
      · rename_i c; rw [if_pos c] at h; exact absurd rfl h
      · rfl
    refine ⟨e, fun k i u a t h1 h2 h3 => ?_⟩
    rw [opRead_some.2 ⟨h1, h2, h3⟩] at e
    cases e
/-- Two valid changes are the same just if their texts are. -/
theorem opTxt_inj {k i u a k' i' u' a' : Int} {t t' : ByteArray} (h : opB k i u a t = true) (h' : opB k' i' u' a' t' = true) (e : opTxt k i u a t = opTxt k' i' u' a' t') : k = k' ∧ i = i' ∧ u = u' ∧ a = a' ∧ t = t' := by
  have := txt_inj (plain_op h) (plain_op h') (congrArg (fun x : ByteArray => x.data.toList) e)
  simp only [Prod.mk.injEq] at this
  exact ⟨this.1, this.2.1, this.2.2.1, this.2.2.2.1, ba_eq this.2.2.2.2⟩
theorem opTxt_ne (kind id up at_ : Int) (text : ByteArray) : opTxt kind id up at_ text ≠ ⟨#[]⟩ := by
  intro h
  exact txt_pos (kind, id, up, at_, text.data.toList) (congrArg (fun x : ByteArray => x.data.toList) h)
end Go.Proofs.YtkoodlmedgfdjaaGreatDoor
