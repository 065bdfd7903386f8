/- What is read of texts that are shown, shortened and lengthened; what the draw DrawOpRead gives. Condition: a code of bytes. -/
import Derived.Test.YtkoodlmedgfdjaaGreatDoorBaseShow
import Derived.Test.YtkoodlmedgfdjaaGreatDoorBaseOpD
import Derived.Test.YtkoodlmedgfdjaaGreatDoorOpReadT
namespace Go.Proofs.YtkoodlmedgfdjaaGreatDoor.P
open Go.RowKit Go.Proofs.YtkoodlmedgfdjaaGreatDoorW.PrintWords Go.Proofs.YtkoodlmedgfdjaaGreatDoorW.PrintLast Go.Proofs.YtkoodlmedgfdjaaGreatDoor.OpTxt
set_option linter.unusedVariables false
set_option linter.unusedSimpArgs false

theorem bytes_ext {a b : ByteArray} : a.toList = b.toList ↔ a = b := by
  constructor
  · intro h; rw [Lib.toList_data, Lib.toList_data] at h; exact ba_eq h
  · intro h; rw [h]
theorem show_nil {k i u a : Int} {s : ByteArray} : (opShow k i u a s).toList = ([] : List UInt8) ↔ opB k i u a s = false := by
  unfold opShow
  cases h : opB k i u a s with
  | false => rw [if_neg (by decide)]; simp [Lib.toList_data]
  | true =>
    rw [if_pos rfl, Lib.toList_data]
    constructor
    · intro e; exact absurd (ba_eq (b := ⟨#[]⟩) e) (opTxt_ne _ _ _ _ _)
    · intro e; cases e
theorem op_text {k i u a : Int} {s : ByteArray} (h : opB k i u a s = true) : s.size ≤ 4 := by
  have ht : textB s = true → s.size ≤ 4 := fun h => by unfold textB at h; simp only [Bool.and_eq_true, decide_eq_true_eq] at h; exact h.1
  unfold opB at h
  by_cases hm : madeB i = true
  · rw [if_pos hm] at h
    by_cases k1 : k = 1
    · rw [if_pos k1] at h; simp only [Bool.and_eq_true] at h; exact ht h.2
    · rw [if_neg k1] at h
      by_cases k2 : k = 2
      · rw [if_pos k2] at h; simp only [Bool.and_eq_true, decide_eq_true_eq] at h; exact ht h.2
      · rw [if_neg k2] at h
        by_cases k3 : k = 3
        · rw [if_pos k3] at h
          simp only [Bool.and_eq_true] at h
          have h2 := h.2
          rw [Lib.toList_data] at h2
          have h3 := List.isEmpty_iff.1 h2
          have : s.data.toList.length = s.size := by simp
          rw [h3] at this; simp at this; omega
        · rw [if_neg k3] at h; cases h
  · rw [if_neg hm] at h; cases h
theorem opTxt_size {k i u a : Int} {s : ByteArray} (h : opB k i u a s = true) : (opTxt k i u a s).size ≤ 24 := by
  have h1 := op_text h
  have h2 := txt_len (o := (k, i, u, a, s.data.toList)) (by simpa using h1)
  show (txt (k, i, u, a, s.data.toList)).toArray.size ≤ 24
  simpa using h2
/-- What is shown is read back. -/
theorem read_shown {k i u a : Int} {s : ByteArray} (h : opB k i u a s = true) : opRead (opTxt k i u a s) = ((k, i, u, a, s), true) := opRead_some.2 ⟨opTxt_size h, h, rfl⟩
theorem cut_snoc (c : UInt8) : ∀ a : List UInt8, cut c (a ++ [c]) = cut c a ++ [[]]
  | [] => by simp [cut]
  | x :: r => by
    have ih := cut_snoc c r
    obtain ⟨y, ys, e⟩ : ∃ y ys, cut c r = y :: ys := by
      cases h : cut c r with
      | nil => exact absurd h (cut_ne c r)
      | cons y ys => exact ⟨y, ys, rfl⟩
    rw [List.cons_append, cut_cons, cut_cons, ih, e]
    split <;> rfl
theorem dig_ne (n : Nat) : dig2 n ≠ [] := by unfold dig2; split <;> simp
/-- No word of a change is empty. -/
theorem words_full (o : Ch) : ([] : List UInt8) ∉ words o := by
  intro h
  have d := fun n => Ne.symm (dig_ne n)
  unfold words at h
  split at h
  · simp [d] at h
  · split at h
    · simp [d] at h
    · simp [d] at h
theorem read_false {s : ByteArray} (h : ∀ k i u n t, opB k i u n t = true → opTxt k i u n t ≠ s) : (opRead s).2 = false := by
  rcases opRead_cases s with ⟨k, i, u, n, t, _, h1, h2, h3⟩ | ⟨e, _⟩
  · exact absurd h3 (h k i u n t h2)
  · rw [e]
/-- A text with an empty word is none of a change. -/
theorem read_hole {s : ByteArray} (h : ([] : List UInt8) ∈ cut 32 s.data.toList) : (opRead s).2 = false := read_false fun k i u n t h2 h3 => by
  rw [← h3, opTxt_data, cut_txt (plain_op h2)] at h
  exact words_full _ h
end Go.Proofs.YtkoodlmedgfdjaaGreatDoor.P
