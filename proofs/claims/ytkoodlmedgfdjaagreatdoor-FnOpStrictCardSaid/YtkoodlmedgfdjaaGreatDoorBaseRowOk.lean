/- RowOk of the program and of the reference: each answers by the plain word 'rowB', for every row (numbers of 64 bits, texts of any length). -/
import Derived.Test.YtkoodlmedgfdjaaGreatDoorBaseRow
import Derived.Test.YtkoodlmedgfdjaaGreatDoorBaseRow
import Derived.Test.YtkoodlmedgfdjaaGreatDoorPx2
namespace Go.Proofs.YtkoodlmedgfdjaaGreatDoor.P
open Go.RowKit Go.Proofs.YtkoodlmedgfdjaaGreatDoorW.PrintWords Go.Proofs.YtkoodlmedgfdjaaGreatDoorW.PrintLast
set_option linter.unusedVariables false
set_option linter.unusedSimpArgs false

theorem all_drop {s : ByteArray} {p : UInt8 → Bool} (i : Nat) (h : i < s.size) : (s.toList.drop i).all p = (p (s.toList[i]?.getD 0) && (s.toList.drop (i + 1)).all p) := by
  have hl : i < s.toList.length := by rw [Lib.toList_data]; simpa using h
  rw [List.drop_eq_getElem_cons hl, List.all_cons]
  congr 2
  simp [hl]
theorem letter_iff (s : ByteArray) (i : Nat) (h : i < s.size) : (decide (97 ≤ (s.toList[i]?.getD 0).toNat) && decide ((s.toList[i]?.getD 0).toNat ≤ 100)) = decide (97 ≤ bt s (i : Int) ∧ bt s (i : Int) ≤ 100) := by
  rw [bt_get s i h]
  rw [Bool.eq_iff_iff]; simp; omega
/-- The reference's loop over a text. -/
theorem specText_loop (s : ByteArray) (hs : s.size ≤ 9223372036854775806) : ∀ (d i : Nat), i + d = s.size → Ev (fun k => spec_l1Text.l0 k s (i : Int)) (decide (s.size ≤ 4) && (s.toList.drop i).all fun c => decide (97 ≤ c.toNat) && decide (c.toNat ≤ 100)) := by
  intro d
  induction d with
  | zero =>
    intro i hi
    refine Ev.step (f := fun _ => some (decide ((s.size : Int) ≤ 4))) (fun k => by simp only [spec_l1Text.l0]; rw [if_neg (by omega)]) (Ev.pure ?_)
    rw [List.drop_of_length_le (by rw [Lib.toList_data]; simp; omega), List.all_nil, Bool.and_true]
    rw [Bool.eq_iff_iff]; simp; omega
  | succ d ih =>
    intro i hi
    have hlt : i < s.size := by omega
    have hb := bt_range s i
    refine Ev.step (fun k => by simp only [spec_l1Text.l0]; rw [if_pos (by omega), if_pos (by omega), l6In_eq, wrap64_id (a := bt s i) (by omega), wrap64_id (a := (i : Int) + 1) (by omega)]) ?_
    rw [all_drop i hlt, letter_iff s i hlt]
    refine Ev.bindc rfl ?_
    by_cases hc : 97 ≤ bt s i ∧ bt s i ≤ 100
    · refine Ev.pos (decide_eq_true hc) ?_
      rw [decide_eq_true hc, Bool.true_and]
      exact ih (i + 1) (by omega)
    · refine Ev.neg (by simpa using hc) (Ev.pure ?_)
      rw [decide_eq_false hc, Bool.false_and, Bool.and_false]
theorem specText_ev (s : ByteArray) (hs : s.size ≤ 9223372036854775806) : Ev (fun k => spec_l1Text.f k s) (textB s) := by
  have := specText_loop s hs s.size 0 (by omega)
  exact this
theorem beq_nil_isEmpty (s : ByteArray) : (s.toList == ([] : List UInt8)) = s.toList.isEmpty := by cases s.toList <;> rfl
end Go.Proofs.YtkoodlmedgfdjaaGreatDoor.P
