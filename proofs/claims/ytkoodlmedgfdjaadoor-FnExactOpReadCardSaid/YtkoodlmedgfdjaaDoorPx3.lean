-- Written by wip/tools/pprint.py (a program of this session) over the kit's printer; not trusted: Lean checks it.
import Derived.Test.YtkoodlmedgfdjaaDoorPx0
import Derived.Test.YtkoodlmedgfdjaaDoorOpReadC
import Derived.Test.YtkoodlmedgfdjaaDoorOpReadT
import Derived.Test.YtkoodlmedgfdjaaDoorPx1
import Derived.Test.YtkoodlmedgfdjaaDoorPx2
import Derived.Test.YtkoodlmedgfdjaaDoorWApart
import Derived.Test.YtkoodlmedgfdjaaDoorWKept
import Derived.Test.YtkoodlmedgfdjaaDoorWLast
import Derived.Test.YtkoodlmedgfdjaaDoorWMore
import Derived.Test.YtkoodlmedgfdjaaDoorWN
import Derived.Test.YtkoodlmedgfdjaaDoorWRepsOne
import Derived.Test.YtkoodlmedgfdjaaDoorWShare
import Derived.Test.YtkoodlmedgfdjaaDoorWTab
import Derived.Test.YtkoodlmedgfdjaaDoorWWords
namespace Go.Proofs.YtkoodlmedgfdjaaDoor.P
open Go.RowKit Go.Proofs.YtkoodlmedgfdjaaDoorW.PrintWords Go.Proofs.YtkoodlmedgfdjaaDoorW.PrintLast Go.Proofs.YtkoodlmedgfdjaaDoorW.PrintMore
attribute [local go_sem] cell_set_set cell_set_far_set max2_int min2_int max_two min_two max_three min_three max_four min_four   -- for this text's walks alone
set_option linter.unusedVariables false
set_option linter.unusedSimpArgs false

/-! ### spec_OpShow: function 10 -/
def spec_OpShow.f (k : Nat) (a0_0 : Int) (a0_1 : Int) (a0_2 : Int) (a0_3 : Int) (a0_4 : ByteArray) : Option (ByteArray) := (spec_OpOk.f k a0_0 a0_1 a0_2 a0_3 a0_4).bind fun t135 => (if t135 = true then (if a0_0 = 1 then ((spec_l6Dec.f k a0_1).bind fun t136 => (if 5 + t136.size ≤ 9223372036854775807 then (if ((⟨#[109, 97, 107, 101, 32]⟩ : ByteArray) ++ t136).size + 1 ≤ 9223372036854775807 then ((spec_l6Dec.f k a0_2).bind fun t137 => (if (((⟨#[109, 97, 107, 101, 32]⟩ : ByteArray) ++ t136) ++ (⟨#[32]⟩ : ByteArray)).size + t137.size ≤ 9223372036854775807 then (if ((((⟨#[109, 97, 107, 101, 32]⟩ : ByteArray) ++ t136) ++ (⟨#[32]⟩ : ByteArray)) ++ t137).size + 1 ≤ 9223372036854775807 then ((spec_l6Dec.f k a0_3).bind fun t138 => (if (((((⟨#[109, 97, 107, 101, 32]⟩ : ByteArray) ++ t136) ++ (⟨#[32]⟩ : ByteArray)) ++ t137) ++ (⟨#[32]⟩ : ByteArray)).size + t138.size ≤ 9223372036854775807 then (if ((((((⟨#[109, 97, 107, 101, 32]⟩ : ByteArray) ++ t136) ++ (⟨#[32]⟩ : ByteArray)) ++ t137) ++ (⟨#[32]⟩ : ByteArray)) ++ t138).size + 2 ≤ 9223372036854775807 then (if (((((((⟨#[109, 97, 107, 101, 32]⟩ : ByteArray) ++ t136) ++ (⟨#[32]⟩ : ByteArray)) ++ t137) ++ (⟨#[32]⟩ : ByteArray)) ++ t138) ++ (⟨#[32, 39]⟩ : ByteArray)).size + a0_4.size ≤ 9223372036854775807 then (if ((((((((⟨#[109, 97, 107, 101, 32]⟩ : ByteArray) ++ t136) ++ (⟨#[32]⟩ : ByteArray)) ++ t137) ++ (⟨#[32]⟩ : ByteArray)) ++ t138) ++ (⟨#[32, 39]⟩ : ByteArray)) ++ a0_4).size + 1 ≤ 9223372036854775807 then (some (((((((((⟨#[109, 97, 107, 101, 32]⟩ : ByteArray) ++ t136) ++ (⟨#[32]⟩ : ByteArray)) ++ t137) ++ (⟨#[32]⟩ : ByteArray)) ++ t138) ++ (⟨#[32, 39]⟩ : ByteArray)) ++ a0_4) ++ (⟨#[39]⟩ : ByteArray))) else (none)) else (none)) else (none)) else (none))) else (none)) else (none))) else (none)) else (none))) else (if a0_0 = 2 then ((spec_l6Dec.f k a0_1).bind fun t139 => (if 5 + t139.size ≤ 9223372036854775807 then (if ((⟨#[116, 101, 120, 116, 32]⟩ : ByteArray) ++ t139).size + 2 ≤ 9223372036854775807 then (if (((⟨#[116, 101, 120, 116, 32]⟩ : ByteArray) ++ t139) ++ (⟨#[32, 39]⟩ : ByteArray)).size + a0_4.size ≤ 9223372036854775807 then (if ((((⟨#[116, 101, 120, 116, 32]⟩ : ByteArray) ++ t139) ++ (⟨#[32, 39]⟩ : ByteArray)) ++ a0_4).size + 1 ≤ 9223372036854775807 then (some (((((⟨#[116, 101, 120, 116, 32]⟩ : ByteArray) ++ t139) ++ (⟨#[32, 39]⟩ : ByteArray)) ++ a0_4) ++ (⟨#[39]⟩ : ByteArray))) else (none)) else (none)) else (none)) else (none))) else ((spec_l6Dec.f k a0_1).bind fun t140 => (if 5 + t140.size ≤ 9223372036854775807 then (if ((⟨#[109, 111, 118, 101, 32]⟩ : ByteArray) ++ t140).size + 1 ≤ 9223372036854775807 then ((spec_l6Dec.f k a0_2).bind fun t141 => (if (((⟨#[109, 111, 118, 101, 32]⟩ : ByteArray) ++ t140) ++ (⟨#[32]⟩ : ByteArray)).size + t141.size ≤ 9223372036854775807 then (if ((((⟨#[109, 111, 118, 101, 32]⟩ : ByteArray) ++ t140) ++ (⟨#[32]⟩ : ByteArray)) ++ t141).size + 1 ≤ 9223372036854775807 then ((spec_l6Dec.f k a0_3).bind fun t142 => (if (((((⟨#[109, 111, 118, 101, 32]⟩ : ByteArray) ++ t140) ++ (⟨#[32]⟩ : ByteArray)) ++ t141) ++ (⟨#[32]⟩ : ByteArray)).size + t142.size ≤ 9223372036854775807 then (some ((((((⟨#[109, 111, 118, 101, 32]⟩ : ByteArray) ++ t140) ++ (⟨#[32]⟩ : ByteArray)) ++ t141) ++ (⟨#[32]⟩ : ByteArray)) ++ t142)) else (none))) else (none)) else (none))) else (none)) else (none))))) else (some (⟨#[]⟩ : ByteArray)))
theorem spec_OpShow.mono : ∀ a0 a1 a2 a3 a4 k, LeO (spec_OpShow.f k a0 a1 a2 a3 a4) (spec_OpShow.f (k + 1) a0 a1 a2 a3 a4) := by
  intro a0 a1 a2 a3 a4 k
  unfold spec_OpShow.f
  repeat' first
      | (with_reducible exact spec_OpOk.mono _ _ _ _ _ _)
      | (with_reducible exact spec_l6Dec.mono _ _)
      | (with_reducible exact LeO.refl _)
      | (with_reducible exact LeO.none _)
      | (with_reducible refine LeO.ite ?_ ?_)
      | (with_reducible refine LeO.bind ?_ (fun _ => ?_))
      | exact spec_OpOk.mono _ _ _ _ _ _
      | exact spec_l6Dec.mono _ _
      | exact LeO.none _
      | refine LeO.ite ?_ ?_
      | refine LeO.bind ?_ (fun _ => ?_)
def spec_OpShow.T5 : Bool × List (List Nat × List Nat) := (true, [([], []), ([0], [0]), ([1], [1]), ([2], [2]), ([3], [3]), ([], []), ([5], [5]), ([6, 2], [6]), ([4, 7], [4, 7]), ([8], [8]), ([], []), ([10], [10]), ([11, 7], [11]), ([9, 12], [9, 12]), ([13], [13]), ([], []), ([15], [15]), ([14, 16], [14, 16]), ([17], [17]), ([18, 12, 0, 1, 2, 3, 4, 5, 6, 7, 8, 9, 10, 11, 12, 13, 14, 15, 16, 17, 18], [18])])
def spec_OpShow.B5 : List Nat := [0, 1, 3, 7, 15, 0, 32, 103, 255, 511, 0, 1024, 3303, 8191, 16383, 0, 32768, 131071, 262143, 524287]
theorem spec_OpShow.tab5 : rtab .any (opsOf Tryd.f10 5) = spec_OpShow.T5 := by kernel_rfl
theorem spec_OpShow.bits5 : waitsOk spec_OpShow.T5.2 spec_OpShow.B5 = true := by kernel_rfl
def spec_OpShow.T7 : Bool × List (List Nat × List Nat) := (true, [([], []), ([0], [0]), ([1], [1]), ([2], [2]), ([3], [3]), ([], []), ([5], [5]), ([4, 6], [4, 6]), ([7], [7]), ([8, 2, 0, 1, 2, 3, 4, 5, 6, 7, 8], [8])])
def spec_OpShow.B7 : List Nat := [0, 1, 3, 7, 15, 0, 32, 127, 255, 511]
theorem spec_OpShow.tab7 : rtab .any (opsOf Tryd.f10 7) = spec_OpShow.T7 := by kernel_rfl
theorem spec_OpShow.bits7 : waitsOk spec_OpShow.T7.2 spec_OpShow.B7 = true := by kernel_rfl
def spec_OpShow.T8 : Bool × List (List Nat × List Nat) := (true, [([], []), ([0], [0]), ([1], [1]), ([2], [2]), ([3], [3]), ([], []), ([5], [5]), ([6, 2], [6]), ([4, 7], [4, 7]), ([8], [8]), ([], []), ([10], [10]), ([11, 7], [11]), ([9, 12], [9, 12]), ([13, 12, 0, 1, 2, 3, 4, 5, 6, 7, 8, 9, 10, 11, 12, 13], [13])])
def spec_OpShow.B8 : List Nat := [0, 1, 3, 7, 15, 0, 32, 103, 255, 511, 0, 1024, 3303, 8191, 16383]
theorem spec_OpShow.tab8 : rtab .any (opsOf Tryd.f10 8) = spec_OpShow.T8 := by kernel_rfl
theorem spec_OpShow.bits8 : waitsOk spec_OpShow.T8.2 spec_OpShow.B8 = true := by kernel_rfl
set_option maxHeartbeats 8000000 in
set_option maxRecDepth 100000 in
theorem spec_OpShow.calls (k : Nat) (a0_0 : Int) (a0_1 : Int) (a0_2 : Int) (a0_3 : Int) (a0_4 : ByteArray) (r : ByteArray) (w : World) (h : spec_OpShow.f k a0_0 a0_1 a0_2 a0_3 a0_4 = some r) :
    Calls Tryd.prog 10 #[.agg #[.int .i64 a0_0, .int .i64 a0_1, .int .i64 a0_2, .int .i64 a0_3, .string a0_4]] w fun e w' => e = .returned (.string r) ∧ Below w.heap.size w w' := by
  have hu23 := Tryd.underlying23
  have HB := Aside0.mk (Below.refl w.heap.size w)
  have H : ((spec_OpOk.f k a0_0 a0_1 a0_2 a0_3 a0_4).bind fun t135 => (if t135 = true then (if a0_0 = 1 then ((spec_l6Dec.f k a0_1).bind fun t136 => (if 5 + t136.size ≤ 9223372036854775807 then (if ((⟨#[109, 97, 107, 101, 32]⟩ : ByteArray) ++ t136).size + 1 ≤ 9223372036854775807 then ((spec_l6Dec.f k a0_2).bind fun t137 => (if (((⟨#[109, 97, 107, 101, 32]⟩ : ByteArray) ++ t136) ++ (⟨#[32]⟩ : ByteArray)).size + t137.size ≤ 9223372036854775807 then (if ((((⟨#[109, 97, 107, 101, 32]⟩ : ByteArray) ++ t136) ++ (⟨#[32]⟩ : ByteArray)) ++ t137).size + 1 ≤ 9223372036854775807 then ((spec_l6Dec.f k a0_3).bind fun t138 => (if (((((⟨#[109, 97, 107, 101, 32]⟩ : ByteArray) ++ t136) ++ (⟨#[32]⟩ : ByteArray)) ++ t137) ++ (⟨#[32]⟩ : ByteArray)).size + t138.size ≤ 9223372036854775807 then (if ((((((⟨#[109, 97, 107, 101, 32]⟩ : ByteArray) ++ t136) ++ (⟨#[32]⟩ : ByteArray)) ++ t137) ++ (⟨#[32]⟩ : ByteArray)) ++ t138).size + 2 ≤ 9223372036854775807 then (if (((((((⟨#[109, 97, 107, 101, 32]⟩ : ByteArray) ++ t136) ++ (⟨#[32]⟩ : ByteArray)) ++ t137) ++ (⟨#[32]⟩ : ByteArray)) ++ t138) ++ (⟨#[32, 39]⟩ : ByteArray)).size + a0_4.size ≤ 9223372036854775807 then (if ((((((((⟨#[109, 97, 107, 101, 32]⟩ : ByteArray) ++ t136) ++ (⟨#[32]⟩ : ByteArray)) ++ t137) ++ (⟨#[32]⟩ : ByteArray)) ++ t138) ++ (⟨#[32, 39]⟩ : ByteArray)) ++ a0_4).size + 1 ≤ 9223372036854775807 then (some (((((((((⟨#[109, 97, 107, 101, 32]⟩ : ByteArray) ++ t136) ++ (⟨#[32]⟩ : ByteArray)) ++ t137) ++ (⟨#[32]⟩ : ByteArray)) ++ t138) ++ (⟨#[32, 39]⟩ : ByteArray)) ++ a0_4) ++ (⟨#[39]⟩ : ByteArray))) else (none)) else (none)) else (none)) else (none))) else (none)) else (none))) else (none)) else (none))) else (if a0_0 = 2 then ((spec_l6Dec.f k a0_1).bind fun t139 => (if 5 + t139.size ≤ 9223372036854775807 then (if ((⟨#[116, 101, 120, 116, 32]⟩ : ByteArray) ++ t139).size + 2 ≤ 9223372036854775807 then (if (((⟨#[116, 101, 120, 116, 32]⟩ : ByteArray) ++ t139) ++ (⟨#[32, 39]⟩ : ByteArray)).size + a0_4.size ≤ 9223372036854775807 then (if ((((⟨#[116, 101, 120, 116, 32]⟩ : ByteArray) ++ t139) ++ (⟨#[32, 39]⟩ : ByteArray)) ++ a0_4).size + 1 ≤ 9223372036854775807 then (some (((((⟨#[116, 101, 120, 116, 32]⟩ : ByteArray) ++ t139) ++ (⟨#[32, 39]⟩ : ByteArray)) ++ a0_4) ++ (⟨#[39]⟩ : ByteArray))) else (none)) else (none)) else (none)) else (none))) else ((spec_l6Dec.f k a0_1).bind fun t140 => (if 5 + t140.size ≤ 9223372036854775807 then (if ((⟨#[109, 111, 118, 101, 32]⟩ : ByteArray) ++ t140).size + 1 ≤ 9223372036854775807 then ((spec_l6Dec.f k a0_2).bind fun t141 => (if (((⟨#[109, 111, 118, 101, 32]⟩ : ByteArray) ++ t140) ++ (⟨#[32]⟩ : ByteArray)).size + t141.size ≤ 9223372036854775807 then (if ((((⟨#[109, 111, 118, 101, 32]⟩ : ByteArray) ++ t140) ++ (⟨#[32]⟩ : ByteArray)) ++ t141).size + 1 ≤ 9223372036854775807 then ((spec_l6Dec.f k a0_3).bind fun t142 => (if (((((⟨#[109, 111, 118, 101, 32]⟩ : ByteArray) ++ t140) ++ (⟨#[32]⟩ : ByteArray)) ++ t141) ++ (⟨#[32]⟩ : ByteArray)).size + t142.size ≤ 9223372036854775807 then (some ((((((⟨#[109, 111, 118, 101, 32]⟩ : ByteArray) ++ t140) ++ (⟨#[32]⟩ : ByteArray)) ++ t141) ++ (⟨#[32]⟩ : ByteArray)) ++ t142)) else (none))) else (none)) else (none))) else (none)) else (none))))) else (some (⟨#[]⟩ : ByteArray)))) = some r := h
  clear h
  replace H := Option.bind_eq_some_iff.mp H
  obtain ⟨t135, A20, H⟩ := H
  (try dsimp only at H)
  have A2 := Aside0.mk A20
  clear A20
  by_cases c3 : t135 = true
  · subst c3
    have H1 : (if a0_0 = 1 then ((spec_l6Dec.f k a0_1).bind fun t136 => (if 5 + t136.size ≤ 9223372036854775807 then (if ((⟨#[109, 97, 107, 101, 32]⟩ : ByteArray) ++ t136).size + 1 ≤ 9223372036854775807 then ((spec_l6Dec.f k a0_2).bind fun t137 => (if (((⟨#[109, 97, 107, 101, 32]⟩ : ByteArray) ++ t136) ++ (⟨#[32]⟩ : ByteArray)).size + t137.size ≤ 9223372036854775807 then (if ((((⟨#[109, 97, 107, 101, 32]⟩ : ByteArray) ++ t136) ++ (⟨#[32]⟩ : ByteArray)) ++ t137).size + 1 ≤ 9223372036854775807 then ((spec_l6Dec.f k a0_3).bind fun t138 => (if (((((⟨#[109, 97, 107, 101, 32]⟩ : ByteArray) ++ t136) ++ (⟨#[32]⟩ : ByteArray)) ++ t137) ++ (⟨#[32]⟩ : ByteArray)).size + t138.size ≤ 9223372036854775807 then (if ((((((⟨#[109, 97, 107, 101, 32]⟩ : ByteArray) ++ t136) ++ (⟨#[32]⟩ : ByteArray)) ++ t137) ++ (⟨#[32]⟩ : ByteArray)) ++ t138).size + 2 ≤ 9223372036854775807 then (if (((((((⟨#[109, 97, 107, 101, 32]⟩ : ByteArray) ++ t136) ++ (⟨#[32]⟩ : ByteArray)) ++ t137) ++ (⟨#[32]⟩ : ByteArray)) ++ t138) ++ (⟨#[32, 39]⟩ : ByteArray)).size + a0_4.size ≤ 9223372036854775807 then (if ((((((((⟨#[109, 97, 107, 101, 32]⟩ : ByteArray) ++ t136) ++ (⟨#[32]⟩ : ByteArray)) ++ t137) ++ (⟨#[32]⟩ : ByteArray)) ++ t138) ++ (⟨#[32, 39]⟩ : ByteArray)) ++ a0_4).size + 1 ≤ 9223372036854775807 then (some (((((((((⟨#[109, 97, 107, 101, 32]⟩ : ByteArray) ++ t136) ++ (⟨#[32]⟩ : ByteArray)) ++ t137) ++ (⟨#[32]⟩ : ByteArray)) ++ t138) ++ (⟨#[32, 39]⟩ : ByteArray)) ++ a0_4) ++ (⟨#[39]⟩ : ByteArray))) else (none)) else (none)) else (none)) else (none))) else (none)) else (none))) else (none)) else (none))) else (if a0_0 = 2 then ((spec_l6Dec.f k a0_1).bind fun t139 => (if 5 + t139.size ≤ 9223372036854775807 then (if ((⟨#[116, 101, 120, 116, 32]⟩ : ByteArray) ++ t139).size + 2 ≤ 9223372036854775807 then (if (((⟨#[116, 101, 120, 116, 32]⟩ : ByteArray) ++ t139) ++ (⟨#[32, 39]⟩ : ByteArray)).size + a0_4.size ≤ 9223372036854775807 then (if ((((⟨#[116, 101, 120, 116, 32]⟩ : ByteArray) ++ t139) ++ (⟨#[32, 39]⟩ : ByteArray)) ++ a0_4).size + 1 ≤ 9223372036854775807 then (some (((((⟨#[116, 101, 120, 116, 32]⟩ : ByteArray) ++ t139) ++ (⟨#[32, 39]⟩ : ByteArray)) ++ a0_4) ++ (⟨#[39]⟩ : ByteArray))) else (none)) else (none)) else (none)) else (none))) else ((spec_l6Dec.f k a0_1).bind fun t140 => (if 5 + t140.size ≤ 9223372036854775807 then (if ((⟨#[109, 111, 118, 101, 32]⟩ : ByteArray) ++ t140).size + 1 ≤ 9223372036854775807 then ((spec_l6Dec.f k a0_2).bind fun t141 => (if (((⟨#[109, 111, 118, 101, 32]⟩ : ByteArray) ++ t140) ++ (⟨#[32]⟩ : ByteArray)).size + t141.size ≤ 9223372036854775807 then (if ((((⟨#[109, 111, 118, 101, 32]⟩ : ByteArray) ++ t140) ++ (⟨#[32]⟩ : ByteArray)) ++ t141).size + 1 ≤ 9223372036854775807 then ((spec_l6Dec.f k a0_3).bind fun t142 => (if (((((⟨#[109, 111, 118, 101, 32]⟩ : ByteArray) ++ t140) ++ (⟨#[32]⟩ : ByteArray)) ++ t141) ++ (⟨#[32]⟩ : ByteArray)).size + t142.size ≤ 9223372036854775807 then (some ((((((⟨#[109, 111, 118, 101, 32]⟩ : ByteArray) ++ t140) ++ (⟨#[32]⟩ : ByteArray)) ++ t141) ++ (⟨#[32]⟩ : ByteArray)) ++ t142)) else (none))) else (none)) else (none))) else (none)) else (none))))) = some r := by rw [if_pos rfl] at H; exact H
    clear H
    have H := H1
    clear H1
    by_cases c4 : a0_0 = 1
    · rw [if_pos c4] at H
      have c4b0 : (a0_0 == 1) = true := beq_iff_eq.mpr c4
      have c4b1 : (a0_0 != 1) = false := bne_eq_false_iff_eq.mpr c4
      clear c4
      replace H := Option.bind_eq_some_iff.mp H
      obtain ⟨t136, A50, H⟩ := H
      (try dsimp only at H)
      have A5 := Aside0.mk A50
      clear A50
      by_cases c6 : 5 + t136.size ≤ 9223372036854775807
      · rw [if_pos c6] at H
        have c6b0 := eq_true c6
        have c6b1 : decide (5 + t136.size ≤ 9223372036854775807) = true := decide_eq_true c6
        try have c6b2 : (9223372036854775807 < 5 + t136.size) = False := eq_false (Nat.not_lt.2 c6)
        by_cases c7 : ((⟨#[109, 97, 107, 101, 32]⟩ : ByteArray) ++ t136).size + 1 ≤ 9223372036854775807
        · rw [if_pos c7] at H
          have c7b0 := eq_true c7
          have c7b1 : decide (((⟨#[109, 97, 107, 101, 32]⟩ : ByteArray) ++ t136).size + 1 ≤ 9223372036854775807) = true := decide_eq_true c7
          try have c7b2 : (9223372036854775807 < ((⟨#[109, 97, 107, 101, 32]⟩ : ByteArray) ++ t136).size + 1) = False := eq_false (Nat.not_lt.2 c7)
          have c7s := c7
          (try simp only [ByteArray.size_append', ByteArray.size_mk', List.size_toArray, List.length_cons, List.length_nil, Nat.zero_add, Nat.reduceAdd] at c7s)
          have c7t := eq_false (Nat.not_lt.2 c7s)
          clear c7s
          replace H := Option.bind_eq_some_iff.mp H
          obtain ⟨t137, A80, H⟩ := H
          (try dsimp only at H)
          have A8 := Aside0.mk A80
          clear A80
          by_cases c9 : (((⟨#[109, 97, 107, 101, 32]⟩ : ByteArray) ++ t136) ++ (⟨#[32]⟩ : ByteArray)).size + t137.size ≤ 9223372036854775807
          · rw [if_pos c9] at H
            have c9b0 := eq_true c9
            have c9b1 : decide ((((⟨#[109, 97, 107, 101, 32]⟩ : ByteArray) ++ t136) ++ (⟨#[32]⟩ : ByteArray)).size + t137.size ≤ 9223372036854775807) = true := decide_eq_true c9
            try have c9b2 : (9223372036854775807 < (((⟨#[109, 97, 107, 101, 32]⟩ : ByteArray) ++ t136) ++ (⟨#[32]⟩ : ByteArray)).size + t137.size) = False := eq_false (Nat.not_lt.2 c9)
            have c9s := c9
            (try simp only [ByteArray.size_append', ByteArray.size_mk', List.size_toArray, List.length_cons, List.length_nil, Nat.zero_add, Nat.reduceAdd] at c9s)
            have c9t := eq_false (Nat.not_lt.2 c9s)
            clear c9s
            by_cases c10 : ((((⟨#[109, 97, 107, 101, 32]⟩ : ByteArray) ++ t136) ++ (⟨#[32]⟩ : ByteArray)) ++ t137).size + 1 ≤ 9223372036854775807
            · rw [if_pos c10] at H
              have c10b0 := eq_true c10
              have c10b1 : decide (((((⟨#[109, 97, 107, 101, 32]⟩ : ByteArray) ++ t136) ++ (⟨#[32]⟩ : ByteArray)) ++ t137).size + 1 ≤ 9223372036854775807) = true := decide_eq_true c10
              try have c10b2 : (9223372036854775807 < ((((⟨#[109, 97, 107, 101, 32]⟩ : ByteArray) ++ t136) ++ (⟨#[32]⟩ : ByteArray)) ++ t137).size + 1) = False := eq_false (Nat.not_lt.2 c10)
              have c10s := c10
              (try simp only [ByteArray.size_append', ByteArray.size_mk', List.size_toArray, List.length_cons, List.length_nil, Nat.zero_add, Nat.reduceAdd] at c10s)
              have c10t := eq_false (Nat.not_lt.2 c10s)
              clear c10s
              replace H := Option.bind_eq_some_iff.mp H
              obtain ⟨t138, A110, H⟩ := H
              (try dsimp only at H)
              have A11 := Aside0.mk A110
              clear A110
              by_cases c12 : (((((⟨#[109, 97, 107, 101, 32]⟩ : ByteArray) ++ t136) ++ (⟨#[32]⟩ : ByteArray)) ++ t137) ++ (⟨#[32]⟩ : ByteArray)).size + t138.size ≤ 9223372036854775807
              · rw [if_pos c12] at H
                have c12b0 := eq_true c12
                have c12b1 : decide ((((((⟨#[109, 97, 107, 101, 32]⟩ : ByteArray) ++ t136) ++ (⟨#[32]⟩ : ByteArray)) ++ t137) ++ (⟨#[32]⟩ : ByteArray)).size + t138.size ≤ 9223372036854775807) = true := decide_eq_true c12
                try have c12b2 : (9223372036854775807 < (((((⟨#[109, 97, 107, 101, 32]⟩ : ByteArray) ++ t136) ++ (⟨#[32]⟩ : ByteArray)) ++ t137) ++ (⟨#[32]⟩ : ByteArray)).size + t138.size) = False := eq_false (Nat.not_lt.2 c12)
                have c12s := c12
                (try simp only [ByteArray.size_append', ByteArray.size_mk', List.size_toArray, List.length_cons, List.length_nil, Nat.zero_add, Nat.reduceAdd] at c12s)
                have c12t := eq_false (Nat.not_lt.2 c12s)
                clear c12s
                by_cases c13 : ((((((⟨#[109, 97, 107, 101, 32]⟩ : ByteArray) ++ t136) ++ (⟨#[32]⟩ : ByteArray)) ++ t137) ++ (⟨#[32]⟩ : ByteArray)) ++ t138).size + 2 ≤ 9223372036854775807
                · rw [if_pos c13] at H
                  have c13b0 := eq_true c13
                  have c13b1 : decide (((((((⟨#[109, 97, 107, 101, 32]⟩ : ByteArray) ++ t136) ++ (⟨#[32]⟩ : ByteArray)) ++ t137) ++ (⟨#[32]⟩ : ByteArray)) ++ t138).size + 2 ≤ 9223372036854775807) = true := decide_eq_true c13
                  try have c13b2 : (9223372036854775807 < ((((((⟨#[109, 97, 107, 101, 32]⟩ : ByteArray) ++ t136) ++ (⟨#[32]⟩ : ByteArray)) ++ t137) ++ (⟨#[32]⟩ : ByteArray)) ++ t138).size + 2) = False := eq_false (Nat.not_lt.2 c13)
                  have c13s := c13
                  (try simp only [ByteArray.size_append', ByteArray.size_mk', List.size_toArray, List.length_cons, List.length_nil, Nat.zero_add, Nat.reduceAdd] at c13s)
                  have c13t := eq_false (Nat.not_lt.2 c13s)
                  clear c13s
                  by_cases c14 : (((((((⟨#[109, 97, 107, 101, 32]⟩ : ByteArray) ++ t136) ++ (⟨#[32]⟩ : ByteArray)) ++ t137) ++ (⟨#[32]⟩ : ByteArray)) ++ t138) ++ (⟨#[32, 39]⟩ : ByteArray)).size + a0_4.size ≤ 9223372036854775807
                  · rw [if_pos c14] at H
                    have c14b0 := eq_true c14
                    have c14b1 : decide ((((((((⟨#[109, 97, 107, 101, 32]⟩ : ByteArray) ++ t136) ++ (⟨#[32]⟩ : ByteArray)) ++ t137) ++ (⟨#[32]⟩ : ByteArray)) ++ t138) ++ (⟨#[32, 39]⟩ : ByteArray)).size + a0_4.size ≤ 9223372036854775807) = true := decide_eq_true c14
                    try have c14b2 : (9223372036854775807 < (((((((⟨#[109, 97, 107, 101, 32]⟩ : ByteArray) ++ t136) ++ (⟨#[32]⟩ : ByteArray)) ++ t137) ++ (⟨#[32]⟩ : ByteArray)) ++ t138) ++ (⟨#[32, 39]⟩ : ByteArray)).size + a0_4.size) = False := eq_false (Nat.not_lt.2 c14)
                    have c14s := c14
                    (try simp only [ByteArray.size_append', ByteArray.size_mk', List.size_toArray, List.length_cons, List.length_nil, Nat.zero_add, Nat.reduceAdd] at c14s)
                    have c14t := eq_false (Nat.not_lt.2 c14s)
                    clear c14s
                    by_cases c15 : ((((((((⟨#[109, 97, 107, 101, 32]⟩ : ByteArray) ++ t136) ++ (⟨#[32]⟩ : ByteArray)) ++ t137) ++ (⟨#[32]⟩ : ByteArray)) ++ t138) ++ (⟨#[32, 39]⟩ : ByteArray)) ++ a0_4).size + 1 ≤ 9223372036854775807
                    · rw [if_pos c15] at H
                      have c15b0 := eq_true c15
                      have c15b1 : decide (((((((((⟨#[109, 97, 107, 101, 32]⟩ : ByteArray) ++ t136) ++ (⟨#[32]⟩ : ByteArray)) ++ t137) ++ (⟨#[32]⟩ : ByteArray)) ++ t138) ++ (⟨#[32, 39]⟩ : ByteArray)) ++ a0_4).size + 1 ≤ 9223372036854775807) = true := decide_eq_true c15
                      try have c15b2 : (9223372036854775807 < ((((((((⟨#[109, 97, 107, 101, 32]⟩ : ByteArray) ++ t136) ++ (⟨#[32]⟩ : ByteArray)) ++ t137) ++ (⟨#[32]⟩ : ByteArray)) ++ t138) ++ (⟨#[32, 39]⟩ : ByteArray)) ++ a0_4).size + 1) = False := eq_false (Nat.not_lt.2 c15)
                      have c15s := c15
                      (try simp only [ByteArray.size_append', ByteArray.size_mk', List.size_toArray, List.length_cons, List.length_nil, Nat.zero_add, Nat.reduceAdd] at c15s)
                      have c15t := eq_false (Nat.not_lt.2 c15s)
                      clear c15s
                      obtain rfl := Option.some.inj H
                      go_enter Tryd.func10, Tryd.ntmps10
                      try go_wp2_with (first | ((with_reducible refine gate_dst (N := 1) rfl ?_); refine box_event ?hg (N := 1) ?hd (cs := #[.int .i64 a0_0, .int .i64 a0_1, .int .i64 a0_2, .int .i64 a0_3, .string a0_4]) (t := 23) ?hr ?_; (case hd => rfl); (case hg => rfl); (case hr => first | (go_simp; done) | (go_simp; rfl)); intro gb134 hg w16 hbox hb; have n0_ := Aside0.mk (below_step belowA hb); have n1_ := Aside0.mk (hbox); have n2_ := Aside0.mk ((by rw [hg]; exact (below_size belowA) : w.heap.size ≤ gb134)); have n3_ := Aside0.mk ((by rw [hg]; exact (below_size belowA) : w.heap.size ≤ gb134)); clear HB; have HB := n0_; have BK134 := n1_; have GW134 := n2_; have GE134 := n3_; clear n0_ n1_ n2_ n3_; clear hb hbox hg; obtain ⟨hcz17_0, hcz17_1, hcz17_2, hcz17_3, hcz17_4, hfz17_0, hfz17_1, hfz17_2, hfz17_3, hfz17_4⟩ := blk_facts5 BK134.out) | ((with_reducible refine gate_callee (f := 15) rfl ?_); refine goesL_ (some 4) rfl rfl Tryd.func15 (by kernel_rfl) rfl #[.agg #[.int .i64 a0_0, .int .i64 a0_1, .int .i64 a0_2, .int .i64 a0_3, .string a0_4]] rfl argsA ?_; (with_reducible refine (spec_OpOk.calls k a0_0 a0_1 a0_2 a0_3 a0_4 true _ A2.out).mono ?_); rintro e w18 ⟨rfl, hb⟩; refine ⟨_, rfl, ?_⟩; have n0_ := Aside0.mk (blk_below (g := gb134) (o := .cells #[.int .i64 a0_0, .int .i64 a0_1, .int .i64 a0_2, .int .i64 a0_3, .string a0_4] 23 (0, 0)) blkA hb); have n1_ := Aside0.mk (below_step belowA hb); clear BK134; clear HB; have BK134 := n0_; have HB := n1_; clear n0_ n1_; (try clear hb); (try clear hb2); (try clear hk); (try clear hi); obtain ⟨hcz19_0, hcz19_1, hcz19_2, hcz19_3, hcz19_4, hfz19_0, hfz19_1, hfz19_2, hfz19_3, hfz19_4⟩ := blk_facts5 BK134.out))
                      have n0_ := Aside0.mk (blk_drew BK134.out)
                      have n1_ := Aside0.mk (below_drew1 HB.out)
                      clear BK134
                      clear HB
                      have BK134 := n0_
                      have HB := n1_
                      clear n0_ n1_
                      refine start_ (n := 20) (S := fun w' => w'.cell? ⟨gb134, 0, none⟩ = some (.int .i64 a0_0) ∧ w'.cell? ⟨gb134, 1, none⟩ = some (.int .i64 a0_1) ∧ w'.cell? ⟨gb134, 2, none⟩ = some (.int .i64 a0_2) ∧ w'.cell? ⟨gb134, 3, none⟩ = some (.int .i64 a0_3) ∧ w'.cell? ⟨gb134, 4, none⟩ = some (.string a0_4)) (ds := []) (tf 0 20) (by kernel_rfl) rfl rfl ⟨(blk_cell BK134.out 0).trans rfl, (blk_cell BK134.out 1).trans rfl, (blk_cell BK134.out 2).trans rfl, (blk_cell BK134.out 3).trans rfl, (blk_cell BK134.out 4).trans rfl⟩ (fun hHeld => ?_); refine with_tabW spec_OpShow.tab5 spec_OpShow.bits5 (fun HT_ HW_ => ?_)
                      generalize w18.drew = w20 at BK134 HB hHeld ⊢
                      refine pure_ (i := 0) (N := some 10) (tf 1 19) rfl rfl (anA HT_) (fun _ _ _ h => h) yldA putA ?_
                      refine pure_ (i := 5) (N := some 15) #[true, false, false, false, false, true, false, false, false, false, false, false, false, false, false, false, false, false, false, false] rfl rfl (anA HT_) (fun _ _ _ h => h) yldA putA ?_
                      refine pure_ (i := 10) (N := some 20) #[true, false, false, false, false, true, false, false, false, false, true, false, false, false, false, false, false, false, false, false] rfl rfl (anA HT_) (fun _ _ _ h => h) yldA putA ?_
                      refine pure_ (i := 15) (N := some 25) #[true, false, false, false, false, true, false, false, false, false, true, false, false, false, false, true, false, false, false, false] rfl rfl (anA HT_) (fun _ _ _ h => h) yldA putA ?_
                      refine take_ (i := 1) (N := some 11) #[true, true, false, false, false, true, false, false, false, false, true, false, false, false, false, true, false, false, false, false] rfl rfl (take_ofW HT_.out HW_.out (by kernel_rfl)) (fun _ _ _ h => h) (Or.inl ⟨by rfl, by rintro w' ⟨s0, s1, s2, s3, s4⟩; go_simp; with_reducible rfl⟩) hHeld putA ?_
                      refine take_ (i := 6) (N := some 16) #[true, true, false, false, false, true, true, false, false, false, true, false, false, false, false, true, false, false, false, false] rfl rfl (take_ofW HT_.out HW_.out (by kernel_rfl)) (fun _ _ _ h => h) (Or.inl ⟨by rfl, by rintro w' ⟨s0, s1, s2, s3, s4⟩; go_simp; with_reducible rfl⟩) hHeld putA ?_
                      refine take_ (i := 11) (N := some 21) #[true, true, false, false, false, true, true, false, false, false, true, true, false, false, false, true, false, false, false, false] rfl rfl (take_ofW HT_.out HW_.out (by kernel_rfl)) (fun _ _ _ h => h) (Or.inl ⟨by rfl, by rintro w' ⟨s0, s1, s2, s3, s4⟩; go_simp; with_reducible rfl⟩) hHeld putA ?_
                      refine take_ (i := 16) (N := some 26) #[true, true, false, false, false, true, true, false, false, false, true, true, false, false, false, true, true, false, false, false] rfl rfl (take_ofW HT_.out HW_.out (by kernel_rfl)) (fun _ _ _ h => h) (Or.inl ⟨by rfl, by rintro w' ⟨s0, s1, s2, s3, s4⟩; go_simp; with_reducible rfl⟩) hHeld putA ?_
                      refine one_ (i := 2) (N := some 12) #[true, true, true, false, false, true, true, false, false, false, true, true, false, false, false, true, true, false, false, false] rfl rfl (one_of HT_.out (by kernel_rfl)) (by decide) (fun K hK => ?_)
                      refine goes_ Tryd.func16 (by kernel_rfl) rfl #[.int .i64 a0_1] (by rfl) rfl rfl argsA ?_
                      with_reducible refine (spec_l6Dec.calls k a0_1 t136 _ A5.out).mono ?_
                      rintro e w21 ⟨rfl, hb⟩
                      refine ⟨_, rfl, ?_⟩
                      have n0_ := Aside0.mk (blk_below (g := gb134) (o := .cells #[.int .i64 a0_0, .int .i64 a0_1, .int .i64 a0_2, .int .i64 a0_3, .string a0_4] 23 (0, 0)) blkA hb)
                      have n1_ := Aside0.mk (below_step belowA hb)
                      clear BK134
                      clear HB
                      have BK134 := n0_
                      have HB := n1_
                      clear n0_ n1_
                      (try clear hb)
                      (try clear hb2)
                      (try clear hk)
                      (try clear hi)
                      refine hK.out _ _ ⟨(blk_cell BK134.out 0).trans rfl, (blk_cell BK134.out 1).trans rfl, (blk_cell BK134.out 2).trans rfl, (blk_cell BK134.out 3).trans rfl, (blk_cell BK134.out 4).trans rfl⟩ (fun hHeld => ?_)
                      clear hK K
                      refine norm_ (a' := ?_) ?_ ?_
                      rotate_left
                      · show Act.put _ (some 12) _ = _
                        simp only [Act.put, List.setIfInBounds_toArray, List.set_cons_zero, List.set_cons_succ, i64_w, i32_w]
                        rfl
                      refine pure_ (i := 3) (N := some 13) #[true, true, true, true, false, true, true, false, false, false, true, true, false, false, false, true, true, false, false, false] rfl rfl (anA HT_) (fun _ _ _ h => h) yldA putA ?_
                      refine pure_ (i := 4) (N := some 14) #[true, true, true, true, true, true, true, false, false, false, true, true, false, false, false, true, true, false, false, false] rfl rfl (anA HT_) (fun _ _ _ h => h) yldA putA ?_
                      refine one_ (i := 7) (N := some 17) #[true, true, true, true, true, true, true, true, false, false, true, true, false, false, false, true, true, false, false, false] rfl rfl (one_of HT_.out (by kernel_rfl)) (by decide) (fun K hK => ?_)
                      refine goes_ Tryd.func16 (by kernel_rfl) rfl #[.int .i64 a0_2] (by rfl) rfl rfl argsA ?_
                      with_reducible refine (spec_l6Dec.calls k a0_2 t137 _ A8.out).mono ?_
                      rintro e w22 ⟨rfl, hb⟩
                      refine ⟨_, rfl, ?_⟩
                      have n0_ := Aside0.mk (blk_below (g := gb134) (o := .cells #[.int .i64 a0_0, .int .i64 a0_1, .int .i64 a0_2, .int .i64 a0_3, .string a0_4] 23 (0, 0)) blkA hb)
                      have n1_ := Aside0.mk (below_step belowA hb)
                      clear BK134
                      clear HB
                      have BK134 := n0_
                      have HB := n1_
                      clear n0_ n1_
                      (try clear hb)
                      (try clear hb2)
                      (try clear hk)
                      (try clear hi)
                      refine hK.out _ _ ⟨(blk_cell BK134.out 0).trans rfl, (blk_cell BK134.out 1).trans rfl, (blk_cell BK134.out 2).trans rfl, (blk_cell BK134.out 3).trans rfl, (blk_cell BK134.out 4).trans rfl⟩ (fun hHeld => ?_)
                      clear hK K
                      refine norm_ (a' := ?_) ?_ ?_
                      rotate_left
                      · show Act.put _ (some 17) _ = _
                        simp only [Act.put, List.setIfInBounds_toArray, List.set_cons_zero, List.set_cons_succ, i64_w, i32_w]
                        rfl
                      refine pure_ (i := 8) (N := some 18) #[true, true, true, true, true, true, true, true, true, false, true, true, false, false, false, true, true, false, false, false] rfl rfl (anA HT_) (fun _ _ _ h => h) yldA putA ?_
                      refine pure_ (i := 9) (N := some 19) #[true, true, true, true, true, true, true, true, true, true, true, true, false, false, false, true, true, false, false, false] rfl rfl (anA HT_) (fun _ _ _ h => h) yldA putA ?_
                      refine one_ (i := 12) (N := some 22) #[true, true, true, true, true, true, true, true, true, true, true, true, true, false, false, true, true, false, false, false] rfl rfl (one_of HT_.out (by kernel_rfl)) (by decide) (fun K hK => ?_)
                      refine goes_ Tryd.func16 (by kernel_rfl) rfl #[.int .i64 a0_3] (by rfl) rfl rfl argsA ?_
                      with_reducible refine (spec_l6Dec.calls k a0_3 t138 _ A11.out).mono ?_
                      rintro e w23 ⟨rfl, hb⟩
                      refine ⟨_, rfl, ?_⟩
                      have n0_ := Aside0.mk (blk_below (g := gb134) (o := .cells #[.int .i64 a0_0, .int .i64 a0_1, .int .i64 a0_2, .int .i64 a0_3, .string a0_4] 23 (0, 0)) blkA hb)
                      have n1_ := Aside0.mk (below_step belowA hb)
                      clear BK134
                      clear HB
                      have BK134 := n0_
                      have HB := n1_
                      clear n0_ n1_
                      (try clear hb)
                      (try clear hb2)
                      (try clear hk)
                      (try clear hi)
                      refine hK.out _ _ ⟨(blk_cell BK134.out 0).trans rfl, (blk_cell BK134.out 1).trans rfl, (blk_cell BK134.out 2).trans rfl, (blk_cell BK134.out 3).trans rfl, (blk_cell BK134.out 4).trans rfl⟩ (fun hHeld => ?_)
                      clear hK K
                      refine norm_ (a' := ?_) ?_ ?_
                      rotate_left
                      · show Act.put _ (some 22) _ = _
                        simp only [Act.put, List.setIfInBounds_toArray, List.set_cons_zero, List.set_cons_succ, i64_w, i32_w]
                        rfl
                      refine pure_ (i := 13) (N := some 23) #[true, true, true, true, true, true, true, true, true, true, true, true, true, true, false, true, true, false, false, false] rfl rfl (anA HT_) (fun _ _ _ h => h) yldA putA ?_
                      refine pure_ (i := 14) (N := some 24) (tf 17 3) rfl rfl (anA HT_) (fun _ _ _ h => h) yldA putA ?_
                      refine pure_ (i := 17) (N := some 27) (tf 18 2) rfl rfl (anA HT_) (fun _ _ _ h => h) yldA putA ?_
                      refine pure_ (i := 18) (N := some 28) (tf 19 1) rfl rfl (anA HT_) (fun _ _ _ h => h) yldA putA ?_
                      refine pure_ (i := 19) (N := some 2) (tf 20 0) rfl rfl (anA HT_) (fun _ _ _ h => h) yldA putA ?_
                      refine done_ (done_of HT_.out (by kernel_rfl)) ?_
                      try go_wp2
                      go_ret
                      exact ⟨endA, belowA⟩
                    · rw [if_neg c15] at H
                      exact absurd H (by simp)
                  · rw [if_neg c14] at H
                    exact absurd H (by simp)
                · rw [if_neg c13] at H
                  exact absurd H (by simp)
              · rw [if_neg c12] at H
                exact absurd H (by simp)
            · rw [if_neg c10] at H
              exact absurd H (by simp)
          · rw [if_neg c9] at H
            exact absurd H (by simp)
        · rw [if_neg c7] at H
          exact absurd H (by simp)
      · rw [if_neg c6] at H
        exact absurd H (by simp)
    · rw [if_neg c4] at H
      have c4b0 : (a0_0 == 1) = false := beq_eq_false_iff_ne.mpr c4
      have c4b1 : (a0_0 != 1) = true := bne_iff_ne.mpr c4
      by_cases c24 : a0_0 = 2
      · rw [if_pos c24] at H
        have c24b0 : (a0_0 == 2) = true := beq_iff_eq.mpr c24
        have c24b1 : (a0_0 != 2) = false := bne_eq_false_iff_eq.mpr c24
        clear c24
        replace H := Option.bind_eq_some_iff.mp H
        obtain ⟨t139, A250, H⟩ := H
        (try dsimp only at H)
        have A25 := Aside0.mk A250
        clear A250
        by_cases c26 : 5 + t139.size ≤ 9223372036854775807
        · rw [if_pos c26] at H
          have c26b0 := eq_true c26
          have c26b1 : decide (5 + t139.size ≤ 9223372036854775807) = true := decide_eq_true c26
          try have c26b2 : (9223372036854775807 < 5 + t139.size) = False := eq_false (Nat.not_lt.2 c26)
          by_cases c27 : ((⟨#[116, 101, 120, 116, 32]⟩ : ByteArray) ++ t139).size + 2 ≤ 9223372036854775807
          · rw [if_pos c27] at H
            have c27b0 := eq_true c27
            have c27b1 : decide (((⟨#[116, 101, 120, 116, 32]⟩ : ByteArray) ++ t139).size + 2 ≤ 9223372036854775807) = true := decide_eq_true c27
            try have c27b2 : (9223372036854775807 < ((⟨#[116, 101, 120, 116, 32]⟩ : ByteArray) ++ t139).size + 2) = False := eq_false (Nat.not_lt.2 c27)
            have c27s := c27
            (try simp only [ByteArray.size_append', ByteArray.size_mk', List.size_toArray, List.length_cons, List.length_nil, Nat.zero_add, Nat.reduceAdd] at c27s)
            have c27t := eq_false (Nat.not_lt.2 c27s)
            clear c27s
            by_cases c28 : (((⟨#[116, 101, 120, 116, 32]⟩ : ByteArray) ++ t139) ++ (⟨#[32, 39]⟩ : ByteArray)).size + a0_4.size ≤ 9223372036854775807
            · rw [if_pos c28] at H
              have c28b0 := eq_true c28
              have c28b1 : decide ((((⟨#[116, 101, 120, 116, 32]⟩ : ByteArray) ++ t139) ++ (⟨#[32, 39]⟩ : ByteArray)).size + a0_4.size ≤ 9223372036854775807) = true := decide_eq_true c28
              try have c28b2 : (9223372036854775807 < (((⟨#[116, 101, 120, 116, 32]⟩ : ByteArray) ++ t139) ++ (⟨#[32, 39]⟩ : ByteArray)).size + a0_4.size) = False := eq_false (Nat.not_lt.2 c28)
              have c28s := c28
              (try simp only [ByteArray.size_append', ByteArray.size_mk', List.size_toArray, List.length_cons, List.length_nil, Nat.zero_add, Nat.reduceAdd] at c28s)
              have c28t := eq_false (Nat.not_lt.2 c28s)
              clear c28s
              by_cases c29 : ((((⟨#[116, 101, 120, 116, 32]⟩ : ByteArray) ++ t139) ++ (⟨#[32, 39]⟩ : ByteArray)) ++ a0_4).size + 1 ≤ 9223372036854775807
              · rw [if_pos c29] at H
                have c29b0 := eq_true c29
                have c29b1 : decide (((((⟨#[116, 101, 120, 116, 32]⟩ : ByteArray) ++ t139) ++ (⟨#[32, 39]⟩ : ByteArray)) ++ a0_4).size + 1 ≤ 9223372036854775807) = true := decide_eq_true c29
                try have c29b2 : (9223372036854775807 < ((((⟨#[116, 101, 120, 116, 32]⟩ : ByteArray) ++ t139) ++ (⟨#[32, 39]⟩ : ByteArray)) ++ a0_4).size + 1) = False := eq_false (Nat.not_lt.2 c29)
                have c29s := c29
                (try simp only [ByteArray.size_append', ByteArray.size_mk', List.size_toArray, List.length_cons, List.length_nil, Nat.zero_add, Nat.reduceAdd] at c29s)
                have c29t := eq_false (Nat.not_lt.2 c29s)
                clear c29s
                obtain rfl := Option.some.inj H
                go_enter Tryd.func10, Tryd.ntmps10
                try go_wp2_with (first | ((with_reducible refine gate_dst (N := 1) rfl ?_); refine box_event ?hg (N := 1) ?hd (cs := #[.int .i64 a0_0, .int .i64 a0_1, .int .i64 a0_2, .int .i64 a0_3, .string a0_4]) (t := 23) ?hr ?_; (case hd => rfl); (case hg => rfl); (case hr => first | (go_simp; done) | (go_simp; rfl)); intro gb134 hg w30 hbox hb; have n0_ := Aside0.mk (below_step belowA hb); have n1_ := Aside0.mk (hbox); have n2_ := Aside0.mk ((by rw [hg]; exact (below_size belowA) : w.heap.size ≤ gb134)); have n3_ := Aside0.mk ((by rw [hg]; exact (below_size belowA) : w.heap.size ≤ gb134)); clear HB; have HB := n0_; have BK134 := n1_; have GW134 := n2_; have GE134 := n3_; clear n0_ n1_ n2_ n3_; clear hb hbox hg; obtain ⟨hcz31_0, hcz31_1, hcz31_2, hcz31_3, hcz31_4, hfz31_0, hfz31_1, hfz31_2, hfz31_3, hfz31_4⟩ := blk_facts5 BK134.out) | ((with_reducible refine gate_callee (f := 15) rfl ?_); refine goesL_ (some 4) rfl rfl Tryd.func15 (by kernel_rfl) rfl #[.agg #[.int .i64 a0_0, .int .i64 a0_1, .int .i64 a0_2, .int .i64 a0_3, .string a0_4]] rfl argsA ?_; (with_reducible refine (spec_OpOk.calls k a0_0 a0_1 a0_2 a0_3 a0_4 true _ A2.out).mono ?_); rintro e w32 ⟨rfl, hb⟩; refine ⟨_, rfl, ?_⟩; have n0_ := Aside0.mk (blk_below (g := gb134) (o := .cells #[.int .i64 a0_0, .int .i64 a0_1, .int .i64 a0_2, .int .i64 a0_3, .string a0_4] 23 (0, 0)) blkA hb); have n1_ := Aside0.mk (below_step belowA hb); clear BK134; clear HB; have BK134 := n0_; have HB := n1_; clear n0_ n1_; (try clear hb); (try clear hb2); (try clear hk); (try clear hi); obtain ⟨hcz33_0, hcz33_1, hcz33_2, hcz33_3, hcz33_4, hfz33_0, hfz33_1, hfz33_2, hfz33_3, hfz33_4⟩ := blk_facts5 BK134.out))
                have n0_ := Aside0.mk (blk_drew BK134.out)
                have n1_ := Aside0.mk (below_drew1 HB.out)
                clear BK134
                clear HB
                have BK134 := n0_
                have HB := n1_
                clear n0_ n1_
                refine start_ (n := 10) (S := fun w' => w'.cell? ⟨gb134, 0, none⟩ = some (.int .i64 a0_0) ∧ w'.cell? ⟨gb134, 1, none⟩ = some (.int .i64 a0_1) ∧ w'.cell? ⟨gb134, 2, none⟩ = some (.int .i64 a0_2) ∧ w'.cell? ⟨gb134, 3, none⟩ = some (.int .i64 a0_3) ∧ w'.cell? ⟨gb134, 4, none⟩ = some (.string a0_4)) (ds := []) (tf 0 10) (by kernel_rfl) rfl rfl ⟨(blk_cell BK134.out 0).trans rfl, (blk_cell BK134.out 1).trans rfl, (blk_cell BK134.out 2).trans rfl, (blk_cell BK134.out 3).trans rfl, (blk_cell BK134.out 4).trans rfl⟩ (fun hHeld => ?_); refine with_tabW spec_OpShow.tab7 spec_OpShow.bits7 (fun HT_ HW_ => ?_)
                generalize w32.drew = w34 at BK134 HB hHeld ⊢
                refine pure_ (i := 0) (N := some 31) (tf 1 9) rfl rfl (anA HT_) (fun _ _ _ h => h) yldA putA ?_
                refine pure_ (i := 5) (N := some 36) #[true, false, false, false, false, true, false, false, false, false] rfl rfl (anA HT_) (fun _ _ _ h => h) yldA putA ?_
                refine take_ (i := 1) (N := some 32) #[true, true, false, false, false, true, false, false, false, false] rfl rfl (take_ofW HT_.out HW_.out (by kernel_rfl)) (fun _ _ _ h => h) (Or.inl ⟨by rfl, by rintro w' ⟨s0, s1, s2, s3, s4⟩; go_simp; with_reducible rfl⟩) hHeld putA ?_
                refine take_ (i := 6) (N := some 37) #[true, true, false, false, false, true, true, false, false, false] rfl rfl (take_ofW HT_.out HW_.out (by kernel_rfl)) (fun _ _ _ h => h) (Or.inl ⟨by rfl, by rintro w' ⟨s0, s1, s2, s3, s4⟩; go_simp; with_reducible rfl⟩) hHeld putA ?_
                refine one_ (i := 2) (N := some 33) #[true, true, true, false, false, true, true, false, false, false] rfl rfl (one_of HT_.out (by kernel_rfl)) (by decide) (fun K hK => ?_)
                refine goes_ Tryd.func16 (by kernel_rfl) rfl #[.int .i64 a0_1] (by rfl) rfl rfl argsA ?_
                with_reducible refine (spec_l6Dec.calls k a0_1 t139 _ A25.out).mono ?_
                rintro e w35 ⟨rfl, hb⟩
                refine ⟨_, rfl, ?_⟩
                have n0_ := Aside0.mk (blk_below (g := gb134) (o := .cells #[.int .i64 a0_0, .int .i64 a0_1, .int .i64 a0_2, .int .i64 a0_3, .string a0_4] 23 (0, 0)) blkA hb)
                have n1_ := Aside0.mk (below_step belowA hb)
                clear BK134
                clear HB
                have BK134 := n0_
                have HB := n1_
                clear n0_ n1_
                (try clear hb)
                (try clear hb2)
                (try clear hk)
                (try clear hi)
                refine hK.out _ _ ⟨(blk_cell BK134.out 0).trans rfl, (blk_cell BK134.out 1).trans rfl, (blk_cell BK134.out 2).trans rfl, (blk_cell BK134.out 3).trans rfl, (blk_cell BK134.out 4).trans rfl⟩ (fun hHeld => ?_)
                clear hK K
                refine norm_ (a' := ?_) ?_ ?_
                rotate_left
                · show Act.put _ (some 33) _ = _
                  simp only [Act.put, List.setIfInBounds_toArray, List.set_cons_zero, List.set_cons_succ, i64_w, i32_w]
                  rfl
                refine pure_ (i := 3) (N := some 34) #[true, true, true, true, false, true, true, false, false, false] rfl rfl (anA HT_) (fun _ _ _ h => h) yldA putA ?_
                refine pure_ (i := 4) (N := some 35) (tf 7 3) rfl rfl (anA HT_) (fun _ _ _ h => h) yldA putA ?_
                refine pure_ (i := 7) (N := some 38) (tf 8 2) rfl rfl (anA HT_) (fun _ _ _ h => h) yldA putA ?_
                refine pure_ (i := 8) (N := some 39) (tf 9 1) rfl rfl (anA HT_) (fun _ _ _ h => h) yldA putA ?_
                refine pure_ (i := 9) (N := some 2) (tf 10 0) rfl rfl (anA HT_) (fun _ _ _ h => h) yldA putA ?_
                refine done_ (done_of HT_.out (by kernel_rfl)) ?_
                try go_wp2
                go_ret
                exact ⟨endA, belowA⟩
              · rw [if_neg c29] at H
                exact absurd H (by simp)
            · rw [if_neg c28] at H
              exact absurd H (by simp)
          · rw [if_neg c27] at H
            exact absurd H (by simp)
        · rw [if_neg c26] at H
          exact absurd H (by simp)
      · rw [if_neg c24] at H
        have c24b0 : (a0_0 == 2) = false := beq_eq_false_iff_ne.mpr c24
        have c24b1 : (a0_0 != 2) = true := bne_iff_ne.mpr c24
        replace H := Option.bind_eq_some_iff.mp H
        obtain ⟨t140, A360, H⟩ := H
        (try dsimp only at H)
        have A36 := Aside0.mk A360
        clear A360
        by_cases c37 : 5 + t140.size ≤ 9223372036854775807
        · rw [if_pos c37] at H
          have c37b0 := eq_true c37
          have c37b1 : decide (5 + t140.size ≤ 9223372036854775807) = true := decide_eq_true c37
          try have c37b2 : (9223372036854775807 < 5 + t140.size) = False := eq_false (Nat.not_lt.2 c37)
          by_cases c38 : ((⟨#[109, 111, 118, 101, 32]⟩ : ByteArray) ++ t140).size + 1 ≤ 9223372036854775807
          · rw [if_pos c38] at H
            have c38b0 := eq_true c38
            have c38b1 : decide (((⟨#[109, 111, 118, 101, 32]⟩ : ByteArray) ++ t140).size + 1 ≤ 9223372036854775807) = true := decide_eq_true c38
            try have c38b2 : (9223372036854775807 < ((⟨#[109, 111, 118, 101, 32]⟩ : ByteArray) ++ t140).size + 1) = False := eq_false (Nat.not_lt.2 c38)
            have c38s := c38
            (try simp only [ByteArray.size_append', ByteArray.size_mk', List.size_toArray, List.length_cons, List.length_nil, Nat.zero_add, Nat.reduceAdd] at c38s)
            have c38t := eq_false (Nat.not_lt.2 c38s)
            clear c38s
            replace H := Option.bind_eq_some_iff.mp H
            obtain ⟨t141, A390, H⟩ := H
            (try dsimp only at H)
            have A39 := Aside0.mk A390
            clear A390
            by_cases c40 : (((⟨#[109, 111, 118, 101, 32]⟩ : ByteArray) ++ t140) ++ (⟨#[32]⟩ : ByteArray)).size + t141.size ≤ 9223372036854775807
            · rw [if_pos c40] at H
              have c40b0 := eq_true c40
              have c40b1 : decide ((((⟨#[109, 111, 118, 101, 32]⟩ : ByteArray) ++ t140) ++ (⟨#[32]⟩ : ByteArray)).size + t141.size ≤ 9223372036854775807) = true := decide_eq_true c40
              try have c40b2 : (9223372036854775807 < (((⟨#[109, 111, 118, 101, 32]⟩ : ByteArray) ++ t140) ++ (⟨#[32]⟩ : ByteArray)).size + t141.size) = False := eq_false (Nat.not_lt.2 c40)
              have c40s := c40
              (try simp only [ByteArray.size_append', ByteArray.size_mk', List.size_toArray, List.length_cons, List.length_nil, Nat.zero_add, Nat.reduceAdd] at c40s)
              have c40t := eq_false (Nat.not_lt.2 c40s)
              clear c40s
              by_cases c41 : ((((⟨#[109, 111, 118, 101, 32]⟩ : ByteArray) ++ t140) ++ (⟨#[32]⟩ : ByteArray)) ++ t141).size + 1 ≤ 9223372036854775807
              · rw [if_pos c41] at H
                have c41b0 := eq_true c41
                have c41b1 : decide (((((⟨#[109, 111, 118, 101, 32]⟩ : ByteArray) ++ t140) ++ (⟨#[32]⟩ : ByteArray)) ++ t141).size + 1 ≤ 9223372036854775807) = true := decide_eq_true c41
                try have c41b2 : (9223372036854775807 < ((((⟨#[109, 111, 118, 101, 32]⟩ : ByteArray) ++ t140) ++ (⟨#[32]⟩ : ByteArray)) ++ t141).size + 1) = False := eq_false (Nat.not_lt.2 c41)
                have c41s := c41
                (try simp only [ByteArray.size_append', ByteArray.size_mk', List.size_toArray, List.length_cons, List.length_nil, Nat.zero_add, Nat.reduceAdd] at c41s)
                have c41t := eq_false (Nat.not_lt.2 c41s)
                clear c41s
                replace H := Option.bind_eq_some_iff.mp H
                obtain ⟨t142, A420, H⟩ := H
                (try dsimp only at H)
                have A42 := Aside0.mk A420
                clear A420
                by_cases c43 : (((((⟨#[109, 111, 118, 101, 32]⟩ : ByteArray) ++ t140) ++ (⟨#[32]⟩ : ByteArray)) ++ t141) ++ (⟨#[32]⟩ : ByteArray)).size + t142.size ≤ 9223372036854775807
                · rw [if_pos c43] at H
                  have c43b0 := eq_true c43
                  have c43b1 : decide ((((((⟨#[109, 111, 118, 101, 32]⟩ : ByteArray) ++ t140) ++ (⟨#[32]⟩ : ByteArray)) ++ t141) ++ (⟨#[32]⟩ : ByteArray)).size + t142.size ≤ 9223372036854775807) = true := decide_eq_true c43
                  try have c43b2 : (9223372036854775807 < (((((⟨#[109, 111, 118, 101, 32]⟩ : ByteArray) ++ t140) ++ (⟨#[32]⟩ : ByteArray)) ++ t141) ++ (⟨#[32]⟩ : ByteArray)).size + t142.size) = False := eq_false (Nat.not_lt.2 c43)
                  have c43s := c43
                  (try simp only [ByteArray.size_append', ByteArray.size_mk', List.size_toArray, List.length_cons, List.length_nil, Nat.zero_add, Nat.reduceAdd] at c43s)
                  have c43t := eq_false (Nat.not_lt.2 c43s)
                  clear c43s
                  obtain rfl := Option.some.inj H
                  go_enter Tryd.func10, Tryd.ntmps10
                  try go_wp2_with (first | ((with_reducible refine gate_dst (N := 1) rfl ?_); refine box_event ?hg (N := 1) ?hd (cs := #[.int .i64 a0_0, .int .i64 a0_1, .int .i64 a0_2, .int .i64 a0_3, .string a0_4]) (t := 23) ?hr ?_; (case hd => rfl); (case hg => rfl); (case hr => first | (go_simp; done) | (go_simp; rfl)); intro gb134 hg w44 hbox hb; have n0_ := Aside0.mk (below_step belowA hb); have n1_ := Aside0.mk (hbox); have n2_ := Aside0.mk ((by rw [hg]; exact (below_size belowA) : w.heap.size ≤ gb134)); have n3_ := Aside0.mk ((by rw [hg]; exact (below_size belowA) : w.heap.size ≤ gb134)); clear HB; have HB := n0_; have BK134 := n1_; have GW134 := n2_; have GE134 := n3_; clear n0_ n1_ n2_ n3_; clear hb hbox hg; obtain ⟨hcz45_0, hcz45_1, hcz45_2, hcz45_3, hcz45_4, hfz45_0, hfz45_1, hfz45_2, hfz45_3, hfz45_4⟩ := blk_facts5 BK134.out) | ((with_reducible refine gate_callee (f := 15) rfl ?_); refine goesL_ (some 4) rfl rfl Tryd.func15 (by kernel_rfl) rfl #[.agg #[.int .i64 a0_0, .int .i64 a0_1, .int .i64 a0_2, .int .i64 a0_3, .string a0_4]] rfl argsA ?_; (with_reducible refine (spec_OpOk.calls k a0_0 a0_1 a0_2 a0_3 a0_4 true _ A2.out).mono ?_); rintro e w46 ⟨rfl, hb⟩; refine ⟨_, rfl, ?_⟩; have n0_ := Aside0.mk (blk_below (g := gb134) (o := .cells #[.int .i64 a0_0, .int .i64 a0_1, .int .i64 a0_2, .int .i64 a0_3, .string a0_4] 23 (0, 0)) blkA hb); have n1_ := Aside0.mk (below_step belowA hb); clear BK134; clear HB; have BK134 := n0_; have HB := n1_; clear n0_ n1_; (try clear hb); (try clear hb2); (try clear hk); (try clear hi); obtain ⟨hcz47_0, hcz47_1, hcz47_2, hcz47_3, hcz47_4, hfz47_0, hfz47_1, hfz47_2, hfz47_3, hfz47_4⟩ := blk_facts5 BK134.out))
                  have n0_ := Aside0.mk (blk_drew BK134.out)
                  have n1_ := Aside0.mk (below_drew1 HB.out)
                  clear BK134
                  clear HB
                  have BK134 := n0_
                  have HB := n1_
                  clear n0_ n1_
                  refine start_ (n := 15) (S := fun w' => w'.cell? ⟨gb134, 0, none⟩ = some (.int .i64 a0_0) ∧ w'.cell? ⟨gb134, 1, none⟩ = some (.int .i64 a0_1) ∧ w'.cell? ⟨gb134, 2, none⟩ = some (.int .i64 a0_2) ∧ w'.cell? ⟨gb134, 3, none⟩ = some (.int .i64 a0_3) ∧ w'.cell? ⟨gb134, 4, none⟩ = some (.string a0_4)) (ds := []) (tf 0 15) (by kernel_rfl) rfl rfl ⟨(blk_cell BK134.out 0).trans rfl, (blk_cell BK134.out 1).trans rfl, (blk_cell BK134.out 2).trans rfl, (blk_cell BK134.out 3).trans rfl, (blk_cell BK134.out 4).trans rfl⟩ (fun hHeld => ?_); refine with_tabW spec_OpShow.tab8 spec_OpShow.bits8 (fun HT_ HW_ => ?_)
                  generalize w46.drew = w48 at BK134 HB hHeld ⊢
                  refine pure_ (i := 0) (N := some 40) (tf 1 14) rfl rfl (anA HT_) (fun _ _ _ h => h) yldA putA ?_
                  refine pure_ (i := 5) (N := some 45) #[true, false, false, false, false, true, false, false, false, false, false, false, false, false, false] rfl rfl (anA HT_) (fun _ _ _ h => h) yldA putA ?_
                  refine pure_ (i := 10) (N := some 50) #[true, false, false, false, false, true, false, false, false, false, true, false, false, false, false] rfl rfl (anA HT_) (fun _ _ _ h => h) yldA putA ?_
                  refine take_ (i := 1) (N := some 41) #[true, true, false, false, false, true, false, false, false, false, true, false, false, false, false] rfl rfl (take_ofW HT_.out HW_.out (by kernel_rfl)) (fun _ _ _ h => h) (Or.inl ⟨by rfl, by rintro w' ⟨s0, s1, s2, s3, s4⟩; go_simp; with_reducible rfl⟩) hHeld putA ?_
                  refine take_ (i := 6) (N := some 46) #[true, true, false, false, false, true, true, false, false, false, true, false, false, false, false] rfl rfl (take_ofW HT_.out HW_.out (by kernel_rfl)) (fun _ _ _ h => h) (Or.inl ⟨by rfl, by rintro w' ⟨s0, s1, s2, s3, s4⟩; go_simp; with_reducible rfl⟩) hHeld putA ?_
                  refine take_ (i := 11) (N := some 51) #[true, true, false, false, false, true, true, false, false, false, true, true, false, false, false] rfl rfl (take_ofW HT_.out HW_.out (by kernel_rfl)) (fun _ _ _ h => h) (Or.inl ⟨by rfl, by rintro w' ⟨s0, s1, s2, s3, s4⟩; go_simp; with_reducible rfl⟩) hHeld putA ?_
                  refine one_ (i := 2) (N := some 42) #[true, true, true, false, false, true, true, false, false, false, true, true, false, false, false] rfl rfl (one_of HT_.out (by kernel_rfl)) (by decide) (fun K hK => ?_)
                  refine goes_ Tryd.func16 (by kernel_rfl) rfl #[.int .i64 a0_1] (by rfl) rfl rfl argsA ?_
                  with_reducible refine (spec_l6Dec.calls k a0_1 t140 _ A36.out).mono ?_
                  rintro e w49 ⟨rfl, hb⟩
                  refine ⟨_, rfl, ?_⟩
                  have n0_ := Aside0.mk (blk_below (g := gb134) (o := .cells #[.int .i64 a0_0, .int .i64 a0_1, .int .i64 a0_2, .int .i64 a0_3, .string a0_4] 23 (0, 0)) blkA hb)
                  have n1_ := Aside0.mk (below_step belowA hb)
                  clear BK134
                  clear HB
                  have BK134 := n0_
                  have HB := n1_
                  clear n0_ n1_
                  (try clear hb)
                  (try clear hb2)
                  (try clear hk)
                  (try clear hi)
                  refine hK.out _ _ ⟨(blk_cell BK134.out 0).trans rfl, (blk_cell BK134.out 1).trans rfl, (blk_cell BK134.out 2).trans rfl, (blk_cell BK134.out 3).trans rfl, (blk_cell BK134.out 4).trans rfl⟩ (fun hHeld => ?_)
                  clear hK K
                  refine norm_ (a' := ?_) ?_ ?_
                  rotate_left
                  · show Act.put _ (some 42) _ = _
                    simp only [Act.put, List.setIfInBounds_toArray, List.set_cons_zero, List.set_cons_succ, i64_w, i32_w]
                    rfl
                  refine pure_ (i := 3) (N := some 43) #[true, true, true, true, false, true, true, false, false, false, true, true, false, false, false] rfl rfl (anA HT_) (fun _ _ _ h => h) yldA putA ?_
                  refine pure_ (i := 4) (N := some 44) #[true, true, true, true, true, true, true, false, false, false, true, true, false, false, false] rfl rfl (anA HT_) (fun _ _ _ h => h) yldA putA ?_
                  refine one_ (i := 7) (N := some 47) #[true, true, true, true, true, true, true, true, false, false, true, true, false, false, false] rfl rfl (one_of HT_.out (by kernel_rfl)) (by decide) (fun K hK => ?_)
                  refine goes_ Tryd.func16 (by kernel_rfl) rfl #[.int .i64 a0_2] (by rfl) rfl rfl argsA ?_
                  with_reducible refine (spec_l6Dec.calls k a0_2 t141 _ A39.out).mono ?_
                  rintro e w50 ⟨rfl, hb⟩
                  refine ⟨_, rfl, ?_⟩
                  have n0_ := Aside0.mk (blk_below (g := gb134) (o := .cells #[.int .i64 a0_0, .int .i64 a0_1, .int .i64 a0_2, .int .i64 a0_3, .string a0_4] 23 (0, 0)) blkA hb)
                  have n1_ := Aside0.mk (below_step belowA hb)
                  clear BK134
                  clear HB
                  have BK134 := n0_
                  have HB := n1_
                  clear n0_ n1_
                  (try clear hb)
                  (try clear hb2)
                  (try clear hk)
                  (try clear hi)
                  refine hK.out _ _ ⟨(blk_cell BK134.out 0).trans rfl, (blk_cell BK134.out 1).trans rfl, (blk_cell BK134.out 2).trans rfl, (blk_cell BK134.out 3).trans rfl, (blk_cell BK134.out 4).trans rfl⟩ (fun hHeld => ?_)
                  clear hK K
                  refine norm_ (a' := ?_) ?_ ?_
                  rotate_left
                  · show Act.put _ (some 47) _ = _
                    simp only [Act.put, List.setIfInBounds_toArray, List.set_cons_zero, List.set_cons_succ, i64_w, i32_w]
                    rfl
                  refine pure_ (i := 8) (N := some 48) #[true, true, true, true, true, true, true, true, true, false, true, true, false, false, false] rfl rfl (anA HT_) (fun _ _ _ h => h) yldA putA ?_
                  refine pure_ (i := 9) (N := some 49) (tf 12 3) rfl rfl (anA HT_) (fun _ _ _ h => h) yldA putA ?_
                  refine one_ (i := 12) (N := some 52) (tf 13 2) rfl rfl (one_of HT_.out (by kernel_rfl)) (by decide) (fun K hK => ?_)
                  refine goes_ Tryd.func16 (by kernel_rfl) rfl #[.int .i64 a0_3] (by rfl) rfl rfl argsA ?_
                  with_reducible refine (spec_l6Dec.calls k a0_3 t142 _ A42.out).mono ?_
                  rintro e w51 ⟨rfl, hb⟩
                  refine ⟨_, rfl, ?_⟩
                  have n0_ := Aside0.mk (blk_below (g := gb134) (o := .cells #[.int .i64 a0_0, .int .i64 a0_1, .int .i64 a0_2, .int .i64 a0_3, .string a0_4] 23 (0, 0)) blkA hb)
                  have n1_ := Aside0.mk (below_step belowA hb)
                  clear BK134
                  clear HB
                  have BK134 := n0_
                  have HB := n1_
                  clear n0_ n1_
                  (try clear hb)
                  (try clear hb2)
                  (try clear hk)
                  (try clear hi)
                  refine hK.out _ _ ⟨(blk_cell BK134.out 0).trans rfl, (blk_cell BK134.out 1).trans rfl, (blk_cell BK134.out 2).trans rfl, (blk_cell BK134.out 3).trans rfl, (blk_cell BK134.out 4).trans rfl⟩ (fun hHeld => ?_)
                  clear hK K
                  refine norm_ (a' := ?_) ?_ ?_
                  rotate_left
                  · show Act.put _ (some 52) _ = _
                    simp only [Act.put, List.setIfInBounds_toArray, List.set_cons_zero, List.set_cons_succ, i64_w, i32_w]
                    rfl
                  refine pure_ (i := 13) (N := some 53) (tf 14 1) rfl rfl (anA HT_) (fun _ _ _ h => h) yldA putA ?_
                  refine pure_ (i := 14) (N := some 2) (tf 15 0) rfl rfl (anA HT_) (fun _ _ _ h => h) yldA putA ?_
                  refine done_ (done_of HT_.out (by kernel_rfl)) ?_
                  try go_wp2
                  go_ret
                  exact ⟨endA, belowA⟩
                · rw [if_neg c43] at H
                  exact absurd H (by simp)
              · rw [if_neg c41] at H
                exact absurd H (by simp)
            · rw [if_neg c40] at H
              exact absurd H (by simp)
          · rw [if_neg c38] at H
            exact absurd H (by simp)
        · rw [if_neg c37] at H
          exact absurd H (by simp)
  · replace c3 := Bool.eq_false_iff.mpr c3
    subst c3
    have H1 : (some (⟨#[]⟩ : ByteArray)) = some r := by rw [if_neg (show ¬ (false = true) by decide)] at H; exact H
    clear H
    have H := H1
    clear H1
    obtain rfl := Option.some.inj H
    go_enter Tryd.func10, Tryd.ntmps10
    go_wp2_with (first | ((with_reducible refine gate_dst (N := 1) rfl ?_); refine box_event ?hg (N := 1) ?hd (cs := #[.int .i64 a0_0, .int .i64 a0_1, .int .i64 a0_2, .int .i64 a0_3, .string a0_4]) (t := 23) ?hr ?_; (case hd => rfl); (case hg => rfl); (case hr => first | (go_simp; done) | (go_simp; rfl)); intro gb134 hg w52 hbox hb; have n0_ := Aside0.mk (below_step belowA hb); have n1_ := Aside0.mk (hbox); have n2_ := Aside0.mk ((by rw [hg]; exact (below_size belowA) : w.heap.size ≤ gb134)); have n3_ := Aside0.mk ((by rw [hg]; exact (below_size belowA) : w.heap.size ≤ gb134)); clear HB; have HB := n0_; have BK134 := n1_; have GW134 := n2_; have GE134 := n3_; clear n0_ n1_ n2_ n3_; clear hb hbox hg; obtain ⟨hcz53_0, hcz53_1, hcz53_2, hcz53_3, hcz53_4, hfz53_0, hfz53_1, hfz53_2, hfz53_3, hfz53_4⟩ := blk_facts5 BK134.out) | ((with_reducible refine gate_callee (f := 15) rfl ?_); refine goesL_ (some 4) rfl rfl Tryd.func15 (by kernel_rfl) rfl #[.agg #[.int .i64 a0_0, .int .i64 a0_1, .int .i64 a0_2, .int .i64 a0_3, .string a0_4]] rfl argsA ?_; (with_reducible refine (spec_OpOk.calls k a0_0 a0_1 a0_2 a0_3 a0_4 false _ A2.out).mono ?_); rintro e w54 ⟨rfl, hb⟩; refine ⟨_, rfl, ?_⟩; have n0_ := Aside0.mk (blk_below (g := gb134) (o := .cells #[.int .i64 a0_0, .int .i64 a0_1, .int .i64 a0_2, .int .i64 a0_3, .string a0_4] 23 (0, 0)) blkA hb); have n1_ := Aside0.mk (below_step belowA hb); clear BK134; clear HB; have BK134 := n0_; have HB := n1_; clear n0_ n1_; (try clear hb); (try clear hb2); (try clear hk); (try clear hi)))
    go_ret
    exact ⟨endA, belowA⟩

/-! ### spec_OpRead: function 4 -/
def spec_OpRead.f (k : Nat) (a0 : ByteArray) : Option (Int × Int × Int × Int × ByteArray × Bool) := if (a0.size : Int) > 24 then (some (0, 0, 0, 0, (⟨#[]⟩ : ByteArray), false)) else ((spec_l3Cut.f a0 32).bind fun t144 => ((spec_l3Num.f k t144 1).bind fun t147 => (if 0 < (t144.length : Int) then (if (rdOf ByteArray.empty t144 0).toList = ([109, 97, 107, 101] : List UInt8) then ((spec_l3Num.f k t144 2).bind fun t150 => ((spec_l3Num.f k t144 3).bind fun t151 => ((spec_l3Quoted.f t144 4).bind fun bt152 => (if a0.toList = ([] : List UInt8) then (some (0, 0, 0, 0, (⟨#[]⟩ : ByteArray), false)) else ((spec_OpShow.f k 1 t147 t150 t151 bt152.1).bind fun t154 => (if t154.toList = a0.toList then (some (1, t147, t150, t151, bt152.1, true)) else (some (0, 0, 0, 0, (⟨#[]⟩ : ByteArray), false)))))))) else (if (rdOf ByteArray.empty t144 0).toList = ([116, 101, 120, 116] : List UInt8) then ((spec_l3Quoted.f t144 2).bind fun bt155 => (if a0.toList = ([] : List UInt8) then (some (0, 0, 0, 0, (⟨#[]⟩ : ByteArray), false)) else ((spec_OpShow.f k 2 t147 0 0 bt155.1).bind fun t157 => (if t157.toList = a0.toList then (some (2, t147, 0, 0, bt155.1, true)) else (some (0, 0, 0, 0, (⟨#[]⟩ : ByteArray), false)))))) else (if (rdOf ByteArray.empty t144 0).toList = ([109, 111, 118, 101] : List UInt8) then ((spec_l3Num.f k t144 2).bind fun t158 => ((spec_l3Num.f k t144 3).bind fun t159 => (if a0.toList = ([] : List UInt8) then (some (0, 0, 0, 0, (⟨#[]⟩ : ByteArray), false)) else ((spec_OpShow.f k 3 t147 t158 t159 (⟨#[]⟩ : ByteArray)).bind fun t160 => (if t160.toList = a0.toList then (some (3, t147, t158, t159, (⟨#[]⟩ : ByteArray), true)) else (some (0, 0, 0, 0, (⟨#[]⟩ : ByteArray), false))))))) else (if a0.toList = ([] : List UInt8) then (some (0, 0, 0, 0, (⟨#[]⟩ : ByteArray), false)) else ((spec_OpShow.f k 0 t147 0 0 (⟨#[]⟩ : ByteArray)).bind fun t161 => (if t161.toList = a0.toList then (some (0, t147, 0, 0, (⟨#[]⟩ : ByteArray), true)) else (some (0, 0, 0, 0, (⟨#[]⟩ : ByteArray), false)))))))) else (none))))
theorem spec_OpRead.mono : ∀ a0 k, LeO (spec_OpRead.f k a0) (spec_OpRead.f (k + 1) a0) := by
  intro a0 k
  unfold spec_OpRead.f
  repeat' first
      | (with_reducible exact spec_OpShow.mono _ _ _ _ _ _)
      | (with_reducible exact spec_l3Num.mono _ _ _)
      | (with_reducible exact LeO.refl _)
      | (with_reducible exact LeO.none _)
      | (with_reducible refine LeO.ite ?_ ?_)
      | (with_reducible refine LeO.bind ?_ (fun _ => ?_))
      | exact spec_OpShow.mono _ _ _ _ _ _
      | exact spec_l3Num.mono _ _ _
      | exact LeO.none _
      | refine LeO.ite ?_ ?_
      | refine LeO.bind ?_ (fun _ => ?_)

theorem wd_over {P : Program} {c : Code} {Q : Exit → Act → World → Prop} {x : Act} {w : World} (R : World → Prop) (h : R w) (k : ∀ W, R W → c.wp P Q x W) : c.wp P Q x w := k w h
/-- How far the reading of a change has come: the words, the result as yet, the record. -/
structure RdW (w : World) (g2 g5 : Nat) (A : Addr) (n c : Nat) (ws : List ByteArray) (cs : Array Value) (W : World) : Prop where
  below : Below w.heap.size w W
  res : W.heap[g2]? = some (.cells #[.int .i64 0, .int .i64 0, .int .i64 0, .int .i64 0, .string (⟨#[]⟩ : ByteArray)] 23 (0, 0))
  op : W.heap[g5]? = some (.cells cs 23 (0, 0))
  o2 : w.heap.size ≤ g2
  o5 : w.heap.size ≤ g5
  ne : g2 ≠ g5
  wd : Kd.R Kd.string 9 W w.heap.size (fun _ => True) (.slice (some A) n c) ws
theorem RdW.put {w W : World} {g2 g5 n c : Nat} {A : Addr} {ws : List ByteArray} {cs : Array Value} (h : RdW w g2 g5 A n c ws cs W) (j : Nat) (v : Value) {cs' : Array Value} (e : cs.setIfInBounds j v = cs') : RdW w g2 g5 A n c ws cs' (W.setCell ⟨g5, j, none⟩ v) :=
  ⟨below_set h.below h.o5, blk_far h.res h.ne _, blk_put h.op _ _ e, h.o2, h.o5, h.ne, Kd.R_mono (Kd.R_far (p := ⟨g5, j, none⟩) (Kd.R_types h.wd h.op (by decide)) (fun _ hk => hk.2) v) (fun _ h_ => h_.1)⟩
theorem RdW.drew {w W : World} {g2 g5 n c : Nat} {A : Addr} {ws : List ByteArray} {cs : Array Value} (h : RdW w g2 g5 A n c ws cs W) (m : Nat) : RdW w g2 g5 A n c ws cs (W.drewN m) :=
  ⟨pw_below_drewN h.below m, h.res, h.op, h.o2, h.o5, h.ne, Kd.R_drewN h.wd m⟩
theorem RdW.later {w W W2 : World} {g2 g5 n c : Nat} {A : Addr} {ws : List ByteArray} {cs : Array Value} (h : RdW w g2 g5 A n c ws cs W) (hb : Below W.heap.size W W2) : RdW w g2 g5 A n c ws cs W2 :=
  ⟨below_step h.below hb, blk_below h.res hb, blk_below h.op hb, h.o2, h.o5, h.ne, Kd.R_below h.wd hb⟩

set_option maxHeartbeats 8000000 in
set_option maxRecDepth 100000 in
/-- OpRead of a short text: what its first word says that it is, and what then is read. -/
theorem spec_OpRead.short (k : Nat) (a0 : ByteArray) (t144 : List ByteArray) (t147 K U A : Int) (T : ByteArray) (r1 r2 r3 r4 : Int) (r5 : ByteArray) (r6 : Bool) (w : World)
    (hs : ¬ (a0.size : Int) > 24) (h1 : spec_l3Cut.f a0 32 = some t144) (h2 : spec_l3Num.f k t144 1 = some t147) (hl : 0 < (t144.length : Int))
    (hsw : ((rdOf ByteArray.empty t144 0).toList = ([109, 97, 107, 101] : List UInt8) ∧ K = 1 ∧ spec_l3Num.f k t144 2 = some U ∧ spec_l3Num.f k t144 3 = some A ∧ ∃ b, spec_l3Quoted.f t144 4 = some (T, b)) ∨ ((rdOf ByteArray.empty t144 0).toList ≠ ([109, 97, 107, 101] : List UInt8) ∧ (rdOf ByteArray.empty t144 0).toList = ([116, 101, 120, 116] : List UInt8) ∧ K = 2 ∧ U = 0 ∧ A = 0 ∧ ∃ b, spec_l3Quoted.f t144 2 = some (T, b)) ∨ ((rdOf ByteArray.empty t144 0).toList ≠ ([109, 97, 107, 101] : List UInt8) ∧ (rdOf ByteArray.empty t144 0).toList ≠ ([116, 101, 120, 116] : List UInt8) ∧ (rdOf ByteArray.empty t144 0).toList = ([109, 111, 118, 101] : List UInt8) ∧ K = 3 ∧ spec_l3Num.f k t144 2 = some U ∧ spec_l3Num.f k t144 3 = some A ∧ T = ⟨#[]⟩) ∨ ((rdOf ByteArray.empty t144 0).toList ≠ ([109, 97, 107, 101] : List UInt8) ∧ (rdOf ByteArray.empty t144 0).toList ≠ ([116, 101, 120, 116] : List UInt8) ∧ (rdOf ByteArray.empty t144 0).toList ≠ ([109, 111, 118, 101] : List UInt8) ∧ K = 0 ∧ U = 0 ∧ A = 0 ∧ T = ⟨#[]⟩))
    (hr : (if a0.toList = ([] : List UInt8) then (some (0, 0, 0, 0, (⟨#[]⟩ : ByteArray), false)) else ((spec_OpShow.f k K t147 U A T).bind fun t154 => (if t154.toList = a0.toList then (some (K, t147, U, A, T, true)) else (some (0, 0, 0, 0, (⟨#[]⟩ : ByteArray), false))))) = some (r1, r2, r3, r4, r5, r6)) :
    Calls Tryd.prog 4 #[.string a0] w fun e w' => e = .returned (.tuple #[.agg #[.int .i64 r1, .int .i64 r2, .int .i64 r3, .int .i64 r4, .string r5], .bool r6]) ∧ Below w.heap.size w w' := by
  have hu23 := Tryd.underlying23
  have HB := Aside0.mk (Below.refl w.heap.size w)
  have c2b0 : decide (24 < (a0.size : Int)) = false := decide_eq_false hs
  have c2b1 : decide (24 < a0.size) = false := decide_eq_false (by omega)
  have c7b0 : decide (0 < (t144.length : Int)) = true := decide_eq_true hl
  have c7b1 : decide (0 < t144.length) = true := decide_eq_true (by omega)
  have A5 := Aside0.mk h1
  have A6 := Aside0.mk h2
  have SW := Aside0.mk hsw
  have HR := Aside0.mk hr
  clear hs h1 h2 hl hsw hr
  go_enter Tryd.func4, Tryd.ntmps4
  go_upto_block 0 with (first | ((with_reducible refine gate_dst (N := 2) rfl ?_); refine box_event ?hg (N := 2) ?hd (cs := #[.int .i64 0, .int .i64 0, .int .i64 0, .int .i64 0, .string (⟨#[]⟩ : ByteArray)]) (t := 23) ?hr ?_; (case hd => rfl); (case hg => rfl); (case hr => first | (go_simp; done) | (go_simp; rfl)); intro gb143 hg w22 hbox hb; have n0_ := Aside0.mk (below_step belowA hb); have n1_ := Aside0.mk (hbox); have n2_ := Aside0.mk ((by rw [hg]; exact (below_size belowA) : w.heap.size ≤ gb143)); have n3_ := Aside0.mk ((by rw [hg]; exact (below_size belowA) : w.heap.size ≤ gb143)); clear HB; have HB := n0_; have BK143 := n1_; have GW143 := n2_; have GE143 := n3_; clear n0_ n1_ n2_ n3_; clear hb hbox hg) | ((with_reducible refine gate_callee (f := 7) rfl ?_); refine goesL_ (some 11) rfl rfl Tryd.func7 (by kernel_rfl) rfl #[.string a0, .int .u8 32] rfl argsA ?_; (with_reducible refine (spec_l3Cut.calls a0 32 t144 _ A5.out).mono ?_); rintro e w23 ⟨v145, rfl, ho0, hb⟩; refine ⟨_, rfl, ?_⟩; have n0_ := Aside0.mk (Kd.R_lower ho0 (below_size belowA)); have n1_ := Aside0.mk (blk_below (g := gb143) (o := .cells #[.int .i64 0, .int .i64 0, .int .i64 0, .int .i64 0, .string (⟨#[]⟩ : ByteArray)] 23 (0, 0)) blkA hb); have n2_ := Aside0.mk (below_step belowA hb); clear BK143; clear HB; have HO146 := n0_; have BK143 := n1_; have HB := n2_; clear n0_ n1_ n2_; (try clear hb); (try clear hb2); (try clear hk); (try clear hi); (try clear ho0); obtain ⟨Ao24, co24, eo24⟩ := Kd.R_slice HO146.out; subst eo24) | ((with_reducible refine gate_callee (f := 8) rfl ?_); refine goesL_ (some 13) rfl rfl Tryd.func8 (by kernel_rfl) rfl #[.slice Ao24 t144.length co24, .int .i64 1] rfl argsA ?_; (with_reducible refine (spec_l3Num.calls k _ _ t144 1 t147 _ ?side1 ?side2 A6.out).mono ?_); (case side1 => repeat (first | exact (Kd.R_reads' HO146.out).2.2 | (with_reducible refine Kd.C_alloc ?_ _) | (with_reducible refine Kd.C_drewN ?_ _) | (with_reducible refine Kd.C_drew ?_))); (case side2 => exact (Kd.R_reads' HO146.out).2.1); rintro e w' ⟨rfl, ⟨nd, rfl⟩⟩; refine ⟨_, rfl, ?_⟩; (try (rw [drewN_self w23]; generalize hq_ : World.drewN w23 _ = w23; have n0_ : Aside0 (Kd.R Kd.string 9 w23 w.heap.size (fun _ => True) (.slice Ao24 t144.length co24) t144) := ⟨by rw [← hq_]; exact (RA HO146)⟩; have n1_ : Aside0 (w23.heap[gb143]? = some (.cells #[.int .i64 0, .int .i64 0, .int .i64 0, .int .i64 0, .string (⟨#[]⟩ : ByteArray)] 23 (0, 0))) := ⟨by rw [← hq_]; exact blkA⟩; have n2_ : Aside0 (Below w.heap.size w w23) := ⟨by rw [← hq_]; exact belowA⟩; clear HO146 BK143 HB hq_; have HO146 := n0_; have BK143 := n1_; have HB := n2_; clear n0_ n1_ n2_))) | ((with_reducible refine gate_dst (N := 5) rfl ?_); refine box_event ?hg (N := 5) ?hd (cs := #[.int .i64 0, .int .i64 0, .int .i64 0, .int .i64 0, .string (⟨#[]⟩ : ByteArray)]) (t := 23) ?hr ?_; (case hd => rfl); (case hg => rfl); (case hr => first | (go_simp; done) | (go_simp; rfl)); intro gb148 hg w25 hbox hb; have n0_ := Aside0.mk (Kd.R_below (RA HO146) hb); have n1_ := Aside0.mk (blk_below (g := gb143) (o := .cells #[.int .i64 0, .int .i64 0, .int .i64 0, .int .i64 0, .string (⟨#[]⟩ : ByteArray)] 23 (0, 0)) blkA hb); have n2_ := Aside0.mk (below_step belowA hb); have n3_ := Aside0.mk (hbox); have n4_ := Aside0.mk ((by rw [hg]; exact (below_size belowA) : w.heap.size ≤ gb148)); have n5_ := Aside0.mk ((by rw [hg]; exact (below_size belowA) : w.heap.size ≤ gb148)); have n6_ := Aside0.mk ((by rw [hg]; exact Nat.ne_of_lt (blk_lt (g := gb143) (o := .cells #[.int .i64 0, .int .i64 0, .int .i64 0, .int .i64 0, .string (⟨#[]⟩ : ByteArray)] 23 (0, 0)) blkA) : gb143 ≠ gb148)); have n7_ := Aside0.mk ((by rw [hg]; exact Nat.ne_of_gt (blk_lt (g := gb143) (o := .cells #[.int .i64 0, .int .i64 0, .int .i64 0, .int .i64 0, .string (⟨#[]⟩ : ByteArray)] 23 (0, 0)) blkA) : gb148 ≠ gb143)); clear HO146; clear BK143; clear HB; have HO146 := n0_; have BK143 := n1_; have HB := n2_; have BK148 := n3_; have GW148 := n4_; have GE148 := n5_; have NB143_148 := n6_; have NB148_143 := n7_; clear n0_ n1_ n2_ n3_ n4_ n5_ n6_ n7_; clear hb hbox hg; have hnb26 := NB148_143.out; have hnc26 := NB143_148.out; obtain ⟨hcz27_0, hcz27_1, hcz27_2, hcz27_3, hcz27_4, hfz27_0, hfz27_1, hfz27_2, hfz27_3, hfz27_4⟩ := blk_facts5 BK148.out; have p149 : 0 ≤ (0 : Int) := (by omega); have q149 : 0 < (t144.length : Int) := of_decide_eq_true (by first | (with_reducible assumption) | assumption); obtain ⟨ad149, e149, hx149_0⟩ := Kd.at_string (Kd.R_reads' HO146.out).2.2 0 p149 q149; cases e149; have qi149 : (0 < t144.length) = True := eq_true (by omega); (try rw [show ((0 : Int)).toNat = 0 from rfl] at hx149_0); (try rw [Addr.add_zero'] at hx149_0); have hn149_0 : ad149.block ≠ gb148 := Kd.own_blk (Kd.R_ne HO146.out BK148.out (by decide)); have hn149_1 : ad149.block ≠ gb148 := Kd.own_blk (Kd.R_ne HO146.out BK148.out (by decide)); have hn149_2 : ad149.block ≠ gb148 := Kd.own_blk (Kd.R_ne HO146.out BK148.out (by decide)); have hn149_3 : ad149.block ≠ gb148 := Kd.own_blk (Kd.R_ne HO146.out BK148.out (by decide)); have hn149_4 : ad149.block ≠ gb148 := Kd.own_blk (Kd.R_ne HO146.out BK148.out (by decide)); replace hx149_0 := (cell_far (p := ⟨gb148, 0, none⟩) (by first | (rw [add_block]; exact hn149_0) | (show (Addr.add _ _).block ≠ _; rw [add_block]; exact hn149_0) | exact hn149_0) (.int .i64 0)).trans hx149_0; replace hx149_0 := (cell_far (p := ⟨gb148, 1, none⟩) (by first | (rw [add_block]; exact hn149_1) | (show (Addr.add _ _).block ≠ _; rw [add_block]; exact hn149_1) | exact hn149_1) (.int .i64 t147)).trans hx149_0; replace hx149_0 := (cell_far (p := ⟨gb148, 2, none⟩) (by first | (rw [add_block]; exact hn149_2) | (show (Addr.add _ _).block ≠ _; rw [add_block]; exact hn149_2) | exact hn149_2) (.int .i64 0)).trans hx149_0; replace hx149_0 := (cell_far (p := ⟨gb148, 3, none⟩) (by first | (rw [add_block]; exact hn149_3) | (show (Addr.add _ _).block ≠ _; rw [add_block]; exact hn149_3) | exact hn149_3) (.int .i64 0)).trans hx149_0; replace hx149_0 := (cell_far (p := ⟨gb148, 4, none⟩) (by first | (rw [add_block]; exact hn149_4) | (show (Addr.add _ _).block ≠ _; rw [add_block]; exact hn149_4) | exact hn149_4) (.string (⟨#[]⟩ : ByteArray))).trans hx149_0; clear hn149_0; clear hn149_1; clear hn149_2; clear hn149_3; clear hn149_4; replace p149 := eq_true p149; replace q149 := eq_true q149))
  refine wd_over (RdW w gb143 gb148 ad149 t144.length co24 t144 #[.int .i64 0, .int .i64 t147, .int .i64 0, .int .i64 0, .string (⟨#[]⟩ : ByteArray)]) (RdW.put (RdW.put (RdW.put (RdW.put (RdW.put ⟨HB.out, BK143.out, BK148.out, GW143.out, GW148.out, NB143_148.out, HO146.out⟩ 0 _ rfl) 1 _ rfl) 2 _ rfl) 3 _ rfl) 4 _ rfl) ?_
  intro W1 hP1
  have HP1 := Aside0.mk hP1
  clear HB BK143 BK148 HO146 hx149_0 hnb26 hnc26 hcz27_0 hcz27_1 hcz27_2 hcz27_3 hcz27_4 hfz27_0 hfz27_1 hfz27_2 hfz27_3 hfz27_4
  go_cut [] (fun w' => Aside0 ((RdW w gb143 gb148 ad149 t144.length co24 t144 #[.int .i64 K, .int .i64 t147, .int .i64 U, .int .i64 A, .string T]) w'))
  case rest =>
   obtain ⟨hp_0, hp_1, hp_2, hp_3, hp_4, hq_0, hq_1, hq_2, hq_3, hq_4⟩ := blk_facts5 hcut.out.op
   obtain ⟨hr_0, hr_1, hr_2, hr_3, hr_4, hs_0, hs_1, hs_2, hs_3, hs_4⟩ := blk_facts5 hcut.out.res
   clear hP1 HP1 SW
   have hne1 := NB143_148.out
   have hne2 := NB148_143.out
   have H := HR.out
   clear HR
   by_cases c12 : a0.toList = ([] : List UInt8)
   ·
    rw [if_pos c12] at H
    have c12b0 : (a0.toList == ([] : List UInt8)) = true := beq_iff_eq.mpr c12
    have c12b1 : (a0.toList != ([] : List UInt8)) = false := bne_eq_false_iff_eq.mpr c12
    clear c12
    simp only [Option.some.injEq, Prod.mk.injEq] at H
    obtain ⟨rfl, rfl, rfl, rfl, rfl, rfl⟩ := H
    go_wp2
    refine bodyPost_ret (results_ct rfl _ _ gb143 23 #[.int .i64 0, .int .i64 0, .int .i64 0, .int .i64 0, .string (⟨#[]⟩ : ByteArray)] (0, 0) _ rfl (blk_put (blk_put (blk_put (blk_put (blk_put hcut.out.res 0 _ rfl) 1 _ rfl) 2 _ rfl) 3 _ rfl) 4 _ rfl) Tryd.underlying23 rfl (by kernel_rfl)) rfl ?_
    exact ⟨rfl, below_set (below_set (below_set (below_set (below_set hcut.out.below hcut.out.o2) hcut.out.o2) hcut.out.o2) hcut.out.o2) hcut.out.o2⟩
   ·
    rw [if_neg c12] at H
    have c12b0 : (a0.toList == ([] : List UInt8)) = false := beq_eq_false_iff_ne.mpr c12
    have c12b1 : (a0.toList != ([] : List UInt8)) = true := bne_iff_ne.mpr c12
    replace H := Option.bind_eq_some_iff.mp H
    obtain ⟨t154, A200, H⟩ := H
    (try dsimp only at H)
    have A20 := Aside0.mk A200
    clear A200
    by_cases c21 : t154.toList = a0.toList
    ·
      rw [if_pos c21] at H
      have c21b0 : (t154.toList == a0.toList) = true := beq_iff_eq.mpr c21
      have c21b1 : (t154.toList != a0.toList) = false := bne_eq_false_iff_eq.mpr c21
      clear c21
      simp only [Option.some.injEq, Prod.mk.injEq] at H
      obtain ⟨rfl, rfl, rfl, rfl, rfl, rfl⟩ := H
      go_wp2_with (go_at_call 10; (with_reducible refine (spec_OpShow.calls k K t147 U A T t154 _ A20.out).mono ?_); rintro e w28 ⟨rfl, hb⟩; have HP5 := Aside0.mk (hcut.out.later hb); clear hb hp_0 hp_1 hp_2 hp_3 hp_4 hq_0 hq_1 hq_2 hq_3 hq_4 hr_0 hr_1 hr_2 hr_3 hr_4 hs_0 hs_1 hs_2 hs_3 hs_4; obtain ⟨hx_0, hx_1, hx_2, hx_3, hx_4, hy_0, hy_1, hy_2, hy_3, hy_4⟩ := blk_facts5 HP5.out.op; obtain ⟨hz_0, hz_1, hz_2, hz_3, hz_4, ha_0, ha_1, ha_2, ha_3, ha_4⟩ := blk_facts5 HP5.out.res)
      refine bodyPost_ret (results_ct rfl _ _ gb143 23 #[.int .i64 K, .int .i64 t147, .int .i64 U, .int .i64 A, .string T] (0, 0) _ rfl (blk_put (blk_put (blk_put (blk_put (blk_put HP5.out.res 0 _ rfl) 1 _ rfl) 2 _ rfl) 3 _ rfl) 4 _ rfl) Tryd.underlying23 rfl (by kernel_rfl)) rfl ?_
      exact ⟨rfl, below_set (below_set (below_set (below_set (below_set HP5.out.below HP5.out.o2) HP5.out.o2) HP5.out.o2) HP5.out.o2) HP5.out.o2⟩
    ·
      rw [if_neg c21] at H
      have c21b0 : (t154.toList == a0.toList) = false := beq_eq_false_iff_ne.mpr c21
      have c21b1 : (t154.toList != a0.toList) = true := bne_iff_ne.mpr c21
      simp only [Option.some.injEq, Prod.mk.injEq] at H
      obtain ⟨rfl, rfl, rfl, rfl, rfl, rfl⟩ := H
      go_wp2_with (go_at_call 10; (with_reducible refine (spec_OpShow.calls k K t147 U A T t154 _ A20.out).mono ?_); rintro e w28 ⟨rfl, hb⟩; have HP5 := Aside0.mk (hcut.out.later hb); clear hb hp_0 hp_1 hp_2 hp_3 hp_4 hq_0 hq_1 hq_2 hq_3 hq_4 hr_0 hr_1 hr_2 hr_3 hr_4 hs_0 hs_1 hs_2 hs_3 hs_4; obtain ⟨hx_0, hx_1, hx_2, hx_3, hx_4, hy_0, hy_1, hy_2, hy_3, hy_4⟩ := blk_facts5 HP5.out.op; obtain ⟨hz_0, hz_1, hz_2, hz_3, hz_4, ha_0, ha_1, ha_2, ha_3, ha_4⟩ := blk_facts5 HP5.out.res)
      refine bodyPost_ret (results_ct rfl _ _ gb143 23 #[.int .i64 0, .int .i64 0, .int .i64 0, .int .i64 0, .string (⟨#[]⟩ : ByteArray)] (0, 0) _ rfl (blk_put (blk_put (blk_put (blk_put (blk_put HP5.out.res 0 _ rfl) 1 _ rfl) 2 _ rfl) 3 _ rfl) 4 _ rfl) Tryd.underlying23 rfl (by kernel_rfl)) rfl ?_
      exact ⟨rfl, below_set (below_set (below_set (below_set (below_set HP5.out.below HP5.out.o2) HP5.out.o2) HP5.out.o2) HP5.out.o2) HP5.out.o2⟩
  case first =>
   rcases SW.out with ⟨c8, rfl, m2, m3, qb, mq⟩ | ⟨c8, c9, rfl, rfl, rfl, qb, mq⟩ | ⟨c8, c9, c10, rfl, m2, m3, rfl⟩ | ⟨c8, c9, c10, rfl, rfl, rfl, rfl⟩
   ·
    clear SW
    have c8b0 : ((rdOf ByteArray.empty t144 0).toList == ([109, 97, 107, 101] : List UInt8)) = true := beq_iff_eq.mpr c8
    have c8b1 : ((rdOf ByteArray.empty t144 0).toList != ([109, 97, 107, 101] : List UInt8)) = false := bne_eq_false_iff_eq.mpr c8
    clear c8
    have NQ := Aside0.mk mq
    clear mq
    obtain ⟨hk1_0, hk1_1, hk1_2, hk1_3, hk1_4, hf1_0, hf1_1, hf1_2, hf1_3, hf1_4⟩ := blk_facts5 hP1.op
    clear hP1
    have M2 := Aside0.mk m2
    have M3 := Aside0.mk m3
    clear m2 m3
    go_upto_region 8 with fail
    refine wd_over (RdW w gb143 gb148 ad149 t144.length co24 t144 #[.int .i64 1, .int .i64 t147, .int .i64 0, .int .i64 0, .string (⟨#[]⟩ : ByteArray)]) (HP1.out.put 0 _ rfl) ?_
    intro W2 hP2
    have HP2 := Aside0.mk hP2
    obtain ⟨hk2_0, hk2_1, hk2_2, hk2_3, hk2_4, hf2_0, hf2_1, hf2_2, hf2_3, hf2_4⟩ := blk_facts5 hP2.op
    clear hP2
    clear hk1_0 hk1_1 hk1_2 hk1_3 hk1_4 hf1_0 hf1_1 hf1_2 hf1_3 hf1_4 HP1
    go_upto_region 9 with (((with_reducible refine gate_callee (f := 8) rfl ?_); refine goesL_ (some 22) rfl rfl Tryd.func8 (by kernel_rfl) rfl #[.slice (some ad149) t144.length co24, .int .i64 2] rfl argsA ?_; (with_reducible refine (spec_l3Num.calls k _ _ t144 2 U _ ?side1 ?side2 M2.out).mono ?_); (case side1 => exact (Kd.R_reads' HP2.out.wd).2.2); (case side2 => exact (Kd.R_reads' HP2.out.wd).2.1); rintro e w' ⟨rfl, ⟨nd22, rfl⟩⟩; refine ⟨_, rfl, ?_⟩))
    refine wd_over (RdW w gb143 gb148 ad149 t144.length co24 t144 #[.int .i64 1, .int .i64 t147, .int .i64 U, .int .i64 0, .string (⟨#[]⟩ : ByteArray)]) ((HP2.out.drew _).put 2 _ rfl) ?_
    intro W3 hP3
    have HP3 := Aside0.mk hP3
    obtain ⟨hk3_0, hk3_1, hk3_2, hk3_3, hk3_4, hf3_0, hf3_1, hf3_2, hf3_3, hf3_4⟩ := blk_facts5 hP3.op
    clear hP3
    clear hk2_0 hk2_1 hk2_2 hk2_3 hk2_4 hf2_0 hf2_1 hf2_2 hf2_3 hf2_4 HP2
    go_upto_region 10 with (((with_reducible refine gate_callee (f := 8) rfl ?_); refine goesL_ (some 25) rfl rfl Tryd.func8 (by kernel_rfl) rfl #[.slice (some ad149) t144.length co24, .int .i64 3] rfl argsA ?_; (with_reducible refine (spec_l3Num.calls k _ _ t144 3 A _ ?side1 ?side2 M3.out).mono ?_); (case side1 => exact (Kd.R_reads' HP3.out.wd).2.2); (case side2 => exact (Kd.R_reads' HP3.out.wd).2.1); rintro e w' ⟨rfl, ⟨nd25, rfl⟩⟩; refine ⟨_, rfl, ?_⟩))
    refine wd_over (RdW w gb143 gb148 ad149 t144.length co24 t144 #[.int .i64 1, .int .i64 t147, .int .i64 U, .int .i64 A, .string (⟨#[]⟩ : ByteArray)]) ((HP3.out.drew _).put 3 _ rfl) ?_
    intro W4 hP4
    have HP4 := Aside0.mk hP4
    obtain ⟨hk4_0, hk4_1, hk4_2, hk4_3, hk4_4, hf4_0, hf4_1, hf4_2, hf4_3, hf4_4⟩ := blk_facts5 hP4.op
    clear hP4
    clear hk3_0 hk3_1 hk3_2 hk3_3 hk3_4 hf3_0 hf3_1 hf3_2 hf3_3 hf3_4 HP3
    go_wp2_with (((with_reducible refine gate_callee (f := 9) rfl ?_); refine goesL_ (some 29) rfl rfl Tryd.func9 (by kernel_rfl) rfl #[.slice (some ad149) t144.length co24, .int .i64 4] rfl argsA ?_; (with_reducible refine (spec_l3Quoted.calls _ _ t144 4 T qb _ ?side1 ?side2 NQ.out).mono ?_); (case side1 => exact (Kd.R_reads' HP4.out.wd).2.2); (case side2 => exact (Kd.R_reads' HP4.out.wd).2.1); rintro e w' ⟨rfl, ⟨nd29, rfl⟩⟩; refine ⟨_, rfl, ?_⟩))
    go_meet
    case rel => exact ⟨(HP4.out.drew _).put 4 _ rfl⟩
   ·
    clear SW
    have c8b0 : ((rdOf ByteArray.empty t144 0).toList == ([109, 97, 107, 101] : List UInt8)) = false := beq_eq_false_iff_ne.mpr c8
    have c8b1 : ((rdOf ByteArray.empty t144 0).toList != ([109, 97, 107, 101] : List UInt8)) = true := bne_iff_ne.mpr c8
    have c9b0 : ((rdOf ByteArray.empty t144 0).toList == ([116, 101, 120, 116] : List UInt8)) = true := beq_iff_eq.mpr c9
    have c9b1 : ((rdOf ByteArray.empty t144 0).toList != ([116, 101, 120, 116] : List UInt8)) = false := bne_eq_false_iff_eq.mpr c9
    clear c8 c9
    have NQ := Aside0.mk mq
    clear mq
    obtain ⟨hk1_0, hk1_1, hk1_2, hk1_3, hk1_4, hf1_0, hf1_1, hf1_2, hf1_3, hf1_4⟩ := blk_facts5 hP1.op
    clear hP1
    go_upto_region 13 with fail
    refine wd_over (RdW w gb143 gb148 ad149 t144.length co24 t144 #[.int .i64 2, .int .i64 t147, .int .i64 0, .int .i64 0, .string (⟨#[]⟩ : ByteArray)]) (HP1.out.put 0 _ rfl) ?_
    intro W2 hP2
    have HP2 := Aside0.mk hP2
    obtain ⟨hk2_0, hk2_1, hk2_2, hk2_3, hk2_4, hf2_0, hf2_1, hf2_2, hf2_3, hf2_4⟩ := blk_facts5 hP2.op
    clear hP2
    clear hk1_0 hk1_1 hk1_2 hk1_3 hk1_4 hf1_0 hf1_1 hf1_2 hf1_3 hf1_4 HP1
    go_wp2_with (((with_reducible refine gate_callee (f := 9) rfl ?_); refine goesL_ (some 38) rfl rfl Tryd.func9 (by kernel_rfl) rfl #[.slice (some ad149) t144.length co24, .int .i64 2] rfl argsA ?_; (with_reducible refine (spec_l3Quoted.calls _ _ t144 2 T qb _ ?side1 ?side2 NQ.out).mono ?_); (case side1 => exact (Kd.R_reads' HP2.out.wd).2.2); (case side2 => exact (Kd.R_reads' HP2.out.wd).2.1); rintro e w' ⟨rfl, ⟨nd38, rfl⟩⟩; refine ⟨_, rfl, ?_⟩))
    go_meet
    case rel => exact ⟨(HP2.out.drew _).put 4 _ rfl⟩
   ·
    clear SW
    have c8b0 : ((rdOf ByteArray.empty t144 0).toList == ([109, 97, 107, 101] : List UInt8)) = false := beq_eq_false_iff_ne.mpr c8
    have c8b1 : ((rdOf ByteArray.empty t144 0).toList != ([109, 97, 107, 101] : List UInt8)) = true := bne_iff_ne.mpr c8
    have c9b0 : ((rdOf ByteArray.empty t144 0).toList == ([116, 101, 120, 116] : List UInt8)) = false := beq_eq_false_iff_ne.mpr c9
    have c9b1 : ((rdOf ByteArray.empty t144 0).toList != ([116, 101, 120, 116] : List UInt8)) = true := bne_iff_ne.mpr c9
    have c10b0 : ((rdOf ByteArray.empty t144 0).toList == ([109, 111, 118, 101] : List UInt8)) = true := beq_iff_eq.mpr c10
    have c10b1 : ((rdOf ByteArray.empty t144 0).toList != ([109, 111, 118, 101] : List UInt8)) = false := bne_eq_false_iff_eq.mpr c10
    clear c8 c9 c10
    obtain ⟨hk1_0, hk1_1, hk1_2, hk1_3, hk1_4, hf1_0, hf1_1, hf1_2, hf1_3, hf1_4⟩ := blk_facts5 hP1.op
    clear hP1
    have M2 := Aside0.mk m2
    have M3 := Aside0.mk m3
    clear m2 m3
    go_upto_region 16 with fail
    refine wd_over (RdW w gb143 gb148 ad149 t144.length co24 t144 #[.int .i64 3, .int .i64 t147, .int .i64 0, .int .i64 0, .string (⟨#[]⟩ : ByteArray)]) (HP1.out.put 0 _ rfl) ?_
    intro W2 hP2
    have HP2 := Aside0.mk hP2
    obtain ⟨hk2_0, hk2_1, hk2_2, hk2_3, hk2_4, hf2_0, hf2_1, hf2_2, hf2_3, hf2_4⟩ := blk_facts5 hP2.op
    clear hP2
    clear hk1_0 hk1_1 hk1_2 hk1_3 hk1_4 hf1_0 hf1_1 hf1_2 hf1_3 hf1_4 HP1
    go_upto_region 17 with (((with_reducible refine gate_callee (f := 8) rfl ?_); refine goesL_ (some 46) rfl rfl Tryd.func8 (by kernel_rfl) rfl #[.slice (some ad149) t144.length co24, .int .i64 2] rfl argsA ?_; (with_reducible refine (spec_l3Num.calls k _ _ t144 2 U _ ?side1 ?side2 M2.out).mono ?_); (case side1 => exact (Kd.R_reads' HP2.out.wd).2.2); (case side2 => exact (Kd.R_reads' HP2.out.wd).2.1); rintro e w' ⟨rfl, ⟨nd46, rfl⟩⟩; refine ⟨_, rfl, ?_⟩))
    refine wd_over (RdW w gb143 gb148 ad149 t144.length co24 t144 #[.int .i64 3, .int .i64 t147, .int .i64 U, .int .i64 0, .string (⟨#[]⟩ : ByteArray)]) ((HP2.out.drew _).put 2 _ rfl) ?_
    intro W3 hP3
    have HP3 := Aside0.mk hP3
    obtain ⟨hk3_0, hk3_1, hk3_2, hk3_3, hk3_4, hf3_0, hf3_1, hf3_2, hf3_3, hf3_4⟩ := blk_facts5 hP3.op
    clear hP3
    clear hk2_0 hk2_1 hk2_2 hk2_3 hk2_4 hf2_0 hf2_1 hf2_2 hf2_3 hf2_4 HP2
    go_wp2_with (((with_reducible refine gate_callee (f := 8) rfl ?_); refine goesL_ (some 49) rfl rfl Tryd.func8 (by kernel_rfl) rfl #[.slice (some ad149) t144.length co24, .int .i64 3] rfl argsA ?_; (with_reducible refine (spec_l3Num.calls k _ _ t144 3 A _ ?side1 ?side2 M3.out).mono ?_); (case side1 => exact (Kd.R_reads' HP3.out.wd).2.2); (case side2 => exact (Kd.R_reads' HP3.out.wd).2.1); rintro e w' ⟨rfl, ⟨nd49, rfl⟩⟩; refine ⟨_, rfl, ?_⟩))
    go_meet
    case rel => exact ⟨(HP3.out.drew _).put 3 _ rfl⟩
   ·
    clear SW
    have c8b0 : ((rdOf ByteArray.empty t144 0).toList == ([109, 97, 107, 101] : List UInt8)) = false := beq_eq_false_iff_ne.mpr c8
    have c8b1 : ((rdOf ByteArray.empty t144 0).toList != ([109, 97, 107, 101] : List UInt8)) = true := bne_iff_ne.mpr c8
    have c9b0 : ((rdOf ByteArray.empty t144 0).toList == ([116, 101, 120, 116] : List UInt8)) = false := beq_eq_false_iff_ne.mpr c9
    have c9b1 : ((rdOf ByteArray.empty t144 0).toList != ([116, 101, 120, 116] : List UInt8)) = true := bne_iff_ne.mpr c9
    have c10b0 : ((rdOf ByteArray.empty t144 0).toList == ([109, 111, 118, 101] : List UInt8)) = false := beq_eq_false_iff_ne.mpr c10
    have c10b1 : ((rdOf ByteArray.empty t144 0).toList != ([109, 111, 118, 101] : List UInt8)) = true := bne_iff_ne.mpr c10
    clear c8 c9 c10
    clear hP1
    go_wp2
    go_meet
    case rel => exact ⟨HP1.out⟩
set_option maxHeartbeats 8000000 in
set_option maxRecDepth 100000 in
theorem spec_OpRead.calls (k : Nat) (a0 : ByteArray) (r1 : Int) (r2 : Int) (r3 : Int) (r4 : Int) (r5 : ByteArray) (r6 : Bool) (w : World) (h : spec_OpRead.f k a0 = some (r1, r2, r3, r4, r5, r6)) :
    Calls Tryd.prog 4 #[.string a0] w fun e w' => e = .returned (.tuple #[.agg #[.int .i64 r1, .int .i64 r2, .int .i64 r3, .int .i64 r4, .string r5], .bool r6]) ∧ Below w.heap.size w w' := by
  have hu23 := Tryd.underlying23
  have HB := Aside0.mk (Below.refl w.heap.size w)
  have H : (if (a0.size : Int) > 24 then (some (0, 0, 0, 0, (⟨#[]⟩ : ByteArray), false)) else ((spec_l3Cut.f a0 32).bind fun t144 => ((spec_l3Num.f k t144 1).bind fun t147 => (if 0 < (t144.length : Int) then (if (rdOf ByteArray.empty t144 0).toList = ([109, 97, 107, 101] : List UInt8) then ((spec_l3Num.f k t144 2).bind fun t150 => ((spec_l3Num.f k t144 3).bind fun t151 => ((spec_l3Quoted.f t144 4).bind fun bt152 => (if a0.toList = ([] : List UInt8) then (some (0, 0, 0, 0, (⟨#[]⟩ : ByteArray), false)) else ((spec_OpShow.f k 1 t147 t150 t151 bt152.1).bind fun t154 => (if t154.toList = a0.toList then (some (1, t147, t150, t151, bt152.1, true)) else (some (0, 0, 0, 0, (⟨#[]⟩ : ByteArray), false)))))))) else (if (rdOf ByteArray.empty t144 0).toList = ([116, 101, 120, 116] : List UInt8) then ((spec_l3Quoted.f t144 2).bind fun bt155 => (if a0.toList = ([] : List UInt8) then (some (0, 0, 0, 0, (⟨#[]⟩ : ByteArray), false)) else ((spec_OpShow.f k 2 t147 0 0 bt155.1).bind fun t157 => (if t157.toList = a0.toList then (some (2, t147, 0, 0, bt155.1, true)) else (some (0, 0, 0, 0, (⟨#[]⟩ : ByteArray), false)))))) else (if (rdOf ByteArray.empty t144 0).toList = ([109, 111, 118, 101] : List UInt8) then ((spec_l3Num.f k t144 2).bind fun t158 => ((spec_l3Num.f k t144 3).bind fun t159 => (if a0.toList = ([] : List UInt8) then (some (0, 0, 0, 0, (⟨#[]⟩ : ByteArray), false)) else ((spec_OpShow.f k 3 t147 t158 t159 (⟨#[]⟩ : ByteArray)).bind fun t160 => (if t160.toList = a0.toList then (some (3, t147, t158, t159, (⟨#[]⟩ : ByteArray), true)) else (some (0, 0, 0, 0, (⟨#[]⟩ : ByteArray), false))))))) else (if a0.toList = ([] : List UInt8) then (some (0, 0, 0, 0, (⟨#[]⟩ : ByteArray), false)) else ((spec_OpShow.f k 0 t147 0 0 (⟨#[]⟩ : ByteArray)).bind fun t161 => (if t161.toList = a0.toList then (some (0, t147, 0, 0, (⟨#[]⟩ : ByteArray), true)) else (some (0, 0, 0, 0, (⟨#[]⟩ : ByteArray), false)))))))) else (none))))) = some (r1, r2, r3, r4, r5, r6) := h
  clear h
  by_cases c2 : (a0.size : Int) > 24
  · rw [if_pos c2] at H
    have c2b0 : decide (24 < (a0.size : Int)) = true := decide_eq_true c2
    have c2b1 : decide (24 < a0.size) = true := decide_eq_true (by omega)
    clear c2
    simp only [Option.some.injEq, Prod.mk.injEq] at H
    obtain ⟨rfl, rfl, rfl, rfl, rfl, rfl⟩ := H
    go_enter Tryd.func4, Tryd.ntmps4
    go_wp2_with (first | ((with_reducible refine gate_dst (N := 2) rfl ?_); refine box_event ?hg (N := 2) ?hd (cs := #[.int .i64 0, .int .i64 0, .int .i64 0, .int .i64 0, .string (⟨#[]⟩ : ByteArray)]) (t := 23) ?hr ?_; (case hd => rfl); (case hg => rfl); (case hr => first | (go_simp; done) | (go_simp; rfl)); intro gb143 hg w3 hbox hb; have n0_ := Aside0.mk (below_step belowA hb); have n1_ := Aside0.mk (hbox); have n2_ := Aside0.mk ((by rw [hg]; exact (below_size belowA) : w.heap.size ≤ gb143)); have n3_ := Aside0.mk ((by rw [hg]; exact (below_size belowA) : w.heap.size ≤ gb143)); clear HB; have HB := n0_; have BK143 := n1_; have GW143 := n2_; have GE143 := n3_; clear n0_ n1_ n2_ n3_; clear hb hbox hg; obtain ⟨hcz4_0, hcz4_1, hcz4_2, hcz4_3, hcz4_4, hfz4_0, hfz4_1, hfz4_2, hfz4_3, hfz4_4⟩ := blk_facts5 BK143.out))
    refine bodyPost_ret (results_ct rfl _ _ gb143 23 #[.int .i64 0, .int .i64 0, .int .i64 0, .int .i64 0, .string (⟨#[]⟩ : ByteArray)] (0, 0) _ rfl (blk_put (blk_put (blk_put (blk_put (blk_put (blkC #[.int .i64 0, .int .i64 0, .int .i64 0, .int .i64 0, .string (⟨#[]⟩ : ByteArray)]) 0 _ rfl) 1 _ rfl) 2 _ rfl) 3 _ rfl) 4 _ rfl) Tryd.underlying23 rfl (by kernel_rfl)) rfl ?_
    exact ⟨endA, belowA⟩
  · rw [if_neg c2] at H
    obtain ⟨t144, A5, H⟩ := Option.bind_eq_some_iff.mp H
    obtain ⟨t147, A6, H⟩ := Option.bind_eq_some_iff.mp H
    (try dsimp only at H)
    by_cases c7 : 0 < (t144.length : Int)
    · rw [if_pos c7] at H
      by_cases c8 : (rdOf ByteArray.empty t144 0).toList = ([109, 97, 107, 101] : List UInt8)
      · rw [if_pos c8] at H
        obtain ⟨t150, A9, H⟩ := Option.bind_eq_some_iff.mp H
        obtain ⟨t151, A10, H⟩ := Option.bind_eq_some_iff.mp H
        obtain ⟨⟨t152, t153⟩, A11, H⟩ := Option.bind_eq_some_iff.mp H
        exact spec_OpRead.short k a0 t144 t147 1 t150 t151 t152 r1 r2 r3 r4 r5 r6 w c2 A5 A6 c7 (Or.inl ⟨c8, rfl, A9, A10, t153, A11⟩) H
      · rw [if_neg c8] at H
        by_cases c9 : (rdOf ByteArray.empty t144 0).toList = ([116, 101, 120, 116] : List UInt8)
        · rw [if_pos c9] at H
          obtain ⟨⟨t155, t156⟩, A40, H⟩ := Option.bind_eq_some_iff.mp H
          exact spec_OpRead.short k a0 t144 t147 2 0 0 t155 r1 r2 r3 r4 r5 r6 w c2 A5 A6 c7 (Or.inr (Or.inl ⟨c8, c9, rfl, rfl, rfl, t156, A40⟩)) H
        · rw [if_neg c9] at H
          by_cases c10 : (rdOf ByteArray.empty t144 0).toList = ([109, 111, 118, 101] : List UInt8)
          · rw [if_pos c10] at H
            obtain ⟨t158, A69, H⟩ := Option.bind_eq_some_iff.mp H
            obtain ⟨t159, A70, H⟩ := Option.bind_eq_some_iff.mp H
            exact spec_OpRead.short k a0 t144 t147 3 t158 t159 ⟨#[]⟩ r1 r2 r3 r4 r5 r6 w c2 A5 A6 c7 (Or.inr (Or.inr (Or.inl ⟨c8, c9, c10, rfl, A69, A70, rfl⟩))) H
          · rw [if_neg c10] at H
            exact spec_OpRead.short k a0 t144 t147 0 0 0 ⟨#[]⟩ r1 r2 r3 r4 r5 r6 w c2 A5 A6 c7 (Or.inr (Or.inr (Or.inr ⟨c8, c9, c10, rfl, rfl, rfl, rfl⟩))) H
    · rw [if_neg c7] at H
      exact absurd H (by simp)


/-! ### impl_OpRead: function 5 -/
def impl_OpRead.f (a0 : ByteArray) : Option (Int × Int × Int × Int × ByteArray × Bool) := some (readT (opRead a0))
theorem impl_OpRead.calls (a0 : ByteArray) (r1 : Int) (r2 : Int) (r3 : Int) (r4 : Int) (r5 : ByteArray) (r6 : Bool) (w : World) (ht : TabOk w) (h : impl_OpRead.f a0 = some (r1, r2, r3, r4, r5, r6)) :
    Calls Tryd.prog 5 #[.string a0] w fun e w' => e = .returned (.tuple #[.agg #[.int .i64 r1, .int .i64 r2, .int .i64 r3, .int .i64 r4, .string r5], .bool r6]) ∧ Below w.heap.size w w' := by
  have h2 := opRead_calls a0 w ht
  have h3 : readT (opRead a0) = (r1, r2, r3, r4, r5, r6) := Option.some.inj h
  unfold readT at h3
  simp only [Prod.mk.injEq] at h3
  obtain ⟨e1, e2, e3, e4, e5, e6⟩ := h3
  unfold readV opV at h2
  rw [e1, e2, e3, e4, e5, e6] at h2
  exact h2


/-! ### laws_eqOp: function 6 -/
def laws_eqOp.f (a0_0 : Int) (a0_1 : Int) (a0_2 : Int) (a0_3 : Int) (a0_4 : ByteArray) (a1_0 : Int) (a1_1 : Int) (a1_2 : Int) (a1_3 : Int) (a1_4 : ByteArray) : Option (Bool) := if a0_0 = a1_0 then (if a0_1 = a1_1 then (if a0_2 = a1_2 then (if a0_3 = a1_3 then (if a0_4.toList = a1_4.toList then (some true) else (some false)) else (some false)) else (some false)) else (some false)) else (some false)
set_option maxHeartbeats 8000000 in
set_option maxRecDepth 100000 in
theorem laws_eqOp.calls (a0_0 : Int) (a0_1 : Int) (a0_2 : Int) (a0_3 : Int) (a0_4 : ByteArray) (a1_0 : Int) (a1_1 : Int) (a1_2 : Int) (a1_3 : Int) (a1_4 : ByteArray) (r : Bool) (w : World) (h : laws_eqOp.f a0_0 a0_1 a0_2 a0_3 a0_4 a1_0 a1_1 a1_2 a1_3 a1_4 = some r) :
    Calls Tryd.prog 6 #[.agg #[.int .i64 a0_0, .int .i64 a0_1, .int .i64 a0_2, .int .i64 a0_3, .string a0_4], .agg #[.int .i64 a1_0, .int .i64 a1_1, .int .i64 a1_2, .int .i64 a1_3, .string a1_4]] w fun e w' => e = .returned (.bool r) ∧ Below w.heap.size w w' := by
  have hu23 := Tryd.underlying23
  have HB := Aside0.mk (Below.refl w.heap.size w)
  have H : (if a0_0 = a1_0 then (if a0_1 = a1_1 then (if a0_2 = a1_2 then (if a0_3 = a1_3 then (if a0_4.toList = a1_4.toList then (some true) else (some false)) else (some false)) else (some false)) else (some false)) else (some false)) = some r := h
  clear h
  by_cases c3 : a0_0 = a1_0
  · rw [if_pos c3] at H
    have c3b0 : (a0_0 == a1_0) = true := beq_iff_eq.mpr c3
    have c3b1 : (a0_0 != a1_0) = false := bne_eq_false_iff_eq.mpr c3
    clear c3
    by_cases c4 : a0_1 = a1_1
    · rw [if_pos c4] at H
      have c4b0 : (a0_1 == a1_1) = true := beq_iff_eq.mpr c4
      have c4b1 : (a0_1 != a1_1) = false := bne_eq_false_iff_eq.mpr c4
      clear c4
      by_cases c5 : a0_2 = a1_2
      · rw [if_pos c5] at H
        have c5b0 : (a0_2 == a1_2) = true := beq_iff_eq.mpr c5
        have c5b1 : (a0_2 != a1_2) = false := bne_eq_false_iff_eq.mpr c5
        clear c5
        by_cases c6 : a0_3 = a1_3
        · rw [if_pos c6] at H
          have c6b0 : (a0_3 == a1_3) = true := beq_iff_eq.mpr c6
          have c6b1 : (a0_3 != a1_3) = false := bne_eq_false_iff_eq.mpr c6
          clear c6
          by_cases c7 : a0_4.toList = a1_4.toList
          · rw [if_pos c7] at H
            have c7b0 : (a0_4.toList == a1_4.toList) = true := beq_iff_eq.mpr c7
            have c7b1 : (a0_4.toList != a1_4.toList) = false := bne_eq_false_iff_eq.mpr c7
            clear c7
            obtain rfl := Option.some.inj H
            go_enter Tryd.func6, Tryd.ntmps6
            go_wp2_with (first | ((with_reducible refine gate_dst (N := 2) rfl ?_); refine box_event ?hg (N := 2) ?hd (cs := #[.int .i64 a0_0, .int .i64 a0_1, .int .i64 a0_2, .int .i64 a0_3, .string a0_4]) (t := 23) ?hr ?_; (case hd => rfl); (case hg => rfl); (case hr => first | (go_simp; done) | (go_simp; rfl)); intro gb162 hg w8 hbox hb; have n0_ := Aside0.mk (below_step belowA hb); have n1_ := Aside0.mk (hbox); have n2_ := Aside0.mk ((by rw [hg]; exact (below_size belowA) : w.heap.size ≤ gb162)); have n3_ := Aside0.mk ((by rw [hg]; exact (below_size belowA) : w.heap.size ≤ gb162)); clear HB; have HB := n0_; have BK162 := n1_; have GW162 := n2_; have GE162 := n3_; clear n0_ n1_ n2_ n3_; clear hb hbox hg) | ((with_reducible refine gate_dst (N := 3) rfl ?_); refine box_event ?hg (N := 3) ?hd (cs := #[.int .i64 a1_0, .int .i64 a1_1, .int .i64 a1_2, .int .i64 a1_3, .string a1_4]) (t := 23) ?hr ?_; (case hd => rfl); (case hg => rfl); (case hr => first | (go_simp; done) | (go_simp; rfl)); intro gb163 hg w9 hbox hb; have n0_ := Aside0.mk (blk_below (g := gb162) (o := .cells #[.int .i64 a0_0, .int .i64 a0_1, .int .i64 a0_2, .int .i64 a0_3, .string a0_4] 23 (0, 0)) blkA hb); have n1_ := Aside0.mk (below_step belowA hb); have n2_ := Aside0.mk (hbox); have n3_ := Aside0.mk ((by rw [hg]; exact (below_size belowA) : w.heap.size ≤ gb163)); have n4_ := Aside0.mk ((by rw [hg]; exact (below_size belowA) : w.heap.size ≤ gb163)); have n5_ := Aside0.mk ((by rw [hg]; exact Nat.ne_of_lt (blk_lt (g := gb162) (o := .cells #[.int .i64 a0_0, .int .i64 a0_1, .int .i64 a0_2, .int .i64 a0_3, .string a0_4] 23 (0, 0)) blkA) : gb162 ≠ gb163)); have n6_ := Aside0.mk ((by rw [hg]; exact Nat.ne_of_gt (blk_lt (g := gb162) (o := .cells #[.int .i64 a0_0, .int .i64 a0_1, .int .i64 a0_2, .int .i64 a0_3, .string a0_4] 23 (0, 0)) blkA) : gb163 ≠ gb162)); clear BK162; clear HB; have BK162 := n0_; have HB := n1_; have BK163 := n2_; have GW163 := n3_; have GE163 := n4_; have NB162_163 := n5_; have NB163_162 := n6_; clear n0_ n1_ n2_ n3_ n4_ n5_ n6_; clear hb hbox hg; have hnb10 := NB162_163.out; have hnc10 := NB163_162.out; obtain ⟨hcz11_0, hcz11_1, hcz11_2, hcz11_3, hcz11_4, hfz11_0, hfz11_1, hfz11_2, hfz11_3, hfz11_4⟩ := blk_facts5 BK162.out; obtain ⟨hcz12_0, hcz12_1, hcz12_2, hcz12_3, hcz12_4, hfz12_0, hfz12_1, hfz12_2, hfz12_3, hfz12_4⟩ := blk_facts5 BK163.out))
            go_ret
            exact ⟨endA, belowA⟩
          · rw [if_neg c7] at H
            have c7b0 : (a0_4.toList == a1_4.toList) = false := beq_eq_false_iff_ne.mpr c7
            have c7b1 : (a0_4.toList != a1_4.toList) = true := bne_iff_ne.mpr c7
            obtain rfl := Option.some.inj H
            go_enter Tryd.func6, Tryd.ntmps6
            go_wp2_with (first | ((with_reducible refine gate_dst (N := 2) rfl ?_); refine box_event ?hg (N := 2) ?hd (cs := #[.int .i64 a0_0, .int .i64 a0_1, .int .i64 a0_2, .int .i64 a0_3, .string a0_4]) (t := 23) ?hr ?_; (case hd => rfl); (case hg => rfl); (case hr => first | (go_simp; done) | (go_simp; rfl)); intro gb162 hg w13 hbox hb; have n0_ := Aside0.mk (below_step belowA hb); have n1_ := Aside0.mk (hbox); have n2_ := Aside0.mk ((by rw [hg]; exact (below_size belowA) : w.heap.size ≤ gb162)); have n3_ := Aside0.mk ((by rw [hg]; exact (below_size belowA) : w.heap.size ≤ gb162)); clear HB; have HB := n0_; have BK162 := n1_; have GW162 := n2_; have GE162 := n3_; clear n0_ n1_ n2_ n3_; clear hb hbox hg) | ((with_reducible refine gate_dst (N := 3) rfl ?_); refine box_event ?hg (N := 3) ?hd (cs := #[.int .i64 a1_0, .int .i64 a1_1, .int .i64 a1_2, .int .i64 a1_3, .string a1_4]) (t := 23) ?hr ?_; (case hd => rfl); (case hg => rfl); (case hr => first | (go_simp; done) | (go_simp; rfl)); intro gb163 hg w14 hbox hb; have n0_ := Aside0.mk (blk_below (g := gb162) (o := .cells #[.int .i64 a0_0, .int .i64 a0_1, .int .i64 a0_2, .int .i64 a0_3, .string a0_4] 23 (0, 0)) blkA hb); have n1_ := Aside0.mk (below_step belowA hb); have n2_ := Aside0.mk (hbox); have n3_ := Aside0.mk ((by rw [hg]; exact (below_size belowA) : w.heap.size ≤ gb163)); have n4_ := Aside0.mk ((by rw [hg]; exact (below_size belowA) : w.heap.size ≤ gb163)); have n5_ := Aside0.mk ((by rw [hg]; exact Nat.ne_of_lt (blk_lt (g := gb162) (o := .cells #[.int .i64 a0_0, .int .i64 a0_1, .int .i64 a0_2, .int .i64 a0_3, .string a0_4] 23 (0, 0)) blkA) : gb162 ≠ gb163)); have n6_ := Aside0.mk ((by rw [hg]; exact Nat.ne_of_gt (blk_lt (g := gb162) (o := .cells #[.int .i64 a0_0, .int .i64 a0_1, .int .i64 a0_2, .int .i64 a0_3, .string a0_4] 23 (0, 0)) blkA) : gb163 ≠ gb162)); clear BK162; clear HB; have BK162 := n0_; have HB := n1_; have BK163 := n2_; have GW163 := n3_; have GE163 := n4_; have NB162_163 := n5_; have NB163_162 := n6_; clear n0_ n1_ n2_ n3_ n4_ n5_ n6_; clear hb hbox hg; have hnb15 := NB162_163.out; have hnc15 := NB163_162.out; obtain ⟨hcz16_0, hcz16_1, hcz16_2, hcz16_3, hcz16_4, hfz16_0, hfz16_1, hfz16_2, hfz16_3, hfz16_4⟩ := blk_facts5 BK162.out; obtain ⟨hcz17_0, hcz17_1, hcz17_2, hcz17_3, hcz17_4, hfz17_0, hfz17_1, hfz17_2, hfz17_3, hfz17_4⟩ := blk_facts5 BK163.out))
            go_ret
            exact ⟨endA, belowA⟩
        · rw [if_neg c6] at H
          have c6b0 : (a0_3 == a1_3) = false := beq_eq_false_iff_ne.mpr c6
          have c6b1 : (a0_3 != a1_3) = true := bne_iff_ne.mpr c6
          obtain rfl := Option.some.inj H
          go_enter Tryd.func6, Tryd.ntmps6
          go_wp2_with (first | ((with_reducible refine gate_dst (N := 2) rfl ?_); refine box_event ?hg (N := 2) ?hd (cs := #[.int .i64 a0_0, .int .i64 a0_1, .int .i64 a0_2, .int .i64 a0_3, .string a0_4]) (t := 23) ?hr ?_; (case hd => rfl); (case hg => rfl); (case hr => first | (go_simp; done) | (go_simp; rfl)); intro gb162 hg w18 hbox hb; have n0_ := Aside0.mk (below_step belowA hb); have n1_ := Aside0.mk (hbox); have n2_ := Aside0.mk ((by rw [hg]; exact (below_size belowA) : w.heap.size ≤ gb162)); have n3_ := Aside0.mk ((by rw [hg]; exact (below_size belowA) : w.heap.size ≤ gb162)); clear HB; have HB := n0_; have BK162 := n1_; have GW162 := n2_; have GE162 := n3_; clear n0_ n1_ n2_ n3_; clear hb hbox hg) | ((with_reducible refine gate_dst (N := 3) rfl ?_); refine box_event ?hg (N := 3) ?hd (cs := #[.int .i64 a1_0, .int .i64 a1_1, .int .i64 a1_2, .int .i64 a1_3, .string a1_4]) (t := 23) ?hr ?_; (case hd => rfl); (case hg => rfl); (case hr => first | (go_simp; done) | (go_simp; rfl)); intro gb163 hg w19 hbox hb; have n0_ := Aside0.mk (blk_below (g := gb162) (o := .cells #[.int .i64 a0_0, .int .i64 a0_1, .int .i64 a0_2, .int .i64 a0_3, .string a0_4] 23 (0, 0)) blkA hb); have n1_ := Aside0.mk (below_step belowA hb); have n2_ := Aside0.mk (hbox); have n3_ := Aside0.mk ((by rw [hg]; exact (below_size belowA) : w.heap.size ≤ gb163)); have n4_ := Aside0.mk ((by rw [hg]; exact (below_size belowA) : w.heap.size ≤ gb163)); have n5_ := Aside0.mk ((by rw [hg]; exact Nat.ne_of_lt (blk_lt (g := gb162) (o := .cells #[.int .i64 a0_0, .int .i64 a0_1, .int .i64 a0_2, .int .i64 a0_3, .string a0_4] 23 (0, 0)) blkA) : gb162 ≠ gb163)); have n6_ := Aside0.mk ((by rw [hg]; exact Nat.ne_of_gt (blk_lt (g := gb162) (o := .cells #[.int .i64 a0_0, .int .i64 a0_1, .int .i64 a0_2, .int .i64 a0_3, .string a0_4] 23 (0, 0)) blkA) : gb163 ≠ gb162)); clear BK162; clear HB; have BK162 := n0_; have HB := n1_; have BK163 := n2_; have GW163 := n3_; have GE163 := n4_; have NB162_163 := n5_; have NB163_162 := n6_; clear n0_ n1_ n2_ n3_ n4_ n5_ n6_; clear hb hbox hg; have hnb20 := NB162_163.out; have hnc20 := NB163_162.out; obtain ⟨hcz21_0, hcz21_1, hcz21_2, hcz21_3, hcz21_4, hfz21_0, hfz21_1, hfz21_2, hfz21_3, hfz21_4⟩ := blk_facts5 BK162.out; obtain ⟨hcz22_0, hcz22_1, hcz22_2, hcz22_3, hcz22_4, hfz22_0, hfz22_1, hfz22_2, hfz22_3, hfz22_4⟩ := blk_facts5 BK163.out))
          go_ret
          exact ⟨endA, belowA⟩
      · rw [if_neg c5] at H
        have c5b0 : (a0_2 == a1_2) = false := beq_eq_false_iff_ne.mpr c5
        have c5b1 : (a0_2 != a1_2) = true := bne_iff_ne.mpr c5
        obtain rfl := Option.some.inj H
        go_enter Tryd.func6, Tryd.ntmps6
        go_wp2_with (first | ((with_reducible refine gate_dst (N := 2) rfl ?_); refine box_event ?hg (N := 2) ?hd (cs := #[.int .i64 a0_0, .int .i64 a0_1, .int .i64 a0_2, .int .i64 a0_3, .string a0_4]) (t := 23) ?hr ?_; (case hd => rfl); (case hg => rfl); (case hr => first | (go_simp; done) | (go_simp; rfl)); intro gb162 hg w23 hbox hb; have n0_ := Aside0.mk (below_step belowA hb); have n1_ := Aside0.mk (hbox); have n2_ := Aside0.mk ((by rw [hg]; exact (below_size belowA) : w.heap.size ≤ gb162)); have n3_ := Aside0.mk ((by rw [hg]; exact (below_size belowA) : w.heap.size ≤ gb162)); clear HB; have HB := n0_; have BK162 := n1_; have GW162 := n2_; have GE162 := n3_; clear n0_ n1_ n2_ n3_; clear hb hbox hg) | ((with_reducible refine gate_dst (N := 3) rfl ?_); refine box_event ?hg (N := 3) ?hd (cs := #[.int .i64 a1_0, .int .i64 a1_1, .int .i64 a1_2, .int .i64 a1_3, .string a1_4]) (t := 23) ?hr ?_; (case hd => rfl); (case hg => rfl); (case hr => first | (go_simp; done) | (go_simp; rfl)); intro gb163 hg w24 hbox hb; have n0_ := Aside0.mk (blk_below (g := gb162) (o := .cells #[.int .i64 a0_0, .int .i64 a0_1, .int .i64 a0_2, .int .i64 a0_3, .string a0_4] 23 (0, 0)) blkA hb); have n1_ := Aside0.mk (below_step belowA hb); have n2_ := Aside0.mk (hbox); have n3_ := Aside0.mk ((by rw [hg]; exact (below_size belowA) : w.heap.size ≤ gb163)); have n4_ := Aside0.mk ((by rw [hg]; exact (below_size belowA) : w.heap.size ≤ gb163)); have n5_ := Aside0.mk ((by rw [hg]; exact Nat.ne_of_lt (blk_lt (g := gb162) (o := .cells #[.int .i64 a0_0, .int .i64 a0_1, .int .i64 a0_2, .int .i64 a0_3, .string a0_4] 23 (0, 0)) blkA) : gb162 ≠ gb163)); have n6_ := Aside0.mk ((by rw [hg]; exact Nat.ne_of_gt (blk_lt (g := gb162) (o := .cells #[.int .i64 a0_0, .int .i64 a0_1, .int .i64 a0_2, .int .i64 a0_3, .string a0_4] 23 (0, 0)) blkA) : gb163 ≠ gb162)); clear BK162; clear HB; have BK162 := n0_; have HB := n1_; have BK163 := n2_; have GW163 := n3_; have GE163 := n4_; have NB162_163 := n5_; have NB163_162 := n6_; clear n0_ n1_ n2_ n3_ n4_ n5_ n6_; clear hb hbox hg; have hnb25 := NB162_163.out; have hnc25 := NB163_162.out; obtain ⟨hcz26_0, hcz26_1, hcz26_2, hcz26_3, hcz26_4, hfz26_0, hfz26_1, hfz26_2, hfz26_3, hfz26_4⟩ := blk_facts5 BK162.out; obtain ⟨hcz27_0, hcz27_1, hcz27_2, hcz27_3, hcz27_4, hfz27_0, hfz27_1, hfz27_2, hfz27_3, hfz27_4⟩ := blk_facts5 BK163.out))
        go_ret
        exact ⟨endA, belowA⟩
    · rw [if_neg c4] at H
      have c4b0 : (a0_1 == a1_1) = false := beq_eq_false_iff_ne.mpr c4
      have c4b1 : (a0_1 != a1_1) = true := bne_iff_ne.mpr c4
      obtain rfl := Option.some.inj H
      go_enter Tryd.func6, Tryd.ntmps6
      go_wp2_with (first | ((with_reducible refine gate_dst (N := 2) rfl ?_); refine box_event ?hg (N := 2) ?hd (cs := #[.int .i64 a0_0, .int .i64 a0_1, .int .i64 a0_2, .int .i64 a0_3, .string a0_4]) (t := 23) ?hr ?_; (case hd => rfl); (case hg => rfl); (case hr => first | (go_simp; done) | (go_simp; rfl)); intro gb162 hg w28 hbox hb; have n0_ := Aside0.mk (below_step belowA hb); have n1_ := Aside0.mk (hbox); have n2_ := Aside0.mk ((by rw [hg]; exact (below_size belowA) : w.heap.size ≤ gb162)); have n3_ := Aside0.mk ((by rw [hg]; exact (below_size belowA) : w.heap.size ≤ gb162)); clear HB; have HB := n0_; have BK162 := n1_; have GW162 := n2_; have GE162 := n3_; clear n0_ n1_ n2_ n3_; clear hb hbox hg) | ((with_reducible refine gate_dst (N := 3) rfl ?_); refine box_event ?hg (N := 3) ?hd (cs := #[.int .i64 a1_0, .int .i64 a1_1, .int .i64 a1_2, .int .i64 a1_3, .string a1_4]) (t := 23) ?hr ?_; (case hd => rfl); (case hg => rfl); (case hr => first | (go_simp; done) | (go_simp; rfl)); intro gb163 hg w29 hbox hb; have n0_ := Aside0.mk (blk_below (g := gb162) (o := .cells #[.int .i64 a0_0, .int .i64 a0_1, .int .i64 a0_2, .int .i64 a0_3, .string a0_4] 23 (0, 0)) blkA hb); have n1_ := Aside0.mk (below_step belowA hb); have n2_ := Aside0.mk (hbox); have n3_ := Aside0.mk ((by rw [hg]; exact (below_size belowA) : w.heap.size ≤ gb163)); have n4_ := Aside0.mk ((by rw [hg]; exact (below_size belowA) : w.heap.size ≤ gb163)); have n5_ := Aside0.mk ((by rw [hg]; exact Nat.ne_of_lt (blk_lt (g := gb162) (o := .cells #[.int .i64 a0_0, .int .i64 a0_1, .int .i64 a0_2, .int .i64 a0_3, .string a0_4] 23 (0, 0)) blkA) : gb162 ≠ gb163)); have n6_ := Aside0.mk ((by rw [hg]; exact Nat.ne_of_gt (blk_lt (g := gb162) (o := .cells #[.int .i64 a0_0, .int .i64 a0_1, .int .i64 a0_2, .int .i64 a0_3, .string a0_4] 23 (0, 0)) blkA) : gb163 ≠ gb162)); clear BK162; clear HB; have BK162 := n0_; have HB := n1_; have BK163 := n2_; have GW163 := n3_; have GE163 := n4_; have NB162_163 := n5_; have NB163_162 := n6_; clear n0_ n1_ n2_ n3_ n4_ n5_ n6_; clear hb hbox hg; have hnb30 := NB162_163.out; have hnc30 := NB163_162.out; obtain ⟨hcz31_0, hcz31_1, hcz31_2, hcz31_3, hcz31_4, hfz31_0, hfz31_1, hfz31_2, hfz31_3, hfz31_4⟩ := blk_facts5 BK162.out; obtain ⟨hcz32_0, hcz32_1, hcz32_2, hcz32_3, hcz32_4, hfz32_0, hfz32_1, hfz32_2, hfz32_3, hfz32_4⟩ := blk_facts5 BK163.out))
      go_ret
      exact ⟨endA, belowA⟩
  · rw [if_neg c3] at H
    have c3b0 : (a0_0 == a1_0) = false := beq_eq_false_iff_ne.mpr c3
    have c3b1 : (a0_0 != a1_0) = true := bne_iff_ne.mpr c3
    obtain rfl := Option.some.inj H
    go_enter Tryd.func6, Tryd.ntmps6
    go_wp2_with (first | ((with_reducible refine gate_dst (N := 2) rfl ?_); refine box_event ?hg (N := 2) ?hd (cs := #[.int .i64 a0_0, .int .i64 a0_1, .int .i64 a0_2, .int .i64 a0_3, .string a0_4]) (t := 23) ?hr ?_; (case hd => rfl); (case hg => rfl); (case hr => first | (go_simp; done) | (go_simp; rfl)); intro gb162 hg w33 hbox hb; have n0_ := Aside0.mk (below_step belowA hb); have n1_ := Aside0.mk (hbox); have n2_ := Aside0.mk ((by rw [hg]; exact (below_size belowA) : w.heap.size ≤ gb162)); have n3_ := Aside0.mk ((by rw [hg]; exact (below_size belowA) : w.heap.size ≤ gb162)); clear HB; have HB := n0_; have BK162 := n1_; have GW162 := n2_; have GE162 := n3_; clear n0_ n1_ n2_ n3_; clear hb hbox hg) | ((with_reducible refine gate_dst (N := 3) rfl ?_); refine box_event ?hg (N := 3) ?hd (cs := #[.int .i64 a1_0, .int .i64 a1_1, .int .i64 a1_2, .int .i64 a1_3, .string a1_4]) (t := 23) ?hr ?_; (case hd => rfl); (case hg => rfl); (case hr => first | (go_simp; done) | (go_simp; rfl)); intro gb163 hg w34 hbox hb; have n0_ := Aside0.mk (blk_below (g := gb162) (o := .cells #[.int .i64 a0_0, .int .i64 a0_1, .int .i64 a0_2, .int .i64 a0_3, .string a0_4] 23 (0, 0)) blkA hb); have n1_ := Aside0.mk (below_step belowA hb); have n2_ := Aside0.mk (hbox); have n3_ := Aside0.mk ((by rw [hg]; exact (below_size belowA) : w.heap.size ≤ gb163)); have n4_ := Aside0.mk ((by rw [hg]; exact (below_size belowA) : w.heap.size ≤ gb163)); have n5_ := Aside0.mk ((by rw [hg]; exact Nat.ne_of_lt (blk_lt (g := gb162) (o := .cells #[.int .i64 a0_0, .int .i64 a0_1, .int .i64 a0_2, .int .i64 a0_3, .string a0_4] 23 (0, 0)) blkA) : gb162 ≠ gb163)); have n6_ := Aside0.mk ((by rw [hg]; exact Nat.ne_of_gt (blk_lt (g := gb162) (o := .cells #[.int .i64 a0_0, .int .i64 a0_1, .int .i64 a0_2, .int .i64 a0_3, .string a0_4] 23 (0, 0)) blkA) : gb163 ≠ gb162)); clear BK162; clear HB; have BK162 := n0_; have HB := n1_; have BK163 := n2_; have GW163 := n3_; have GE163 := n4_; have NB162_163 := n5_; have NB163_162 := n6_; clear n0_ n1_ n2_ n3_ n4_ n5_ n6_; clear hb hbox hg; have hnb35 := NB162_163.out; have hnc35 := NB163_162.out; obtain ⟨hcz36_0, hcz36_1, hcz36_2, hcz36_3, hcz36_4, hfz36_0, hfz36_1, hfz36_2, hfz36_3, hfz36_4⟩ := blk_facts5 BK162.out; obtain ⟨hcz37_0, hcz37_1, hcz37_2, hcz37_3, hcz37_4, hfz37_0, hfz37_1, hfz37_2, hfz37_3, hfz37_4⟩ := blk_facts5 BK163.out))
    go_ret
    exact ⟨endA, belowA⟩

end Go.Proofs.YtkoodlmedgfdjaaDoor.P
