/- The program's opOf by walks, and Go's Atoi as the reading of a change takes it. No condition; Atoi: where the package-level variables lie as the program's text lays them. -/
import Derived.Test.YtkoodlmedgfdjaaGreatDoorOpTxtC
import Derived.Test.YtkoodlmedgfdjaaGreatDoorZ
import Derived.Lib.SmallJoins
namespace Go.Proofs.YtkoodlmedgfdjaaGreatDoor
open Go.RowKit Go.Proofs.YtkoodlmedgfdjaaGreatDoorW.PrintWords Go.Proofs.YtkoodlmedgfdjaaGreatDoorW.PrintLast Go.Proofs.YtkoodlmedgfdjaaGreatDoor.OpTxt
set_option linter.unusedVariables false
set_option linter.unusedSimpArgs false

/-- A change as Go's record of five. -/
def opV (kind id up at_ : Int) (text : ByteArray) : Value := .agg #[.int .i64 kind, .int .i64 id, .int .i64 up, .int .i64 at_, .string text]
set_option maxRecDepth 100000 in
theorem opOf_make (id up at_ : Int) (text : ByteArray) (w : World) : Calls Tryz.prog 21 #[.iface 61 (.agg #[.int .i64 id, .int .i64 up, .int .i64 at_, .string text])] w fun e w' => e = .returned (opV 1 id up at_ text) ∧ Below w.heap.size w w' := by
  have a1 := assert_same make_rec (.agg #[.int .i64 id, .int .i64 up, .int .i64 at_, .string text])
  go_enter Tryz.func21, Tryz.ntmps21
  go_wp2
  (try simp only [Exit.inBlock, Exit.then])
  refine bodyPost_ret (results_cell_row rfl _ _ w.heap.size 24 #[.int .i64 1, .int .i64 id, .int .i64 up, .int .i64 at_, .string text] (0, 0) _ rfl (blk_alloc (heap_alloc_new w _) _) Tryz.underlying24 rfl (by kernel_rfl)) rfl ?_
  exact ⟨rfl, by repeat (first | exact Below.refl _ _ | apply below_alloc | refine below_set ?_ (by simp))⟩
set_option maxRecDepth 100000 in
theorem opOf_text (id : Int) (text : ByteArray) (w : World) : Calls Tryz.prog 21 #[.iface 65 (.agg #[.int .i64 id, .string text])] w fun e w' => e = .returned (opV 2 id 0 0 text) ∧ Below w.heap.size w w' := by
  have a1 := assert_other (U := 65) make_rec make_zero (by decide) (.agg #[.int .i64 id, .string text])
  have a2 := assert_same text_rec (.agg #[.int .i64 id, .string text])
  go_enter Tryz.func21, Tryz.ntmps21
  go_wp2
  (try simp only [Exit.inBlock, Exit.then])
  refine bodyPost_ret (results_cell_row rfl _ _ w.heap.size 24 #[.int .i64 2, .int .i64 id, .int .i64 0, .int .i64 0, .string text] (0, 0) _ rfl (blk_alloc (heap_alloc_new w _) _) Tryz.underlying24 rfl (by kernel_rfl)) rfl ?_
  exact ⟨rfl, by repeat (first | exact Below.refl _ _ | apply below_alloc | refine below_set ?_ (by simp))⟩
set_option maxRecDepth 100000 in
theorem opOf_move (id up at_ : Int) (w : World) : Calls Tryz.prog 21 #[.iface 67 (.agg #[.int .i64 id, .int .i64 up, .int .i64 at_])] w fun e w' => e = .returned (opV 3 id up at_ ⟨#[]⟩) ∧ Below w.heap.size w w' := by
  have a1 := assert_other (U := 67) make_rec make_zero (by decide) (.agg #[.int .i64 id, .int .i64 up, .int .i64 at_])
  have a2 := assert_other (U := 67) text_rec text_zero (by decide) (.agg #[.int .i64 id, .int .i64 up, .int .i64 at_])
  have a3 := assert_same move_rec (.agg #[.int .i64 id, .int .i64 up, .int .i64 at_])
  go_enter Tryz.func21, Tryz.ntmps21
  go_wp2
  (try simp only [Exit.inBlock, Exit.then])
  refine bodyPost_ret (results_cell_row rfl _ _ w.heap.size 24 #[.int .i64 3, .int .i64 id, .int .i64 up, .int .i64 at_, .string ⟨#[]⟩] (0, 0) _ rfl (blk_alloc (heap_alloc_new w _) _) Tryz.underlying24 rfl (by kernel_rfl)) rfl ?_
  exact ⟨rfl, by repeat (first | exact Below.refl _ _ | apply below_alloc | refine below_set ?_ (by simp))⟩
/-- The record of a valid change. -/
theorem opOf_calls (kind id up at_ : Int) (text : ByteArray) (ho : opB kind id up at_ text = true) (w : World) : Calls Tryz.prog 21 #[chV kind id up at_ text] w fun e w' => e = .returned (opV kind id up at_ text) ∧ Below w.heap.size w w' := by
  have hp := plain_op ho
  unfold opB at ho
  unfold chV
  by_cases hm : madeB id = true
  · rw [if_pos hm] at ho ⊢
    by_cases k1 : kind = 1
    · subst k1
      rw [if_pos rfl]
      exact opOf_make id up at_ text w
    · rw [if_neg k1] at ho ⊢
      by_cases k2 : kind = 2
      · subst k2
        rw [if_pos rfl] at ho ⊢
        simp only [Bool.and_eq_true, decide_eq_true_eq] at ho
        obtain ⟨⟨rfl, rfl⟩, h3⟩ := ho
        exact opOf_text id text w
      · rw [if_neg k2] at ho ⊢
        by_cases k3 : kind = 3
        · subst k3
          rw [if_pos rfl] at ho ⊢
          simp only [Bool.and_eq_true] at ho
          have e : text = ⟨#[]⟩ := ba_eq (by have h := ho.2; rw [Lib.toList_data] at h; exact List.isEmpty_iff.1 h)
          subst e
          exact opOf_move id up at_ w
        · rw [if_neg k3] at ho; cases ho
  · rw [if_neg hm] at ho; cases ho
/-- A number that a word spells. -/
theorem atoi_yes (s : ByteArray) (hs : s.size ≤ 100) {v : Int} (h : Lib.atoiAll s.data.toList = .ok v) (w : World) : Calls Tryz.prog 49 #[.string s] w fun e w' => e = .returned (.tuple #[.int .i64 v, .nilIface]) ∧ Below w.heap.size w w' := by
  refine (Tryz.strconv_Atoi_ok s (by omega) v h w).mono ?_
  rintro e w' ⟨rfl, rfl | ⟨t, rfl⟩⟩
  · exact ⟨rfl, Below.refl _ _⟩
  · exact ⟨rfl, Lib.bytesWorld_below _ _ _⟩
/-- And where it spells none: an error that is there. -/
theorem atoi_no (s : ByteArray) (hs : s.size ≤ 100) (h : ∀ v, Lib.atoiAll s.data.toList ≠ .ok v) (w : World) (ht : TabOk w) : Calls Tryz.prog 49 #[.string s] w fun e w' => (∃ v N, e = .returned (.tuple #[.int .i64 v, .iface 120 (.pointer (some ⟨N, 0, none⟩))])) ∧ Below w.heap.size w w' := by
  obtain ⟨tp, p, hv⟩ := ht.syn
  obtain ⟨tq, q, hq⟩ := ht.rng
  cases hc : Lib.atoiAll s.data.toList
  · exact absurd hc (h _)
  · refine (Any.strconv_Atoi_syntax_var Tryz.laysC172 s (by omega) hc tp p w hv).mono ?_
    rintro e w' ⟨N, rfl, _, _, hb⟩
    exact ⟨⟨_, N, rfl⟩, hb⟩
  · refine (Tryz.strconv_Atoi_range_var s (by omega) hc tq q w hq).mono ?_
    rintro e w' ⟨N, rfl, _, _, hb⟩
    exact ⟨⟨_, N, rfl⟩, hb⟩
end Go.Proofs.YtkoodlmedgfdjaaGreatDoor
