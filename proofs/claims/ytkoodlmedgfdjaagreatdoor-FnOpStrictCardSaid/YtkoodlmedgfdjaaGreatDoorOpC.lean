/- The program's changeOf and OpOk by walks: what they hand back, for every change, where the table lies as the program's text lays it. -/
import Derived.Test.YtkoodlmedgfdjaaGreatDoorPlainOp
import Derived.Test.YtkoodlmedgfdjaaGreatDoorGen
import Derived.Test.YtkoodlmedgfdjaaGreatDoorTab
import Derived.Test.YtkoodlmedgfdjaaGreatDoorQx1


import Derived.Deep.QuietTactic
import Derived.BigQuiet

namespace Go.Proofs.YtkoodlmedgfdjaaGreatDoor
open Go.RowKit Go.Proofs.YtkoodlmedgfdjaaGreatDoorW.PrintWords Go.Proofs.YtkoodlmedgfdjaaGreatDoorW.PrintLast
set_option linter.unusedVariables false
set_option linter.unusedSimpArgs false

theorem q_isRoot (a : Int) : Q.impl_isRoot.f a = some (rootB a) := by
  unfold Q.impl_isRoot.f Q.impl_RowWho.f rowWho
  simp only [Option.bind_some]
  by_cases h : rootB a = true
  · rw [if_pos h, h]; rfl
  · rw [if_neg h]
    by_cases h2 : madeB a = true
    · rw [if_pos h2]
      have := madeB_iff.1 h2
      rw [if_pos rfl, Bool.eq_false_iff.2 h]
      congr 1
      exact beq_eq_false_iff_ne.2 (by show a / 10 ≠ 0; omega)
    · rw [if_neg h2, Bool.eq_false_iff.2 h]; rfl
theorem q_isMade (a : Int) : Q.impl_isMade.f a = some (madeB a) := by
  unfold Q.impl_isMade.f Q.impl_RowWho.f rowWho
  simp only [Option.bind_some]
  by_cases h : rootB a = true
  · have h2 : madeB a = false := by have := rootB_iff.1 h; exact madeB_false.2 (by omega)
    rw [if_pos h, h2]; rfl
  · rw [if_neg h]
    by_cases h2 : madeB a = true
    · rw [if_pos h2]
      have := madeB_iff.1 h2
      rw [if_pos rfl, h2]
      congr 1
      exact bne_iff_ne.2 (by show a / 10 ≠ 0; omega)
    · rw [if_neg h2, Bool.eq_false_iff.2 h2]; rfl
theorem q_placeOk (a b : Int) : Q.impl_placeOk.f a b = some (placeB a b) := by
  unfold Q.impl_placeOk.f placeB
  simp only [q_isMade, q_isRoot, Option.bind_some]
  cases madeB a <;> cases rootB a <;> by_cases h : b = 0 <;> simp [h]
theorem isMade_q (a : Int) (w : World) (ht : TabOk w) : Calls Tryz.prog 29 #[.int .i64 a] w fun e w' => e = .returned (.bool (madeB a)) ∧ ∃ m, w' = w.drewN m :=
  (Q.impl_isMade.calls a _ w ht (q_isMade a)).mono fun _ _ ⟨he, h⟩ => ⟨he, h.out⟩
theorem placeOk_q (a b : Int) (w : World) (ht : TabOk w) : Calls Tryz.prog 30 #[.int .i64 a, .int .i64 b] w fun e w' => e = .returned (.bool (placeB a b)) ∧ ∃ m, w' = w.drewN m :=
  (Q.impl_placeOk.calls a b _ w ht (q_placeOk a b)).mono fun _ _ ⟨he, h⟩ => ⟨he, h.out⟩
theorem letter_bt (s : ByteArray) (i : Nat) (h : i < s.size) : bt s (i : Int) = ((s.toList[i]?.getD 0).toNat : Int) := bt_get s i h
theorem q_text_loop (s : ByteArray) (hs : s.size ≤ 4) : ∀ (d i : Nat), i + d = s.size → ∀ k, d < k → Q.impl_textOk.l0 k s (i : Int) = some ((s.toList.drop i).all fun c => decide (97 ≤ c.toNat) && decide (c.toNat ≤ 100)) := by
  intro d
  induction d with
  | zero =>
    intro i hi k hk
    obtain ⟨k, rfl⟩ : ∃ m, k = m + 1 := ⟨k - 1, by omega⟩
    simp only [Q.impl_textOk.l0]
    rw [if_neg (by omega), List.drop_of_length_le (by rw [Lib.toList_data]; simp; omega), List.all_nil]
  | succ d ih =>
    intro i hi k hk
    obtain ⟨k, rfl⟩ : ∃ m, k = m + 1 := ⟨k - 1, by omega⟩
    have hlt : i < s.size := by omega
    have hl : i < s.toList.length := by rw [Lib.toList_data]; simpa using hlt
    have hd : (s.toList.drop i).all (fun c => decide (97 ≤ c.toNat) && decide (c.toNat ≤ 100)) = (decide (97 ≤ bt s (i : Int) ∧ bt s (i : Int) ≤ 100) && (s.toList.drop (i + 1)).all (fun c => decide (97 ≤ c.toNat) && decide (c.toNat ≤ 100))) := by
      rw [List.drop_eq_getElem_cons hl, List.all_cons, letter_bt s i hlt]
      congr 1
      rw [Bool.eq_iff_iff]; simp [hl]; omega
    simp only [Q.impl_textOk.l0]
    rw [if_pos (by omega), if_pos (by omega), wrap64_id (a := (i : Int) + 1) (by omega), hd]
    by_cases h1 : bt s i < 97
    · rw [if_pos h1, decide_eq_false (by omega), Bool.false_and]
    · rw [if_neg h1]
      by_cases h2 : bt s i > 100
      · rw [if_pos h2, decide_eq_false (by omega), Bool.false_and]
      · rw [if_neg h2, decide_eq_true (by omega), Bool.true_and]
        exact ih (i + 1) (by omega) k (by omega)
theorem q_textOk (s : ByteArray) : Q.impl_textOk.f 6 s = some (textB s) := by
  unfold Q.impl_textOk.f textB
  by_cases h : (s.size : Int) > 4
  · rw [if_pos h, decide_eq_false (by omega), Bool.false_and]
  · rw [if_neg h, decide_eq_true (by omega), Bool.true_and]
    exact q_text_loop s (by omega) s.size 0 (by omega) 6 (by omega)
theorem textOk_q (s : ByteArray) (w : World) : Calls Tryz.prog 31 #[.string s] w fun e w' => e = .returned (.bool (textB s)) ∧ ∃ m, w' = w.drewN m :=
  (Q.impl_textOk.calls 6 s _ w (q_textOk s)).mono fun _ _ ⟨he, h⟩ => ⟨he, h.out⟩

/-- The change that an Op tells of, as a value: nil where its row is none, or its kind unknown. -/
def chV (kind id up at_ : Int) (text : ByteArray) : Value :=
  if madeB id = true then (if kind = 1 then .iface 61 (.agg #[.int .i64 id, .int .i64 up, .int .i64 at_, .string text]) else if kind = 2 then .iface 65 (.agg #[.int .i64 id, .string text]) else if kind = 3 then .iface 67 (.agg #[.int .i64 id, .int .i64 up, .int .i64 at_]) else .nilIface) else .nilIface
set_option maxHeartbeats 1000000 in
set_option maxRecDepth 100000 in
theorem changeOf_none (kind id up at_ : Int) (text : ByteArray) (w : World) (ht : TabOk w) (hm : madeB id = false) :
    Calls Tryz.prog 15 #[.agg #[.int .i64 kind, .int .i64 id, .int .i64 up, .int .i64 at_, .string text]] w fun e w' => e = .returned (.tuple #[.nilIface, .bool false]) ∧ Below w.heap.size w w' := by
  go_enter Tryz.func15, Tryz.ntmps15
  go_wp2_with (go_at_call 29; refine (isMade_q id _ (ht.below (below_alloc (Below.refl _ _) _))).mono ?_; rw [hm]; rintro e w' ⟨rfl, m, rfl⟩)
  go_ret2
  exact ⟨rfl, by repeat (first | exact Below.refl _ _ | apply pw_below_drewN | apply below_drew | apply below_alloc)⟩

theorem isMade_b (a : Int) (w : World) (ht : TabOk w) : Calls Tryz.prog 29 #[.int .i64 a] w fun e w' => e = .returned (.bool (madeB a)) ∧ Below w.heap.size w w' :=
  (Q.impl_isMade.calls a _ w ht (q_isMade a)).mono fun _ _ ⟨he, h⟩ => ⟨he, h.below⟩
/-- The box of a change, whole. -/
def OpBox (g : Nat) (kind id up at_ : Int) (text : ByteArray) (W : World) : Prop := W.heap[g]? = some (.cells #[.int .i64 kind, .int .i64 id, .int .i64 up, .int .i64 at_, .string text] 24 (0, 0))

theorem placeOk_r (a b : Int) (w : World) (r : Bool) (h : Aside0 (placeB a b = r)) (ht : TabOk w) : Calls Tryz.prog 30 #[.int .i64 a, .int .i64 b] w fun e w' => e = .returned (.bool r) ∧ ∃ m, w' = w.drewN m := by rw [← h.out]; exact placeOk_q a b w ht
theorem textOk_r (s : ByteArray) (w : World) (r : Bool) (h : Aside0 (textB s = r)) : Calls Tryz.prog 31 #[.string s] w fun e w' => e = .returned (.bool r) ∧ ∃ m, w' = w.drewN m := by rw [← h.out]; exact textOk_q s w

set_option maxHeartbeats 2000000 in
set_option maxRecDepth 100000 in
theorem changeOf_make (id up at_ : Int) (text : ByteArray) (p t : Bool) (hp : Aside0 (placeB up at_ = p)) (hx : Aside0 (textB text = t)) (w : World) (ht : TabOk w) (hm : madeB id = true) :
    Calls Tryz.prog 15 #[.agg #[.int .i64 1, .int .i64 id, .int .i64 up, .int .i64 at_, .string text]] w fun e w' => e = .returned (.tuple #[.iface 61 (.agg #[.int .i64 id, .int .i64 up, .int .i64 at_, .string text]), .bool (p && t)]) ∧ Below w.heap.size w w' := by
  cases p <;> cases t
  all_goals
    go_enter Tryz.func15, Tryz.ntmps15
    go_wp2_with (go_at_call 29; refine (isMade_b id _ (ht.below (below_alloc (Below.refl _ _) _))).mono ?_; rw [hm]; rintro e w1 ⟨rfl, hb⟩; have hbk : OpBox w.heap.size 1 id up at_ text w1 := blk_below (heap_alloc_new w _) hb; have hB : Aside0 (Below w.heap.size w w1) := ⟨below_then (below_alloc (Below.refl _ _) _) (below_size (below_alloc (Below.refl _ _) _)) hb⟩; have h0 : w1.cell? ⟨w.heap.size, 0, none⟩ = some (.int .i64 1) := (blk_cell hbk 0).trans rfl; have h1 : w1.cell? ⟨w.heap.size, 1, none⟩ = some (.int .i64 id) := (blk_cell hbk 1).trans rfl; have h2 : w1.cell? ⟨w.heap.size, 2, none⟩ = some (.int .i64 up) := (blk_cell hbk 2).trans rfl; have h3 : w1.cell? ⟨w.heap.size, 3, none⟩ = some (.int .i64 at_) := (blk_cell hbk 3).trans rfl; have h4 : w1.cell? ⟨w.heap.size, 4, none⟩ = some (.string text) := (blk_cell hbk 4).trans rfl; have hT : Aside0 (TabOk w1) := ⟨ht.below hB.out⟩; clear hb hbk)
    go_quiet ((first | (go_at_call 30; exact Calls.quiet_of (placeOk_r up at_ _ _ hp (TabOk.drewN hT.out _))) | (go_at_call 31; exact Calls.quiet_of (textOk_r text _ _ hx))))
    go_wp2
    go_ret2
    exact ⟨rfl, pw_below_drewN hB.out _⟩

set_option maxHeartbeats 2000000 in
set_option maxRecDepth 100000 in
theorem changeOf_text (id up at_ : Int) (text : ByteArray) (u a t : Bool) (hu : (up == 0) = u) (ha : (at_ == 0) = a) (hx : Aside0 (textB text = t)) (w : World) (ht : TabOk w) (hm : madeB id = true) :
    Calls Tryz.prog 15 #[.agg #[.int .i64 2, .int .i64 id, .int .i64 up, .int .i64 at_, .string text]] w fun e w' => e = .returned (.tuple #[.iface 65 (.agg #[.int .i64 id, .string text]), .bool ((u && a) && t)]) ∧ Below w.heap.size w w' := by
  cases u <;> cases a <;> cases t
  all_goals
    go_enter Tryz.func15, Tryz.ntmps15
    go_wp2_with (go_at_call 29; refine (isMade_b id _ (ht.below (below_alloc (Below.refl _ _) _))).mono ?_; rw [hm]; rintro e w1 ⟨rfl, hb⟩; have hbk : OpBox w.heap.size 2 id up at_ text w1 := blk_below (heap_alloc_new w _) hb; have hB : Aside0 (Below w.heap.size w w1) := ⟨below_then (below_alloc (Below.refl _ _) _) (below_size (below_alloc (Below.refl _ _) _)) hb⟩; have h0 : w1.cell? ⟨w.heap.size, 0, none⟩ = some (.int .i64 2) := (blk_cell hbk 0).trans rfl; have h1 : w1.cell? ⟨w.heap.size, 1, none⟩ = some (.int .i64 id) := (blk_cell hbk 1).trans rfl; have h2 : w1.cell? ⟨w.heap.size, 2, none⟩ = some (.int .i64 up) := (blk_cell hbk 2).trans rfl; have h3 : w1.cell? ⟨w.heap.size, 3, none⟩ = some (.int .i64 at_) := (blk_cell hbk 3).trans rfl; have h4 : w1.cell? ⟨w.heap.size, 4, none⟩ = some (.string text) := (blk_cell hbk 4).trans rfl; have hT : Aside0 (TabOk w1) := ⟨ht.below hB.out⟩; clear hb hbk)
    go_quiet ((go_at_call 31; exact Calls.quiet_of (textOk_r text _ _ hx)))
    go_wp2
    go_ret2
    exact ⟨rfl, pw_below_drewN hB.out _⟩

set_option maxHeartbeats 2000000 in
set_option maxRecDepth 100000 in
theorem changeOf_move (id up at_ : Int) (text : ByteArray) (p t : Bool) (hp : Aside0 (placeB up at_ = p)) (hx : text.toList.isEmpty = t) (hy : (!text.toList.isEmpty) = !t) (w : World) (ht : TabOk w) (hm : madeB id = true) :
    Calls Tryz.prog 15 #[.agg #[.int .i64 3, .int .i64 id, .int .i64 up, .int .i64 at_, .string text]] w fun e w' => e = .returned (.tuple #[.iface 67 (.agg #[.int .i64 id, .int .i64 up, .int .i64 at_]), .bool (p && t)]) ∧ Below w.heap.size w w' := by
  cases p <;> cases t
  all_goals
    go_enter Tryz.func15, Tryz.ntmps15
    go_wp2_with (go_at_call 29; refine (isMade_b id _ (ht.below (below_alloc (Below.refl _ _) _))).mono ?_; rw [hm]; rintro e w1 ⟨rfl, hb⟩; have hbk : OpBox w.heap.size 3 id up at_ text w1 := blk_below (heap_alloc_new w _) hb; have hB : Aside0 (Below w.heap.size w w1) := ⟨below_then (below_alloc (Below.refl _ _) _) (below_size (below_alloc (Below.refl _ _) _)) hb⟩; have h0 : w1.cell? ⟨w.heap.size, 0, none⟩ = some (.int .i64 3) := (blk_cell hbk 0).trans rfl; have h1 : w1.cell? ⟨w.heap.size, 1, none⟩ = some (.int .i64 id) := (blk_cell hbk 1).trans rfl; have h2 : w1.cell? ⟨w.heap.size, 2, none⟩ = some (.int .i64 up) := (blk_cell hbk 2).trans rfl; have h3 : w1.cell? ⟨w.heap.size, 3, none⟩ = some (.int .i64 at_) := (blk_cell hbk 3).trans rfl; have h4 : w1.cell? ⟨w.heap.size, 4, none⟩ = some (.string text) := (blk_cell hbk 4).trans rfl; have hT : Aside0 (TabOk w1) := ⟨ht.below hB.out⟩; clear hb hbk)
    go_quiet ((go_at_call 30; exact Calls.quiet_of (placeOk_r up at_ _ _ hp (TabOk.drewN hT.out _))))
    go_wp2
    go_ret2
    exact ⟨rfl, pw_below_drewN hB.out _⟩

set_option maxHeartbeats 2000000 in
set_option maxRecDepth 100000 in
theorem changeOf_other (id up at_ : Int) (text : ByteArray) (kind : Int) (h1 : (kind == 1) = false) (h2 : (kind == 2) = false) (h3 : (kind == 3) = false) (w : World) (ht : TabOk w) (hm : madeB id = true) :
    Calls Tryz.prog 15 #[.agg #[.int .i64 kind, .int .i64 id, .int .i64 up, .int .i64 at_, .string text]] w fun e w' => e = .returned (.tuple #[.nilIface, .bool false]) ∧ Below w.heap.size w w' := by
  · skip
    go_enter Tryz.func15, Tryz.ntmps15
    go_wp2_with (go_at_call 29; refine (isMade_b id _ (ht.below (below_alloc (Below.refl _ _) _))).mono ?_; rw [hm]; rintro e w1 ⟨rfl, hb⟩; have hbk : OpBox w.heap.size kind id up at_ text w1 := blk_below (heap_alloc_new w _) hb; have hB : Aside0 (Below w.heap.size w w1) := ⟨below_then (below_alloc (Below.refl _ _) _) (below_size (below_alloc (Below.refl _ _) _)) hb⟩; have h0 : w1.cell? ⟨w.heap.size, 0, none⟩ = some (.int .i64 kind) := (blk_cell hbk 0).trans rfl; have h1 : w1.cell? ⟨w.heap.size, 1, none⟩ = some (.int .i64 id) := (blk_cell hbk 1).trans rfl; have h2 : w1.cell? ⟨w.heap.size, 2, none⟩ = some (.int .i64 up) := (blk_cell hbk 2).trans rfl; have h3 : w1.cell? ⟨w.heap.size, 3, none⟩ = some (.int .i64 at_) := (blk_cell hbk 3).trans rfl; have h4 : w1.cell? ⟨w.heap.size, 4, none⟩ = some (.string text) := (blk_cell hbk 4).trans rfl; have hT : Aside0 (TabOk w1) := ⟨ht.below hB.out⟩; clear hb hbk)
    go_wp2
    go_ret2
    exact ⟨rfl, hB.out⟩

/-- changeOf hands back the change as a value, and whether it is valid. -/
theorem changeOf_calls (kind id up at_ : Int) (text : ByteArray) (w : World) (ht : TabOk w) :
    Calls Tryz.prog 15 #[.agg #[.int .i64 kind, .int .i64 id, .int .i64 up, .int .i64 at_, .string text]] w fun e w' => e = .returned (.tuple #[chV kind id up at_ text, .bool (opB kind id up at_ text)]) ∧ Below w.heap.size w w' := by
  cases hm : madeB id with
  | false =>
    have e1 : chV kind id up at_ text = .nilIface := by unfold chV; rw [hm]; rfl
    have e2 : opB kind id up at_ text = false := by unfold opB; rw [hm]; rfl
    rw [e1, e2]; exact changeOf_none kind id up at_ text w ht hm
  | true =>
    by_cases k1 : kind = 1
    · subst k1
      have e1 : chV 1 id up at_ text = .iface 61 (.agg #[.int .i64 id, .int .i64 up, .int .i64 at_, .string text]) := by unfold chV; rw [hm]; rfl
      have e2 : opB 1 id up at_ text = (placeB up at_ && textB text) := by unfold opB; rw [hm]; rfl
      rw [e1, e2]; exact changeOf_make id up at_ text _ _ ⟨rfl⟩ ⟨rfl⟩ w ht hm
    · by_cases k2 : kind = 2
      · subst k2
        have e1 : chV 2 id up at_ text = .iface 65 (.agg #[.int .i64 id, .string text]) := by unfold chV; rw [hm]; rfl
        have e2 : opB 2 id up at_ text = (((up == 0) && (at_ == 0)) && textB text) := by unfold opB; rw [hm]; rfl
        rw [e1, e2]; exact changeOf_text id up at_ text _ _ _ rfl rfl ⟨rfl⟩ w ht hm
      · by_cases k3 : kind = 3
        · subst k3
          have e1 : chV 3 id up at_ text = .iface 67 (.agg #[.int .i64 id, .int .i64 up, .int .i64 at_]) := by unfold chV; rw [hm]; rfl
          have e2 : opB 3 id up at_ text = (placeB up at_ && text.toList.isEmpty) := by unfold opB; rw [hm]; rfl
          rw [e1, e2]; exact changeOf_move id up at_ text _ _ ⟨rfl⟩ rfl rfl w ht hm
        · have e1 : chV kind id up at_ text = .nilIface := by unfold chV; rw [if_pos hm, if_neg k1, if_neg k2, if_neg k3]
          have e2 : opB kind id up at_ text = false := by unfold opB; rw [if_pos hm, if_neg k1, if_neg k2, if_neg k3]
          rw [e1, e2]; exact changeOf_other id up at_ text kind (beq_eq_false_iff_ne.2 k1) (beq_eq_false_iff_ne.2 k2) (beq_eq_false_iff_ne.2 k3) w ht hm
end Go.Proofs.YtkoodlmedgfdjaaGreatDoor
