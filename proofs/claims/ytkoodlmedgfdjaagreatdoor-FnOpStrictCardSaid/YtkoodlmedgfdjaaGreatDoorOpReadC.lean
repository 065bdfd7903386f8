/- The program's parseChange and OpRead by walks: the change of a text. Where the package-level variables lie as the program's text lays them. -/
import Derived.Test.YtkoodlmedgfdjaaGreatDoorParseD
import Derived.Test.YtkoodlmedgfdjaaGreatDoorIsC
import Derived.Deep.QuietTactic
import Derived.BigQuiet
namespace Go.Proofs.YtkoodlmedgfdjaaGreatDoor
open Go.RowKit Go.Proofs.YtkoodlmedgfdjaaGreatDoorW.PrintWords Go.Proofs.YtkoodlmedgfdjaaGreatDoorW.PrintLast Go.Proofs.YtkoodlmedgfdjaaGreatDoor.OpTxt
set_option linter.unusedVariables false
set_option linter.unusedSimpArgs false

theorem cut_len (c : UInt8) : ∀ s : List UInt8, ∀ x ∈ cut c s, x.length ≤ s.length
  | [], x, h => by simp [cut] at h; rw [h]; simp
  | a :: r, x, h => by
    have ih := cut_len c r
    rw [cut_cons] at h
    split at h
    · rcases List.mem_cons.1 h with rfl | h
      · simp
      · have := ih x h; rw [List.length_cons]; omega
    · have e := cut_eta c r
      rcases List.mem_cons.1 h with rfl | h
      · have := ih ((cut c r).headD []) (by rw [← e]; simp)
        simpa using this
      · have := ih x (by rw [← e]; exact List.mem_cons_of_mem _ h)
        rw [List.length_cons]; omega
/-- The words of a text, as Go cuts it. -/
def wordsOf (s : ByteArray) : List ByteArray := Lib.splitB ⟨#[32]⟩ 0 (Lib.countB s ⟨#[32]⟩) s
theorem wordsOf_cut (s : ByteArray) : (wordsOf s).map (·.data.toList) = cut 32 s.data.toList := by
  have h := splitB_cut 32 s
  have e : Lib.countB s ⟨#[32]⟩ = s.data.toList.count 32 := Lib.count_one 32 s.data.toList
  unfold wordsOf
  rw [e]; exact h
theorem wordsOf_len (s : ByteArray) : (wordsOf s).length = Lib.countB s ⟨#[32]⟩ + 1 := Lib.splitB_all ⟨#[32]⟩ (Nat.le_refl 1) 0 _ s rfl
theorem wordsOf_size (s : ByteArray) : ∀ x ∈ wordsOf s, x.size ≤ s.size := fun x hx => by
  have h := cut_len 32 s.data.toList x.data.toList (by rw [← wordsOf_cut]; exact List.mem_map.2 ⟨x, hx, rfl⟩)
  simpa using h
theorem wordsOf_few (s : ByteArray) : (wordsOf s).length ≤ s.size + 1 := by
  rw [wordsOf_len]
  have := Lib.countB_le ⟨#[32]⟩ (Nat.le_refl 1) s.size s (Nat.le_refl _)
  omega
theorem split_calls (s : ByteArray) (hs : s.size ≤ 24) (w : World) (ht : TabOk w) : Calls Tryz.prog 38 #[.string s, .string ⟨#[32]⟩] w fun e w' => e = .returned (.slice (some ⟨w.heap.size, 0, none⟩) (wordsOf s).length (wordsOf s).length) ∧ w' = w.alloc (.cells ((wordsOf s).map Value.string).toArray 9) := by
  obtain ⟨m, hm⟩ := ht.max
  rw [wordsOf_len]
  exact Any.strings_Split { Tryz.laysM146 with } Tryz.laysM146.i9 s ⟨#[32]⟩ m w (by omega) hm (Nat.le_refl 1)
/-- What the program hands back of a text: the change, or its error. -/
def changeV (a : Addr) (r : (Int × Int × Int × Int × ByteArray) × Bool) : Value :=
  if r.2 = true then .tuple #[chV r.1.1 r.1.2.1 r.1.2.2.1 r.1.2.2.2.1 r.1.2.2.2.2, .nilIface] else .tuple #[.nilIface, .iface 141 (.pointer (some a))]
theorem parsed_none (a : Addr) : parsedV a none = .tuple #[.agg #[.int .i64 0, .int .i64 0, .int .i64 0, .int .i64 0, .string ⟨#[]⟩], .iface 141 (.pointer (some a))] := rfl
theorem parsed_some (a : Addr) (k i u n : Int) (t : List UInt8) : parsedV a (some (k, i, u, n, t)) = .tuple #[.agg #[.int .i64 k, .int .i64 i, .int .i64 u, .int .i64 n, .string ⟨t.toArray⟩], .nilIface] := rfl
set_option maxHeartbeats 1000000 in
set_option maxRecDepth 100000 in
theorem change_long (a : Addr) (s : ByteArray) (w : World) (hm : MalAt a w) (hs : 24 < s.size) :
    Calls Tryz.prog 19 #[.string s] w fun e w' => e = .returned (.tuple #[.nilIface, .iface 141 (.pointer (some a))]) ∧ Below w.heap.size w w' := by
  have c1 : decide ((24 : Int) < (s.size : Int)) = true := decide_eq_true (by omega)
  go_enter Tryz.func19, Tryz.ntmps19
  go_wp2
  go_region
  go_wp2
  go_ret2
  exact ⟨rfl, by repeat (first | exact Below.refl _ _ | apply below_drew | apply below_alloc)⟩
set_option maxHeartbeats 1000000 in
set_option maxRecDepth 100000 in
theorem change_none (a : Addr) (s : ByteArray) (w : World) (ht : TabOk w) (hm : MalAt a w) (hs : s.size ≤ 24) (hg : goParse (cut 32 s.data.toList) = none) :
    Calls Tryz.prog 19 #[.string s] w fun e w' => e = .returned (.tuple #[.nilIface, .iface 141 (.pointer (some a))]) ∧ Below w.heap.size w w' := by
  have c1 : decide ((24 : Int) < (s.size : Int)) = false := decide_eq_false (by omega)
  have HT := Aside0.mk ht
  have HM := Aside0.mk hm
  have HS := Aside0.mk hs
  have HG := Aside0.mk hg
  clear ht hm hg hs
  go_enter Tryz.func19, Tryz.ntmps19
  go_wp2_with (first
    | (go_at_call 38; refine (split_calls s HS.out _ HT.out).mono ?_; rintro e w1 ⟨rfl, hw1⟩; have HB1 := Aside0.mk (show Below w.heap.size w w1 by rw [hw1]; exact below_alloc (Below.refl _ _) _); have HW1 := Aside0.mk (show w1.heap[w.heap.size]? = some (.cells ((wordsOf s).map Value.string).toArray 9 (0, 0)) by rw [hw1]; exact heap_alloc_new w _); clear hw1)
    | (go_at_call 37; refine (parseWords_calls a w.heap.size (wordsOf s) _ (HT.out.below HB1.out) (pw_cell_below HB1.out HM.out) (fun e => by have := wordsOf_len s; rw [e] at this; simp at this) (fun x hx => Nat.le_trans (wordsOf_size s x hx) (Nat.le_trans HS.out (by decide))) (Nat.le_trans (wordsOf_few s) (by have := HS.out; omega)) (fun j x hx => by rw [blk_cell HW1.out]; simp [hx])).mono ?_; rw [wordsOf_cut, HG.out, parsed_none]; rintro e w2 ⟨rfl, hb2⟩; have HB2 := Aside0.mk (below_step HB1.out hb2); have hm2 := pw_cell_below HB2.out HM.out; clear hb2))
  go_ret2
  exact ⟨rfl, below_alloc HB2.out _⟩
set_option maxHeartbeats 1000000 in
set_option maxRecDepth 100000 in
theorem change_bad (a : Addr) (s : ByteArray) (w : World) (ht : TabOk w) (hm : MalAt a w) (hs : s.size ≤ 24) (k i u n : Int) (t : List UInt8) (hg : goParse (cut 32 s.data.toList) = some (k, i, u, n, t)) (ho : opB k i u n ⟨t.toArray⟩ = false) :
    Calls Tryz.prog 19 #[.string s] w fun e w' => e = .returned (.tuple #[.nilIface, .iface 141 (.pointer (some a))]) ∧ Below w.heap.size w w' := by
  have c1 : decide ((24 : Int) < (s.size : Int)) = false := decide_eq_false (by omega)
  have HT := Aside0.mk ht
  have HM := Aside0.mk hm
  have HS := Aside0.mk hs
  have HG := Aside0.mk hg
  have HO := Aside0.mk ho
  clear ht hm hg hs ho
  go_enter Tryz.func19, Tryz.ntmps19
  go_wp2_with (first
    | (go_at_call 38; refine (split_calls s HS.out _ HT.out).mono ?_; rintro e w1 ⟨rfl, hw1⟩; have HB1 := Aside0.mk (show Below w.heap.size w w1 by rw [hw1]; exact below_alloc (Below.refl _ _) _); have HW1 := Aside0.mk (show w1.heap[w.heap.size]? = some (.cells ((wordsOf s).map Value.string).toArray 9 (0, 0)) by rw [hw1]; exact heap_alloc_new w _); clear hw1)
    | (go_at_call 37; refine (parseWords_calls a w.heap.size (wordsOf s) _ (HT.out.below HB1.out) (pw_cell_below HB1.out HM.out) (fun e => by have := wordsOf_len s; rw [e] at this; simp at this) (fun x hx => Nat.le_trans (wordsOf_size s x hx) (Nat.le_trans HS.out (by decide))) (Nat.le_trans (wordsOf_few s) (by have := HS.out; omega)) (fun j x hx => by rw [blk_cell HW1.out]; simp [hx])).mono ?_; rw [wordsOf_cut, HG.out, parsed_some]; rintro e w2 ⟨rfl, hb2⟩; have HB2 := Aside0.mk (below_step HB1.out hb2); have hm2 := pw_cell_below HB2.out HM.out; clear hb2)
    | (go_at_call 15; refine (changeOf_calls k i u n ⟨t.toArray⟩ _ (HT.out.below (below_alloc HB2.out _))).mono ?_; rw [HO.out]; rintro e w3 ⟨rfl, hb3⟩; have HB3 := Aside0.mk (below_step (below_alloc HB2.out _) hb3); have hm3 := pw_cell_below HB3.out HM.out; clear hb3))
  go_region
  go_wp2
  go_ret2
  exact ⟨rfl, below_drew HB3.out⟩
set_option maxHeartbeats 1000000 in
set_option maxRecDepth 100000 in
theorem change_other (a : Addr) (s : ByteArray) (w : World) (ht : TabOk w) (hm : MalAt a w) (hs : s.size ≤ 24) (k i u n : Int) (t : List UInt8) (hg : goParse (cut 32 s.data.toList) = some (k, i, u, n, t)) (ho : opB k i u n ⟨t.toArray⟩ = true) (hx : ((opTxt k i u n ⟨t.toArray⟩).toList == s.toList) = false) :
    Calls Tryz.prog 19 #[.string s] w fun e w' => e = .returned (.tuple #[.nilIface, .iface 141 (.pointer (some a))]) ∧ Below w.heap.size w w' := by
  have c1 : decide ((24 : Int) < (s.size : Int)) = false := decide_eq_false (by omega)
  have HT := Aside0.mk ht
  have HM := Aside0.mk hm
  have HS := Aside0.mk hs
  have HG := Aside0.mk hg
  have HO := Aside0.mk ho
  clear ht hm hg hs ho
  go_enter Tryz.func19, Tryz.ntmps19
  go_wp2_with (first
    | (go_at_call 38; refine (split_calls s HS.out _ HT.out).mono ?_; rintro e w1 ⟨rfl, hw1⟩; have HB1 := Aside0.mk (show Below w.heap.size w w1 by rw [hw1]; exact below_alloc (Below.refl _ _) _); have HW1 := Aside0.mk (show w1.heap[w.heap.size]? = some (.cells ((wordsOf s).map Value.string).toArray 9 (0, 0)) by rw [hw1]; exact heap_alloc_new w _); clear hw1)
    | (go_at_call 37; refine (parseWords_calls a w.heap.size (wordsOf s) _ (HT.out.below HB1.out) (pw_cell_below HB1.out HM.out) (fun e => by have := wordsOf_len s; rw [e] at this; simp at this) (fun x hx => Nat.le_trans (wordsOf_size s x hx) (Nat.le_trans HS.out (by decide))) (Nat.le_trans (wordsOf_few s) (by have := HS.out; omega)) (fun j x hx => by rw [blk_cell HW1.out]; simp [hx])).mono ?_; rw [wordsOf_cut, HG.out, parsed_some]; rintro e w2 ⟨rfl, hb2⟩; have HB2 := Aside0.mk (below_step HB1.out hb2); have hm2 := pw_cell_below HB2.out HM.out; clear hb2)
    | (go_at_call 15; refine (changeOf_calls k i u n ⟨t.toArray⟩ _ (HT.out.below (below_alloc HB2.out _))).mono ?_; rw [HO.out]; rintro e w3 ⟨rfl, hb3⟩; have HB3 := Aside0.mk (below_step (below_alloc HB2.out _) hb3); have hm3 := pw_cell_below HB3.out HM.out; clear hb3)
    | (go_at_call 16; refine (showChange_calls k i u n ⟨t.toArray⟩ HO.out _).mono ?_; rintro e w4 ⟨rfl, hb4⟩; have HB4 := Aside0.mk (below_step HB3.out hb4); have hm4 := pw_cell_below HB4.out HM.out; clear hb4))
  go_region
  go_wp2
  go_ret2
  exact ⟨rfl, below_drew HB4.out⟩
set_option maxHeartbeats 1000000 in
set_option maxRecDepth 100000 in
theorem change_yes (a : Addr) (s : ByteArray) (w : World) (ht : TabOk w) (hm : MalAt a w) (hs : s.size ≤ 24) (k i u n : Int) (t : List UInt8) (hg : goParse (cut 32 s.data.toList) = some (k, i, u, n, t)) (ho : opB k i u n ⟨t.toArray⟩ = true) (hx : ((opTxt k i u n ⟨t.toArray⟩).toList == s.toList) = true) :
    Calls Tryz.prog 19 #[.string s] w fun e w' => e = .returned (.tuple #[chV k i u n ⟨t.toArray⟩, .nilIface]) ∧ Below w.heap.size w w' := by
  have c1 : decide ((24 : Int) < (s.size : Int)) = false := decide_eq_false (by omega)
  have HT := Aside0.mk ht
  have HM := Aside0.mk hm
  have HS := Aside0.mk hs
  have HG := Aside0.mk hg
  have HO := Aside0.mk ho
  clear ht hm hg hs ho
  go_enter Tryz.func19, Tryz.ntmps19
  go_wp2_with (first
    | (go_at_call 38; refine (split_calls s HS.out _ HT.out).mono ?_; rintro e w1 ⟨rfl, hw1⟩; have HB1 := Aside0.mk (show Below w.heap.size w w1 by rw [hw1]; exact below_alloc (Below.refl _ _) _); have HW1 := Aside0.mk (show w1.heap[w.heap.size]? = some (.cells ((wordsOf s).map Value.string).toArray 9 (0, 0)) by rw [hw1]; exact heap_alloc_new w _); clear hw1)
    | (go_at_call 37; refine (parseWords_calls a w.heap.size (wordsOf s) _ (HT.out.below HB1.out) (pw_cell_below HB1.out HM.out) (fun e => by have := wordsOf_len s; rw [e] at this; simp at this) (fun x hx => Nat.le_trans (wordsOf_size s x hx) (Nat.le_trans HS.out (by decide))) (Nat.le_trans (wordsOf_few s) (by have := HS.out; omega)) (fun j x hx => by rw [blk_cell HW1.out]; simp [hx])).mono ?_; rw [wordsOf_cut, HG.out, parsed_some]; rintro e w2 ⟨rfl, hb2⟩; have HB2 := Aside0.mk (below_step HB1.out hb2); have hm2 := pw_cell_below HB2.out HM.out; clear hb2)
    | (go_at_call 15; refine (changeOf_calls k i u n ⟨t.toArray⟩ _ (HT.out.below (below_alloc HB2.out _))).mono ?_; rw [HO.out]; rintro e w3 ⟨rfl, hb3⟩; have HB3 := Aside0.mk (below_step (below_alloc HB2.out _) hb3); have hm3 := pw_cell_below HB3.out HM.out; clear hb3)
    | (go_at_call 16; refine (showChange_calls k i u n ⟨t.toArray⟩ HO.out _).mono ?_; rintro e w4 ⟨rfl, hb4⟩; have HB4 := Aside0.mk (below_step HB3.out hb4); have hm4 := pw_cell_below HB4.out HM.out; clear hb4))
  go_ret2
  exact ⟨rfl, HB4.out⟩
/-- The change of a text, or the error. -/
theorem parseChange_calls (a : Addr) (s : ByteArray) (w : World) (ht : TabOk w) (hm : MalAt a w) : Calls Tryz.prog 19 #[.string s] w fun e w' => e = .returned (changeV a (opRead s)) ∧ Below w.heap.size w w' := by
  have hnone : (∀ k i u n t, s.size ≤ 24 → opB k i u n t = true → opTxt k i u n t ≠ s) → changeV a (opRead s) = .tuple #[.nilIface, .iface 141 (.pointer (some a))] := fun h => by
    rcases opRead_cases s with ⟨k, i, u, n, t, e, h1, h2, h3⟩ | ⟨e, _⟩
    · exact absurd h3 (h k i u n t h1 h2)
    · rw [e]; rfl
  by_cases hs : s.size ≤ 24
  · cases hg : goParse (cut 32 s.data.toList) with
    | none =>
      rw [hnone fun k i u n t _ h2 h3 => by
        have := goParse_words (plain_op h2)
        rw [← cut_txt (plain_op h2), ← opTxt_data, h3, hg] at this
        cases this]
      exact change_none a s w ht hm hs hg
    | some c =>
      obtain ⟨k, i, u, n, t⟩ := c
      have only : ∀ k' i' u' n' t', opB k' i' u' n' t' = true → opTxt k' i' u' n' t' = s → k' = k ∧ i' = i ∧ u' = u ∧ n' = n ∧ t' = ⟨t.toArray⟩ := fun k' i' u' n' t' h2 h3 => by
        have := goParse_words (plain_op h2)
        rw [← cut_txt (plain_op h2), ← opTxt_data, h3, hg] at this
        simp only [Option.some.injEq, Prod.mk.injEq] at this
        obtain ⟨q1, q2, q3, q4, q5⟩ := this
        exact ⟨q1.symm, q2.symm, q3.symm, q4.symm, ba_eq q5.symm⟩
      cases ho : opB k i u n ⟨t.toArray⟩ with
      | false =>
        rw [hnone fun k' i' u' n' t' _ h2 h3 => by
          obtain ⟨rfl, rfl, rfl, rfl, rfl⟩ := only k' i' u' n' t' h2 h3
          rw [ho] at h2; cases h2]
        exact change_bad a s w ht hm hs k i u n t hg ho
      | true =>
        by_cases hx : opTxt k i u n ⟨t.toArray⟩ = s
        · rw [opRead_some.2 ⟨hs, ho, hx⟩]
          exact change_yes a s w ht hm hs k i u n t hg ho (by rw [hx]; exact beq_self_eq_true _)
        · rw [hnone fun k' i' u' n' t' _ h2 h3 => by
            obtain ⟨rfl, rfl, rfl, rfl, rfl⟩ := only k' i' u' n' t' h2 h3
            exact hx h3]
          exact change_other a s w ht hm hs k i u n t hg ho (by
            rw [beq_eq_false_iff_ne]
            intro e
            rw [Lib.toList_data, Lib.toList_data] at e
            exact hx (ba_eq e))
  · rw [hnone fun k i u n t h => absurd h hs]
    exact change_long a s w hm (by omega)
/-- What is read of a text, as a value. -/
def readV (r : (Int × Int × Int × Int × ByteArray) × Bool) : Value := .tuple #[opV r.1.1 r.1.2.1 r.1.2.2.1 r.1.2.2.2.1 r.1.2.2.2.2, .bool r.2]
theorem told5 {w W : World} (hB : Below w.heap.size w W) {z0 z1 z2 z3 z4 : Value} (h : W.heap[w.heap.size]? = some (.cells #[z0, z1, z2, z3, z4] 24 (0, 0))) (a b c d : Int) (s : ByteArray) :
    let W' := ((((W.setCell ⟨w.heap.size, 0, none⟩ (.int .i64 a)).setCell ⟨w.heap.size, 1, none⟩ (.int .i64 b)).setCell ⟨w.heap.size, 2, none⟩ (.int .i64 c)).setCell ⟨w.heap.size, 3, none⟩ (.int .i64 d)).setCell ⟨w.heap.size, 4, none⟩ (.string s)
    W'.heap[w.heap.size]? = some (.cells #[.int .i64 a, .int .i64 b, .int .i64 c, .int .i64 d, .string s] 24 (0, 0)) ∧ Below w.heap.size w W' :=
  ⟨blk_put (blk_put (blk_put (blk_put (blk_put h 0 _ rfl) 1 _ rfl) 2 _ rfl) 3 _ rfl) 4 _ rfl, below_set (below_set (below_set (below_set (below_set hB (Nat.le_refl _)) (Nat.le_refl _)) (Nat.le_refl _)) (Nat.le_refl _)) (Nat.le_refl _)⟩
set_option maxHeartbeats 1000000 in
set_option maxRecDepth 100000 in
theorem read_no (a : Addr) (s : ByteArray) (w : World) (ht : TabOk w) (hm : MalAt a w) (hr : (opRead s) = ((0, 0, 0, 0, ⟨#[]⟩), false)) :
    Calls Tryz.prog 9 #[.string s] w fun e w' => e = .returned (readV (opRead s)) ∧ Below w.heap.size w w' := by
  have HT := Aside0.mk ht
  have HM := Aside0.mk hm
  have HR := Aside0.mk hr
  clear ht hm hr
  go_enter Tryz.func9, Tryz.ntmps9
  go_wp2_with (first
    | (go_at_call 19; refine (parseChange_calls a s _ (HT.out.below (below_alloc (Below.refl _ _) _)) (pw_cell_below (below_alloc (Below.refl _ _) _) HM.out)).mono ?_; rw [HR.out, show changeV a (((0 : Int), (0 : Int), (0 : Int), (0 : Int), (⟨#[]⟩ : ByteArray)), false) = .tuple #[.nilIface, .iface 141 (.pointer (some a))] from rfl]; rintro e w1 ⟨rfl, hb1⟩; have HB1 := Aside0.mk (below_then (below_alloc (Below.refl _ _) _) (below_size (below_alloc (Below.refl _ _) _)) hb1); have hm1 := pw_cell_below HB1.out HM.out; have HK1 : Aside0 (w1.heap[w.heap.size]? = some (.cells #[.int .i64 0, .int .i64 0, .int .i64 0, .int .i64 0, .string ⟨#[]⟩] 24 (0, 0))) := ⟨blk_below (heap_alloc_new w _) hb1⟩; obtain ⟨r0, r1, r2, r3, r4, s0, s1, s2, s3, s4⟩ := blk_facts5 HK1.out; clear hb1)
    | (go_at_call 20; refine (is_same a _).mono ?_; rintro e w2 ⟨rfl, rfl⟩))
  (try simp only [Exit.inBlock, Exit.then])
  have hw := told5 HB1.out HK1.out 0 0 0 0 ⟨#[]⟩
  refine bodyPost_ret (results_ct rfl _ _ w.heap.size 24 _ (0, 0) _ rfl hw.1 Tryz.underlying24 rfl (by kernel_rfl)) rfl ?_
  exact ⟨by rw [HR.out]; rfl, hw.2⟩
set_option maxHeartbeats 1000000 in
set_option maxRecDepth 100000 in
theorem read_yes (a : Addr) (s : ByteArray) (w : World) (ht : TabOk w) (hm : MalAt a w) (k i u n : Int) (t : ByteArray) (hr : (opRead s) = ((k, i, u, n, t), true)) :
    Calls Tryz.prog 9 #[.string s] w fun e w' => e = .returned (readV (opRead s)) ∧ Below w.heap.size w w' := by
  have HT := Aside0.mk ht
  have HM := Aside0.mk hm
  have HR := Aside0.mk hr
  have HO := Aside0.mk (opRead_some.1 hr).2.1
  clear ht hm hr
  go_enter Tryz.func9, Tryz.ntmps9
  go_wp2_with (first
    | (go_at_call 19; refine (parseChange_calls a s _ (HT.out.below (below_alloc (Below.refl _ _) _)) (pw_cell_below (below_alloc (Below.refl _ _) _) HM.out)).mono ?_; rw [HR.out, show changeV a ((k, i, u, n, t), true) = .tuple #[chV k i u n t, .nilIface] from rfl]; rintro e w1 ⟨rfl, hb1⟩; have HB1 := Aside0.mk (below_then (below_alloc (Below.refl _ _) _) (below_size (below_alloc (Below.refl _ _) _)) hb1); have hm1 := pw_cell_below HB1.out HM.out; have HK1 : Aside0 (w1.heap[w.heap.size]? = some (.cells #[.int .i64 0, .int .i64 0, .int .i64 0, .int .i64 0, .string ⟨#[]⟩] 24 (0, 0))) := ⟨blk_below (heap_alloc_new w _) hb1⟩; obtain ⟨r0, r1, r2, r3, r4, s0, s1, s2, s3, s4⟩ := blk_facts5 HK1.out; clear hb1)
    | (go_at_call 20; refine (is_nil a _).mono ?_; rintro e w2 ⟨rfl, rfl⟩)
    | (go_at_call 21; refine (opOf_calls k i u n t HO.out _).mono ?_; rw [show opV k i u n t = .agg #[.int .i64 k, .int .i64 i, .int .i64 u, .int .i64 n, .string t] from rfl]; rintro e w3 ⟨rfl, hb3⟩; have HB3 := Aside0.mk (below_step HB1.out hb3); have HK3 := Aside0.mk (blk_below HK1.out hb3); obtain ⟨r0, r1, r2, r3, r4, s0, s1, s2, s3, s4⟩ := blk_facts5 HK3.out; clear hb3))
  (try simp only [Exit.inBlock, Exit.then])
  have hw := told5 HB3.out HK3.out k i u n t
  refine bodyPost_ret (results_ct rfl _ _ w.heap.size 24 _ (0, 0) _ rfl hw.1 Tryz.underlying24 rfl (by kernel_rfl)) rfl ?_
  exact ⟨by rw [HR.out]; rfl, hw.2⟩
/-- The change of a text; nothing, and false, where it is that of none. -/
theorem opRead_calls (s : ByteArray) (w : World) (ht : TabOk w) : Calls Tryz.prog 9 #[.string s] w fun e w' => e = .returned (readV (opRead s)) ∧ Below w.heap.size w w' := by
  obtain ⟨a, hm⟩ := ht.mal
  rcases opRead_cases s with ⟨k, i, u, n, t, e, _⟩ | ⟨e, _⟩
  · exact read_yes a s w ht hm k i u n t e
  · exact read_no a s w ht hm e
end Go.Proofs.YtkoodlmedgfdjaaGreatDoor
