-- Written by wip/tools/pprint.py (a program of this session) over the kit's printer; not trusted: Lean checks it.
import Derived.Test.YtlpfjabfhgfpmaaDoorPx0
import Derived.Test.YtlpfjabfhgfpmaaDoorPx1
import Derived.Test.YtlpfjabfhgfpmaaDoorV
namespace Go.Proofs.YtlpfjabfhgfpmaaDoor.P
open Go.RowKit Go.Proofs.YtlpfjabfhgfpmaaDoorW.PrintWords Go.Proofs.YtlpfjabfhgfpmaaDoorW.PrintLast
attribute [local go_sem] cell_set_set cell_set_far_set   -- for this text's walks alone
set_option linter.unusedVariables false
set_option linter.unusedSimpArgs false

attribute [local go_sem high] eqA26
/-! ### spec_l12Has: function 62 -/
def spec_l12Has.l0 : Nat → List (S26) → Int → Int → Int → Int → Int → Int → Int → ByteArray → Option (Bool)
  | 0, _, _, _, _, _, _, _, _, _ => none
  | k + 1, x0, x5, x165000, x165001, x165002, x165003, x165004, x165005, x165006 => if x5 < (x0.length : Int) then (if 0 ≤ x5 then (if (((rd_T26 x0 x5).f0) == x165000 && (((rd_T26 x0 x5).f1) == x165001 && ((((rd_T26 x0 x5).f2.f0) == x165002 && (((rd_T26 x0 x5).f2.f1) == x165003 && (((rd_T26 x0 x5).f2.f2) == x165004 && (((rd_T26 x0 x5).f2.f3) == x165005 && ((((rd_T26 x0 x5).f2.f4).toList) == x165006.toList)))))))) = true then (some true) else (spec_l12Has.l0 k x0 (wrap64 (x5 + 1)) x165000 x165001 x165002 x165003 x165004 x165005 x165006)) else (none)) else (some false)
def spec_l12Has.f (k : Nat) (l0 : List (S26)) (a1_0 : Int) (a1_1 : Int) (a1_2 : Int) (a1_3 : Int) (a1_4 : Int) (a1_5 : Int) (a1_6 : ByteArray) : Option (Bool) := spec_l12Has.l0 k l0 0 a1_0 a1_1 a1_2 a1_3 a1_4 a1_5 a1_6
theorem spec_l12Has.mono_l : ∀ k, (∀ y0 y1 y2 y3 y4 y5 y6 y7 y8, LeO (spec_l12Has.l0 k y0 y1 y2 y3 y4 y5 y6 y7 y8) (spec_l12Has.l0 (k + 1) y0 y1 y2 y3 y4 y5 y6 y7 y8))
  | 0 => fun _ _ _ _ _ _ _ _ _ r h => by simp [spec_l12Has.l0] at h
  | k + 1 => by
    have ih0 := spec_l12Has.mono_l k
    · intro y0 y1 y2 y3 y4 y5 y6 y7 y8
      unfold spec_l12Has.l0
      repeat' first
      | (with_reducible exact ih0 _ _ _ _ _ _ _ _ _)
      | (with_reducible exact LeO.refl _)
      | (with_reducible exact LeO.none _)
      | (with_reducible refine LeO.ite ?_ ?_)
      | (with_reducible refine LeO.bind ?_ (fun _ => ?_))
      | exact ih0 _ _ _ _ _ _ _ _ _
      | exact LeO.none _
      | refine LeO.ite ?_ ?_
      | refine LeO.bind ?_ (fun _ => ?_)
theorem spec_l12Has.mono : ∀ a0 a1 a2 a3 a4 a5 a6 a7 k, LeO (spec_l12Has.f k a0 a1 a2 a3 a4 a5 a6 a7) (spec_l12Has.f (k + 1) a0 a1 a2 a3 a4 a5 a6 a7) := by
  intro a0 a1 a2 a3 a4 a5 a6 a7 k
  have ih0 := spec_l12Has.mono_l k
  unfold spec_l12Has.f
  repeat' first
      | (with_reducible exact ih0 _ _ _ _ _ _ _ _ _)
      | (with_reducible exact LeO.refl _)
      | (with_reducible exact LeO.none _)
      | (with_reducible refine LeO.ite ?_ ?_)
      | (with_reducible refine LeO.bind ?_ (fun _ => ?_))
      | exact ih0 _ _ _ _ _ _ _ _ _
      | exact LeO.none _
      | refine LeO.ite ?_ ?_
      | refine LeO.bind ?_ (fun _ => ?_)
set_option maxHeartbeats 8000000 in
set_option maxRecDepth 100000 in
theorem spec_l12Has.calls (k : Nat) (A0 : Option Addr) (c0 : Nat) (l0 : List (S26)) (a1_0 : Int) (a1_1 : Int) (a1_2 : Int) (a1_3 : Int) (a1_4 : Int) (a1_5 : Int) (a1_6 : ByteArray) (r : Bool) (w : World) (hr0 : Kd.C k26 w A0 l0.length l0) (hc0 : l0.length ≤ c0) (h : spec_l12Has.f k l0 a1_0 a1_1 a1_2 a1_3 a1_4 a1_5 a1_6 = some r) :
    Calls Tryd.prog 62 #[.slice A0 l0.length c0, .agg #[.int .i64 a1_0, .int .i64 a1_1, .int .i64 a1_2, .int .i64 a1_3, .int .i64 a1_4, .int .i64 a1_5, .string a1_6]] w fun e w' => e = .returned (.bool r) ∧ Below w.heap.size w w' := by
  have hu26 := Tryd.underlying26
  have HR0 := Aside0.mk hr0
  have HC0 := Aside0.mk hc0
  clear hr0 hc0
  have HB := Aside0.mk (Below.refl w.heap.size w)
  have H : (spec_l12Has.l0 k l0 0 a1_0 a1_1 a1_2 a1_3 a1_4 a1_5 a1_6) = some r := h
  clear h
  have H' := Aside0.mk H
  clear H
  go_enter Tryd.func62, Tryd.ntmps62
  go_wp2_with (first | ((with_reducible refine gate_dst (N := 3) rfl ?_); refine box_event ?hg (N := 3) ?hd (cs := #[.int .i64 a1_0, .int .i64 a1_1, .int .i64 a1_2, .int .i64 a1_3, .int .i64 a1_4, .int .i64 a1_5, .string a1_6]) (t := 26) ?hr ?_; (case hd => rfl); (case hg => rfl); (case hr => first | (go_simp; done) | (go_simp; rfl)); intro gb164 hg w3 hbox hb; have n0_ := Aside0.mk (below_step belowA hb); have n1_ := Aside0.mk (hbox); have n2_ := Aside0.mk ((by rw [hg]; exact (below_size belowA) : w.heap.size ≤ gb164)); have n3_ := Aside0.mk ((by rw [hg]; exact (below_size belowA) : w.heap.size ≤ gb164)); clear HB; have HB := n0_; have BK164 := n1_; have GW164 := n2_; have GE164 := n3_; clear n0_ n1_ n2_ n3_; clear hb hbox hg))
  repeat (go_quiet (first | ((with_reducible refine gate_dst (N := 3) rfl ?_); refine box_event ?hg (N := 3) ?hd (cs := #[.int .i64 a1_0, .int .i64 a1_1, .int .i64 a1_2, .int .i64 a1_3, .int .i64 a1_4, .int .i64 a1_5, .string a1_6]) (t := 26) ?hr ?_; (case hd => rfl); (case hg => rfl); (case hr => first | (go_simp; done) | (go_simp; rfl)); intro gb164 hg w3 hbox hb; have n0_ := Aside0.mk (below_step belowA hb); have n1_ := Aside0.mk (hbox); have n2_ := Aside0.mk ((by rw [hg]; exact (below_size belowA) : w.heap.size ≤ gb164)); have n3_ := Aside0.mk ((by rw [hg]; exact (below_size belowA) : w.heap.size ≤ gb164)); clear HB; have HB := n0_; have BK164 := n1_; have GW164 := n2_; have GE164 := n3_; clear n0_ n1_ n2_ n3_; clear hb hbox hg)); try go_wp2_with (first | ((with_reducible refine gate_dst (N := 3) rfl ?_); refine box_event ?hg (N := 3) ?hd (cs := #[.int .i64 a1_0, .int .i64 a1_1, .int .i64 a1_2, .int .i64 a1_3, .int .i64 a1_4, .int .i64 a1_5, .string a1_6]) (t := 26) ?hr ?_; (case hd => rfl); (case hg => rfl); (case hr => first | (go_simp; done) | (go_simp; rfl)); intro gb164 hg w3 hbox hb; have n0_ := Aside0.mk (below_step belowA hb); have n1_ := Aside0.mk (hbox); have n2_ := Aside0.mk ((by rw [hg]; exact (below_size belowA) : w.heap.size ≤ gb164)); have n3_ := Aside0.mk ((by rw [hg]; exact (below_size belowA) : w.heap.size ≤ gb164)); clear HB; have HB := n0_; have BK164 := n1_; have GW164 := n2_; have GE164 := n3_; clear n0_ n1_ n2_ n3_; clear hb hbox hg)))
  go_loopg [5] k (fun kq v5 w' => ∃ (x5_1 : Int), v5 = .int .i64 x5_1 ∧ Aside0 (spec_l12Has.l0 kq l0 x5_1 a1_0 a1_1 a1_2 a1_3 a1_4 a1_5 a1_6 = some r) ∧ Aside0 (kq ≤ k) ∧ Aside0 (w'.heap[gb164]? = some (.cells #[.int .i64 a1_0, .int .i64 a1_1, .int .i64 a1_2, .int .i64 a1_3, .int .i64 a1_4, .int .i64 a1_5, .string a1_6] 26 (0, 0))) ∧ Aside0 (Below w.heap.size w w'))
  case atStart => exact ⟨(0), (by first | rfl | (simp; done) | (simp [*]; done)), H', ⟨Nat.le_refl _⟩, ⟨by (with_reducible repeat (first | refine blk_drewN ?_ _ | refine blk_drew ?_ | refine blk_alloc ?_ _)); exact BK164.out⟩, ⟨belowA⟩⟩
  case round =>
    clear H'
    try clear p2
    obtain ⟨x5_1, rfl, HA, HK1, BK164, HB⟩ := hrel
    cases gk with
    | zero => exact absurd HA.out (by simp [spec_l12Has.l0])
    | succ k1 =>
      have H := HA.out
      clear HA
      simp only [spec_l12Has.l0] at H
      by_cases c4 : x5_1 < (l0.length : Int)
      · rw [if_pos c4] at H
        have c4b0 : decide (x5_1 < (l0.length : Int)) = true := decide_eq_true c4
        clear c4
        by_cases c5 : 0 ≤ x5_1
        · rw [if_pos c5] at H
          have c5b0 : decide (0 ≤ x5_1) = true := decide_eq_true c5
          clear c5
          by_cases c6 : (((rd_T26 l0 x5_1).f0) == a1_0 && (((rd_T26 l0 x5_1).f1) == a1_1 && ((((rd_T26 l0 x5_1).f2.f0) == a1_2 && (((rd_T26 l0 x5_1).f2.f1) == a1_3 && (((rd_T26 l0 x5_1).f2.f2) == a1_4 && (((rd_T26 l0 x5_1).f2.f3) == a1_5 && ((((rd_T26 l0 x5_1).f2.f4).toList) == a1_6.toList)))))))) = true
          · rw [if_pos c6] at H
            have c6b0 : (((rd_T26 l0 x5_1).f0) == a1_0 && (((rd_T26 l0 x5_1).f1) == a1_1 && ((((rd_T26 l0 x5_1).f2.f0) == a1_2 && (((rd_T26 l0 x5_1).f2.f1) == a1_3 && (((rd_T26 l0 x5_1).f2.f2) == a1_4 && (((rd_T26 l0 x5_1).f2.f3) == a1_5 && ((((rd_T26 l0 x5_1).f2.f4).toList) == a1_6.toList)))))))) = true := c6
            (try (have c6b1 : decide (((rd_T26 l0 x5_1).f0) = a1_0 && (((rd_T26 l0 x5_1).f1) == a1_1 && ((((rd_T26 l0 x5_1).f2.f0) == a1_2 && (((rd_T26 l0 x5_1).f2.f1) == a1_3 && (((rd_T26 l0 x5_1).f2.f2) == a1_4 && (((rd_T26 l0 x5_1).f2.f3) == a1_5 && ((((rd_T26 l0 x5_1).f2.f4).toList) == a1_6.toList)))))))) = true := by simpa using c6))
            (try (have c6b2 : (((rd_T26 l0 x5_1).f0) == a1_0 && (((rd_T26 l0 x5_1).f1) == a1_1 && ((((rd_T26 l0 x5_1).f2.f0) == a1_2 && (((rd_T26 l0 x5_1).f2.f1) == a1_3 && (((rd_T26 l0 x5_1).f2.f2) == a1_4 && (((rd_T26 l0 x5_1).f2.f3) == a1_5 && ((((rd_T26 l0 x5_1).f2.f4).toList) == a1_6.toList)))))))) = true := by simpa using c6))
            clear c6
            obtain rfl := Option.some.inj H
            have p165 : 0 ≤ (x5_1 : Int) := of_decide_eq_true (by first | (with_reducible assumption) | assumption)
            have q165 : x5_1 < (l0.length : Int) := of_decide_eq_true (by first | (with_reducible assumption) | assumption)
            obtain ⟨ad165, e165, hx165_0, hx165_1, hx165_2, hx165_3, hx165_4, hx165_5, hx165_6⟩ := at_T26 HR0.out x5_1 p165 q165
            cases e165
            replace hx165_0 := (HB.out.cell (World.block_lt_of_cell? w _ hx165_0)).trans hx165_0
            replace hx165_1 := (HB.out.cell (World.block_lt_of_cell? w _ hx165_1)).trans hx165_1
            replace hx165_2 := (HB.out.cell (World.block_lt_of_cell? w _ hx165_2)).trans hx165_2
            replace hx165_3 := (HB.out.cell (World.block_lt_of_cell? w _ hx165_3)).trans hx165_3
            replace hx165_4 := (HB.out.cell (World.block_lt_of_cell? w _ hx165_4)).trans hx165_4
            replace hx165_5 := (HB.out.cell (World.block_lt_of_cell? w _ hx165_5)).trans hx165_5
            replace hx165_6 := (HB.out.cell (World.block_lt_of_cell? w _ hx165_6)).trans hx165_6
            replace p165 := eq_true p165
            replace q165 := eq_true q165
            obtain ⟨hcz7_0, hcz7_1, hcz7_2, hcz7_3, hcz7_4, hcz7_5, hcz7_6, hfz7_0, hfz7_1, hfz7_2, hfz7_3, hfz7_4, hfz7_5, hfz7_6⟩ := blk_facts7 BK164.out
            go_wp2
            repeat (go_quiet (fail); try go_wp2)
            go_ret
            exact ⟨endA, belowA⟩
          · rw [if_neg c6] at H
            have c6b0 : (((rd_T26 l0 x5_1).f0) == a1_0 && (((rd_T26 l0 x5_1).f1) == a1_1 && ((((rd_T26 l0 x5_1).f2.f0) == a1_2 && (((rd_T26 l0 x5_1).f2.f1) == a1_3 && (((rd_T26 l0 x5_1).f2.f2) == a1_4 && (((rd_T26 l0 x5_1).f2.f3) == a1_5 && ((((rd_T26 l0 x5_1).f2.f4).toList) == a1_6.toList)))))))) = false := by simpa using c6
            (try (have c6b1 : decide (((rd_T26 l0 x5_1).f0) = a1_0 && (((rd_T26 l0 x5_1).f1) == a1_1 && ((((rd_T26 l0 x5_1).f2.f0) == a1_2 && (((rd_T26 l0 x5_1).f2.f1) == a1_3 && (((rd_T26 l0 x5_1).f2.f2) == a1_4 && (((rd_T26 l0 x5_1).f2.f3) == a1_5 && ((((rd_T26 l0 x5_1).f2.f4).toList) == a1_6.toList)))))))) = false := by simpa using c6))
            (try (have c6b2 : (((rd_T26 l0 x5_1).f0) == a1_0 && (((rd_T26 l0 x5_1).f1) == a1_1 && ((((rd_T26 l0 x5_1).f2.f0) == a1_2 && (((rd_T26 l0 x5_1).f2.f1) == a1_3 && (((rd_T26 l0 x5_1).f2.f2) == a1_4 && (((rd_T26 l0 x5_1).f2.f3) == a1_5 && ((((rd_T26 l0 x5_1).f2.f4).toList) == a1_6.toList)))))))) = false := by simpa using c6))
            (try (have c6b3 : ¬ (((rd_T26 l0 x5_1).f0) = a1_0 && (((rd_T26 l0 x5_1).f1) == a1_1 && ((((rd_T26 l0 x5_1).f2.f0) == a1_2 && (((rd_T26 l0 x5_1).f2.f1) == a1_3 && (((rd_T26 l0 x5_1).f2.f2) == a1_4 && (((rd_T26 l0 x5_1).f2.f3) == a1_5 && ((((rd_T26 l0 x5_1).f2.f4).toList) == a1_6.toList)))))))) := by simpa using c6))
            clear c6
            have H' := Aside0.mk H
            clear H
            have p165 : 0 ≤ (x5_1 : Int) := of_decide_eq_true (by first | (with_reducible assumption) | assumption)
            have q165 : x5_1 < (l0.length : Int) := of_decide_eq_true (by first | (with_reducible assumption) | assumption)
            obtain ⟨ad165, e165, hx165_0, hx165_1, hx165_2, hx165_3, hx165_4, hx165_5, hx165_6⟩ := at_T26 HR0.out x5_1 p165 q165
            cases e165
            replace hx165_0 := (HB.out.cell (World.block_lt_of_cell? w _ hx165_0)).trans hx165_0
            replace hx165_1 := (HB.out.cell (World.block_lt_of_cell? w _ hx165_1)).trans hx165_1
            replace hx165_2 := (HB.out.cell (World.block_lt_of_cell? w _ hx165_2)).trans hx165_2
            replace hx165_3 := (HB.out.cell (World.block_lt_of_cell? w _ hx165_3)).trans hx165_3
            replace hx165_4 := (HB.out.cell (World.block_lt_of_cell? w _ hx165_4)).trans hx165_4
            replace hx165_5 := (HB.out.cell (World.block_lt_of_cell? w _ hx165_5)).trans hx165_5
            replace hx165_6 := (HB.out.cell (World.block_lt_of_cell? w _ hx165_6)).trans hx165_6
            replace p165 := eq_true p165
            replace q165 := eq_true q165
            obtain ⟨hcz8_0, hcz8_1, hcz8_2, hcz8_3, hcz8_4, hcz8_5, hcz8_6, hfz8_0, hfz8_1, hfz8_2, hfz8_3, hfz8_4, hfz8_5, hfz8_6⟩ := blk_facts7 BK164.out
            go_wp2
            repeat (go_quiet (fail); try go_wp2)
            go_roundg k1
            case measure => have := HK1.out; omega
            case rel => exact ⟨(wrap64 (x5_1 + 1)), (by first | rfl | (simp; done) | (simp [*]; done)), H', ⟨by have := HK1.out; omega⟩, ⟨by (with_reducible repeat (first | refine blk_drewN ?_ _ | refine blk_drew ?_ | refine blk_alloc ?_ _)); exact BK164.out⟩, ⟨belowA⟩⟩
        · rw [if_neg c5] at H
          exact absurd H (by simp)
      · rw [if_neg c4] at H
        have c4b0 : decide (x5_1 < (l0.length : Int)) = false := decide_eq_false c4
        clear c4
        obtain rfl := Option.some.inj H
        go_wp2
        repeat (go_quiet (fail); try go_wp2)
        go_ret
        exact ⟨endA, belowA⟩

end Go.Proofs.YtlpfjabfhgfpmaaDoor.P
