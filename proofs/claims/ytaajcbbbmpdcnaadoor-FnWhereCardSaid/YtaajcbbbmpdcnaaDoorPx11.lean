
-- Written by wip/tools/pprint.py (a program of this session) over the kit's printer; not trusted: Lean checks it.
import Derived.Test.YtaajcbbbmpdcnaaDoorPx0
import Derived.Test.YtaajcbbbmpdcnaaDoorPx4
import Derived.Test.YtaajcbbbmpdcnaaDoorPx5
import Derived.Test.YtaajcbbbmpdcnaaDoorPx10
import Derived.Test.YtaajcbbbmpdcnaaDoorV
namespace Go.Proofs.YtaajcbbbmpdcnaaDoor.P
open Go.RowKit Go.Proofs.YtaajcbbbmpdcnaaDoorW.PrintWords Go.Proofs.YtaajcbbbmpdcnaaDoorW.PrintLast Go.Proofs.YtaajcbbbmpdcnaaDoorW.PrintMore
attribute [local go_sem] cell_set_set cell_set_far_set max2_int min2_int max_two min_two max_three min_three max_four min_four   -- for this text's walks alone
set_option linter.unusedVariables false
set_option linter.unusedSimpArgs false
def spec_DrawOpWhere.l0 : Nat → List (S47) → Int → List Int → Int → Int → Int → Int → Int → ByteArray → Option ((List (S47)) × Int × Int × Int × Int × ByteArray)
 | 0, _, _, _, _, _, _, _, _, _ => none
 | k + 1, x5, x7, x427000, x427001, x437000, x437001, x437002, x437003, x437004 => if x7 < 4 then ((spec_l6Rd_pick.f k x427000 x427001 8).bind fun bt437 => (if bt437.1 > 0 then (if x437000 = 2 then ((spec_l71Fits.f k x427000 bt437.2).bind fun bt439 => (spec_DrawOpWhere.l0 k bt439.1 (wrap64 (x7 + 1)) x427000 bt439.2.2.2.2.2.2 bt439.2.1 bt439.2.2.1 bt439.2.2.2.1 bt439.2.2.2.2.1 bt439.2.2.2.2.2.1)) else (some (x5, x437000, x437001, x437002, x437003, x437004))) else (some (x5, x437000, x437001, x437002, x437003, x437004)))) else (some (x5, x437000, x437001, x437002, x437003, x437004))
def spec_DrawOpWhere.f (k : Nat) (l0 : List Int) : Option ((List (S47)) × Int × Int × Int × Int × ByteArray) := (spec_l6Open.f l0).bind fun bt424 => ((spec_l71Fits.f k bt424.1 bt424.2).bind fun bt427 => (spec_DrawOpWhere.l0 k bt427.1 0 bt424.1 bt427.2.2.2.2.2.2 bt427.2.1 bt427.2.2.1 bt427.2.2.2.1 bt427.2.2.2.2.1 bt427.2.2.2.2.2.1))
theorem spec_DrawOpWhere.mono_l : ∀ k, (∀ y0 y1 y2 y3 y4 y5 y6 y7 y8, LeO (spec_DrawOpWhere.l0 k y0 y1 y2 y3 y4 y5 y6 y7 y8) (spec_DrawOpWhere.l0 (k + 1) y0 y1 y2 y3 y4 y5 y6 y7 y8))
 | 0 => fun _ _ _ _ _ _ _ _ _ r h => by simp [spec_DrawOpWhere.l0] at h
 | k + 1 => by
  have ih0 := spec_DrawOpWhere.mono_l k
  ·intro y0 y1 y2 y3 y4 y5 y6 y7 y8
   unfold spec_DrawOpWhere.l0
   repeat' first
   | (with_reducible exact ih0 _ _ _ _ _ _ _ _ _)
   | (with_reducible exact spec_l6Rd_pick.mono _ _ _ _)
   | (with_reducible exact spec_l71Fits.mono _ _ _)
   | (with_reducible exact LeO.refl _)
   | (with_reducible exact LeO.none _)
   | (with_reducible refine LeO.ite ?_ ?_)
   | (with_reducible refine LeO.bind ?_ (fun _ => ?_))
   | exact ih0 _ _ _ _ _ _ _ _ _
   | exact spec_l6Rd_pick.mono _ _ _ _
   | exact spec_l71Fits.mono _ _ _
   | exact LeO.none _
   | refine LeO.ite ?_ ?_
   | refine LeO.bind ?_ (fun _ => ?_)
theorem spec_DrawOpWhere.mono : ∀ a0 k, LeO (spec_DrawOpWhere.f k a0) (spec_DrawOpWhere.f (k + 1) a0) := by
 intro a0 k
 have ih0 := spec_DrawOpWhere.mono_l k
 unfold spec_DrawOpWhere.f
 repeat' first
   | (with_reducible exact ih0 _ _ _ _ _ _ _ _ _)
   | (with_reducible exact spec_l6Rd_pick.mono _ _ _ _)
   | (with_reducible exact spec_l71Fits.mono _ _ _)
   | (with_reducible exact LeO.refl _)
   | (with_reducible exact LeO.none _)
   | (with_reducible refine LeO.ite ?_ ?_)
   | (with_reducible refine LeO.bind ?_ (fun _ => ?_))
   | exact ih0 _ _ _ _ _ _ _ _ _
   | exact spec_l6Rd_pick.mono _ _ _ _
   | exact spec_l71Fits.mono _ _ _
   | exact LeO.none _
   | refine LeO.ite ?_ ?_
   | refine LeO.bind ?_ (fun _ => ?_)
set_option maxHeartbeats 8000000 in
set_option maxRecDepth 100000 in
theorem spec_DrawOpWhere.calls (k : Nat) (A0 : Option Addr) (c0 : Nat) (l0 : List Int) (r1 : List (S47)) (r2 : Int) (r3 : Int) (r4 : Int) (r5 : Int) (r6 : ByteArray) (w : World) (hr0 : Kd.C (Kd.int .u8) w A0 l0.length l0) (hc0 : l0.length ≤ c0) (h : spec_DrawOpWhere.f k l0 = some (r1, r2, r3, r4, r5, r6)) :
  Calls Tryd.prog 59 #[.slice A0 l0.length c0] w fun e w' => ∃ v0_ : Value, e = .returned (.tuple #[v0_, .agg #[.int .i64 r2, .int .i64 r3, .int .i64 r4, .int .i64 r5, .string r6]]) ∧ Kd.Q k47 47 w' w.heap.size (fun _ => True) v0_ r1 ∧ Below w.heap.size w w' := by
 have hu40 := Tryd.underlying40
 have HR0 := Aside0.mk hr0
 have HC0 := Aside0.mk hc0
 clear hr0 hc0
 have HB := Aside0.mk (Below.refl w.heap.size w)
 have H : ((spec_l6Open.f l0).bind fun bt424 => ((spec_l71Fits.f k bt424.1 bt424.2).bind fun bt427 => (spec_DrawOpWhere.l0 k bt427.1 0 bt424.1 bt427.2.2.2.2.2.2 bt427.2.1 bt427.2.2.1 bt427.2.2.2.1 bt427.2.2.2.2.1 bt427.2.2.2.2.2.1))) = some (r1, r2, r3, r4, r5, r6) := h
 clear h
 replace H := Option.bind_eq_some_iff.mp H
 obtain ⟨⟨t424, t425⟩, A20, H⟩ := H
 (try dsimp only at H)
 have A2 := Aside0.mk A20
 clear A20
 replace H := Option.bind_eq_some_iff.mp H
 obtain ⟨⟨t427, t430, t431, t432, t433, t434, t435⟩, A30, H⟩ := H
 (try dsimp only at H)
 have A3 := Aside0.mk A30
 clear A30
 have H' := Aside0.mk H
 clear H
 go_enter Tryd.func59, Tryd.ntmps59
 go_wp2_with (first | ((with_reducible refine gate_dst (N := 3) rfl ?_); refine box_event ?hg (N := 3) ?hd (cs := #[.int .i64 0, .int .i64 0, .int .i64 0, .int .i64 0, .string (⟨#[]⟩ : ByteArray)]) (t := 40) ?hr ?_; (case hd => rfl); (case hg => rfl); (case hr => first | (go_simp; done) | (go_simp; rfl)); intro gb423 hg w4 hbox hb; have n0_ := Aside0.mk (below_step belowA hb); have n1_ := Aside0.mk (hbox); have n2_ := Aside0.mk ((by rw [hg]; exact (below_size belowA) : w.heap.size ≤ gb423)); have n3_ := Aside0.mk ((by rw [hg]; exact (below_size belowA) : w.heap.size ≤ gb423)); clear HB; have HB := n0_; have BK423 := n1_; have GW423 := n2_; have GE423 := n3_; clear n0_ n1_ n2_ n3_; clear hb hbox hg) | ((with_reducible refine gate_callee (f := 82) rfl ?_); refine goesL_ (some 9) rfl rfl Tryd.func82 (by kernel_rfl) rfl #[.slice A0 l0.length c0] rfl argsA ?_; (with_reducible refine (spec_l6Open.calls _ _ l0 t424 t425 w _ ?side1 ?side2 ?side3 A2.out).mono ?_); (case side1 => exact belowA); (case side2 => exact HR0.out); (case side3 => exact HC0.out); rintro e w5 ⟨g426, rfl, hi, hb, hb2⟩; refine ⟨_, rfl, ?_⟩; have n0_ := Aside0.mk (blk_below (g := gb423) (o := .cells #[.int .i64 0, .int .i64 0, .int .i64 0, .int .i64 0, .string (⟨#[]⟩ : ByteArray)] 40 (0, 0)) blkA hb2); have n1_ := Aside0.mk (hb); have n2_ := Aside0.mk (hi); have n3_ := Aside0.mk (IsS113.ne_blk hi (blk_below (g := gb423) (o := .cells #[.int .i64 0, .int .i64 0, .int .i64 0, .int .i64 0, .string (⟨#[]⟩ : ByteArray)] 40 (0, 0)) blkA hb2) (by decide)); have n4_ := Aside0.mk (Ne.symm (IsS113.ne_blk hi (blk_below (g := gb423) (o := .cells #[.int .i64 0, .int .i64 0, .int .i64 0, .int .i64 0, .string (⟨#[]⟩ : ByteArray)] 40 (0, 0)) blkA hb2) (by decide))); clear BK423; clear HB; have BK423 := n0_; have HB := n1_; have HI426 := n2_; have NB426_423 := n3_; have NB423_426 := n4_; clear n0_ n1_ n2_ n3_ n4_; (try clear hb); (try clear hb2); (try clear hk); (try clear hi)) | ((with_reducible refine gate_callee (f := 90) rfl ?_); refine goesL_ (some 12) rfl rfl Tryd.func90 (by kernel_rfl) rfl #[.pointer (some ⟨g426, 0, none⟩)] rfl argsA ?_; (with_reducible refine (spec_l71Fits.calls k g426 t424 t425 t427 t430 t431 t432 t433 t434 t435 w _ ?side1 ?side2 A3.out).mono ?_); (case side1 => exact stA); (case side2 => exact belowA); rintro e w6 ⟨v428, rfl, ho0, hi, hb, hk⟩; refine ⟨_, rfl, ?_⟩; have n0_ := Aside0.mk (KeepBut.blk hk (g' := gb423) (o := .cells #[.int .i64 0, .int .i64 0, .int .i64 0, .int .i64 0, .string (⟨#[]⟩ : ByteArray)] 40 (0, 0)) blkA NB423_426.out (by simp)); have n1_ := Aside0.mk (Kd.Q_lower ho0 (below_size belowA)); have n2_ := Aside0.mk (hb); have n3_ := Aside0.mk (hi); clear BK423; clear HB; clear HI426; have BK423 := n0_; have HO429 := n1_; have HB := n2_; have HI426 := n3_; clear n0_ n1_ n2_ n3_; (try clear hb); (try clear hb2); (try clear hk); (try clear hi); (try clear ho0)) | ((with_reducible refine gate_dst (N := 6) rfl ?_); refine box_event ?hg (N := 6) ?hd (cs := #[.int .i64 0, .int .i64 0, .int .i64 0, .int .i64 0, .string (⟨#[]⟩ : ByteArray)]) (t := 40) ?hr ?_; (case hd => rfl); (case hg => rfl); (case hr => first | (go_simp; done) | (go_simp; rfl)); intro gb436 hg w7 hbox hb; have n0_ := Aside0.mk (Kd.Q_below (by (with_reducible repeat (first | apply Kd.Q_alloc | apply Kd.Q_drewN | apply Kd.Q_drew)); exact HO429.out) hb); have n1_ := Aside0.mk (blk_below (g := gb423) (o := .cells #[.int .i64 0, .int .i64 0, .int .i64 0, .int .i64 0, .string (⟨#[]⟩ : ByteArray)] 40 (0, 0)) blkA hb); have n2_ := Aside0.mk (IsS113.below stA hb); have n3_ := Aside0.mk (below_step belowA hb); have n4_ := Aside0.mk (hbox); have n5_ := Aside0.mk ((by rw [hg]; exact (below_size belowA) : w.heap.size ≤ gb436)); have n6_ := Aside0.mk ((by rw [hg]; exact (below_size belowA) : w.heap.size ≤ gb436)); have n7_ := Aside0.mk ((by rw [hg]; exact Nat.ne_of_lt (blk_lt (g := gb423) (o := .cells #[.int .i64 0, .int .i64 0, .int .i64 0, .int .i64 0, .string (⟨#[]⟩ : ByteArray)] 40 (0, 0)) blkA) : gb423 ≠ gb436)); have n8_ := Aside0.mk ((by rw [hg]; exact Nat.ne_of_gt (blk_lt (g := gb423) (o := .cells #[.int .i64 0, .int .i64 0, .int .i64 0, .int .i64 0, .string (⟨#[]⟩ : ByteArray)] 40 (0, 0)) blkA) : gb436 ≠ gb423)); have n9_ := Aside0.mk ((by rw [hg]; exact Nat.ne_of_lt (IsS113.lt (show IsS113 w _ g426 t424 t435 from stA)) : g426 ≠ gb436)); have n10_ := Aside0.mk ((by rw [hg]; exact Nat.ne_of_gt (IsS113.lt (show IsS113 w _ g426 t424 t435 from stA)) : gb436 ≠ g426)); clear HO429; clear BK423; clear HI426; clear HB; have HO429 := n0_; have BK423 := n1_; have HI426 := n2_; have HB := n3_; have BK436 := n4_; have GW436 := n5_; have GE436 := n6_; have NB423_436 := n7_; have NB436_423 := n8_; have NB426_436 := n9_; have NB436_426 := n10_; clear n0_ n1_ n2_ n3_ n4_ n5_ n6_ n7_ n8_ n9_ n10_; clear hb hbox hg; have hnb8 := NB436_423.out; have hnc8 := NB423_436.out; have hnb9 := NB436_426.out; have hnc9 := NB426_436.out; obtain ⟨hcz10_0, hcz10_1, hcz10_2, hcz10_3, hcz10_4, hfz10_0, hfz10_1, hfz10_2, hfz10_3, hfz10_4⟩ := blk_facts5 BK436.out))
 go_loopg [5, 7] k (fun kq v5 v7 w' => ∃ (x5_1 : List (S47)) (x7_1 : Int) (x427001_1 : Int) (x437000_1 : Int) (x437001_1 : Int) (x437002_1 : Int) (x437003_1 : Int) (x437004_1 : ByteArray), v7 = .int .i64 x7_1 ∧ Aside0 (spec_DrawOpWhere.l0 kq x5_1 x7_1 t424 x427001_1 x437000_1 x437001_1 x437002_1 x437003_1 x437004_1 = some (r1, r2, r3, r4, r5, r6)) ∧ Aside0 (kq ≤ k) ∧ Aside0 (Kd.Q k47 47 w' w.heap.size (fun _ => True) v5 x5_1) ∧ Aside0 (w'.heap[gb423]? = some (.cells #[.int .i64 0, .int .i64 0, .int .i64 0, .int .i64 0, .string (⟨#[]⟩ : ByteArray)] 40 (0, 0))) ∧ Aside0 (w'.heap[gb436]? = some (.cells #[.int .i64 x437000_1, .int .i64 x437001_1, .int .i64 x437002_1, .int .i64 x437003_1, .string x437004_1] 40 (0, 0))) ∧ Aside0 (IsS113 w w' g426 t424 x427001_1) ∧ Aside0 (Below w.heap.size w w'))
 case atStart => exact ⟨(t427), (0), (t435), (t430), (t431), (t432), (t433), (t434), (by first | rfl | (simp; done) | (simp [*]; done)), H', ⟨Nat.le_refl _⟩, ⟨by (with_reducible repeat (first | apply Kd.Q_alloc | apply Kd.Q_drewN | apply Kd.Q_drew)); exact Kd.Q_mono (Kd.Q_far (p := ⟨gb436, 4, none⟩) (Kd.Q_far (p := ⟨gb436, 3, none⟩) (Kd.Q_far (p := ⟨gb436, 2, none⟩) (Kd.Q_far (p := ⟨gb436, 1, none⟩) (Kd.Q_far (p := ⟨gb436, 0, none⟩) (Kd.Q_types HO429.out BK436.out (by decide)) (fun _ hk => hk.2) (.int .i64 t430)) (fun _ hk => hk.2) (.int .i64 t431)) (fun _ hk => hk.2) (.int .i64 t432)) (fun _ hk => hk.2) (.int .i64 t433)) (fun _ hk => hk.2) (.string t434)) (fun _ hk => trivial)⟩, ⟨by (with_reducible repeat (first | refine blk_drewN ?_ _ | refine blk_drew ?_ | refine blk_alloc ?_ _)); refine blk_far ?_ NB423_436.out _; (with_reducible repeat (first | refine blk_drewN ?_ _ | refine blk_drew ?_ | refine blk_alloc ?_ _)); refine blk_far ?_ NB423_436.out _; (with_reducible repeat (first | refine blk_drewN ?_ _ | refine blk_drew ?_ | refine blk_alloc ?_ _)); refine blk_far ?_ NB423_436.out _; (with_reducible repeat (first | refine blk_drewN ?_ _ | refine blk_drew ?_ | refine blk_alloc ?_ _)); refine blk_far ?_ NB423_436.out _; (with_reducible repeat (first | refine blk_drewN ?_ _ | refine blk_drew ?_ | refine blk_alloc ?_ _)); refine blk_far ?_ NB423_436.out _; (with_reducible repeat (first | refine blk_drewN ?_ _ | refine blk_drew ?_ | refine blk_alloc ?_ _)); exact BK423.out⟩, ⟨by (with_reducible repeat (first | refine blk_drewN ?_ _ | refine blk_drew ?_ | refine blk_alloc ?_ _)); refine blk_put (cs := #[.int .i64 t430, .int .i64 t431, .int .i64 t432, .int .i64 t433, .string (⟨#[]⟩ : ByteArray)]) ?_ 4 _ rfl; (with_reducible repeat (first | refine blk_drewN ?_ _ | refine blk_drew ?_ | refine blk_alloc ?_ _)); refine blk_put (cs := #[.int .i64 t430, .int .i64 t431, .int .i64 t432, .int .i64 0, .string (⟨#[]⟩ : ByteArray)]) ?_ 3 _ rfl; (with_reducible repeat (first | refine blk_drewN ?_ _ | refine blk_drew ?_ | refine blk_alloc ?_ _)); refine blk_put (cs := #[.int .i64 t430, .int .i64 t431, .int .i64 0, .int .i64 0, .string (⟨#[]⟩ : ByteArray)]) ?_ 2 _ rfl; (with_reducible repeat (first | refine blk_drewN ?_ _ | refine blk_drew ?_ | refine blk_alloc ?_ _)); refine blk_put (cs := #[.int .i64 t430, .int .i64 0, .int .i64 0, .int .i64 0, .string (⟨#[]⟩ : ByteArray)]) ?_ 1 _ rfl; (with_reducible repeat (first | refine blk_drewN ?_ _ | refine blk_drew ?_ | refine blk_alloc ?_ _)); refine blk_put (cs := #[.int .i64 0, .int .i64 0, .int .i64 0, .int .i64 0, .string (⟨#[]⟩ : ByteArray)]) ?_ 0 _ rfl; (with_reducible repeat (first | refine blk_drewN ?_ _ | refine blk_drew ?_ | refine blk_alloc ?_ _)); exact BK436.out⟩, ⟨stA⟩, ⟨belowA⟩⟩
 case round =>
  clear H'
  try clear p2
  try clear c5
  try clear c8
  try clear c9
  try clear hcz10_0
  try clear hcz10_1
  try clear hcz10_2
  try clear hcz10_3
  try clear hcz10_4
  try clear hfz10_0
  try clear hfz10_1
  try clear hfz10_2
  try clear hfz10_3
  try clear hfz10_4
  obtain ⟨x5_1, x7_1, x427001_1, x437000_1, x437001_1, x437002_1, x437003_1, x437004_1, rfl, HA, HK1, HO_5, BK423, BK436, HI426, HB⟩ := hrel
  cases gk with
  | zero => exact absurd HA.out (by simp [spec_DrawOpWhere.l0])
  | succ k1 =>
   have H := HA.out
   clear HA
   simp only [spec_DrawOpWhere.l0] at H
   by_cases c11 : x7_1 < 4
   ·rw [if_pos c11] at H
    have c11b0 : decide (x7_1 < 4) = true := decide_eq_true c11
    clear c11
    replace H := Option.bind_eq_some_iff.mp H
    obtain ⟨⟨t437, t438⟩, A120, H⟩ := H
    (try dsimp only at H)
    have A12 := Aside0.mk A120
    clear A120
    by_cases c13 : t437 > 0
    ·rw [if_pos c13] at H
     have c13b0 : decide (0 < t437) = true := decide_eq_true c13
     clear c13
     by_cases c14 : x437000_1 = 2
     ·rw [if_pos c14] at H
      have c14b0 : (x437000_1 == 2) = true := beq_iff_eq.mpr c14
      have c14b1 : (x437000_1 != 2) = false := bne_eq_false_iff_eq.mpr c14
      clear c14
      replace H := Option.bind_eq_some_iff.mp H
      obtain ⟨⟨t439, t442, t443, t444, t445, t446, t447⟩, A150, H⟩ := H
      (try dsimp only at H)
      have A15 := Aside0.mk A150
      clear A150
      have H' := Aside0.mk H
      clear H
      go_wp2_with (first | (go_at_call 84; (with_reducible refine (spec_l6Rd_pick.calls k1 g426 t424 x427001_1 8 t437 t438 w _ ?side1 ?side2 A12.out).mono ?_); (case side1 => exact stA); (case side2 => exact belowA); rintro e w16 ⟨rfl, hi, hb, hk⟩; have n0_ := Aside0.mk (Kd.Q_mono (Kd.Q_keep (IsS113.apartQ (show IsS113 w _ g426 t424 x427001_1 from stA) (by (with_reducible repeat (first | apply Kd.Q_alloc | apply Kd.Q_drewN | apply Kd.Q_drew)); exact HO_5.out) (by decide)) hk (fun _ h => h.2)) (fun _ h => h.1)); have n1_ := Aside0.mk (KeepBut.blk hk (g' := gb423) (o := .cells #[.int .i64 0, .int .i64 0, .int .i64 0, .int .i64 0, .string (⟨#[]⟩ : ByteArray)] 40 (0, 0)) blkA NB423_426.out (by simp)); have n2_ := Aside0.mk (KeepBut.blk hk (g' := gb436) (o := .cells #[.int .i64 x437000_1, .int .i64 x437001_1, .int .i64 x437002_1, .int .i64 x437003_1, .string x437004_1] 40 (0, 0)) blkA NB436_426.out (by simp)); have n3_ := Aside0.mk (hb); have n4_ := Aside0.mk (hi); clear HO_5; clear BK423; clear BK436; clear HB; clear HI426; have HO_5 := n0_; have BK423 := n1_; have BK436 := n2_; have HB := n3_; have HI426 := n4_; clear n0_ n1_ n2_ n3_ n4_; (try clear hb); (try clear hb2); (try clear hk); (try clear hi); have hnb17 := NB436_423.out; have hnc17 := NB423_436.out; have hnb18 := NB436_426.out; have hnc18 := NB426_436.out; obtain ⟨hcz19_0, hcz19_1, hcz19_2, hcz19_3, hcz19_4, hfz19_0, hfz19_1, hfz19_2, hfz19_3, hfz19_4⟩ := blk_facts5 BK436.out) | ((with_reducible refine gate_callee (f := 90) rfl ?_); refine goesL_ (some 31) rfl rfl Tryd.func90 (by kernel_rfl) rfl #[.pointer (some ⟨g426, 0, none⟩)] rfl argsA ?_; (with_reducible refine (spec_l71Fits.calls k1 g426 t424 t438 t439 t442 t443 t444 t445 t446 t447 w _ ?side1 ?side2 A15.out).mono ?_); (case side1 => exact stA); (case side2 => exact belowA); rintro e w20 ⟨v440, rfl, ho0, hi, hb, hk⟩; refine ⟨_, rfl, ?_⟩; have n0_ := Aside0.mk (Kd.Q_mono (Kd.Q_told (Kd.Q_oldK (IsS113.apartQ (show IsS113 w _ g426 t424 t438 from stA) (by (with_reducible repeat (first | apply Kd.Q_alloc | apply Kd.Q_drewN | apply Kd.Q_drew)); exact HO_5.out) (by decide)) hk) (Kd.Q_base ho0)) (fun _ h_ => h_.1)); have n1_ := Aside0.mk (KeepBut.blk hk (g' := gb423) (o := .cells #[.int .i64 0, .int .i64 0, .int .i64 0, .int .i64 0, .string (⟨#[]⟩ : ByteArray)] 40 (0, 0)) blkA NB423_426.out (by simp)); have n2_ := Aside0.mk (KeepBut.blk hk (g' := gb436) (o := .cells #[.int .i64 x437000_1, .int .i64 x437001_1, .int .i64 x437002_1, .int .i64 x437003_1, .string x437004_1] 40 (0, 0)) blkA NB436_426.out (by simp)); have n3_ := Aside0.mk (Kd.Q_lower (Kd.Q_new' ho0 (Kd.Q_lt (by (with_reducible repeat (first | apply Kd.Q_alloc | apply Kd.Q_drewN | apply Kd.Q_drew)); exact HO_5.out))) (below_size belowA)); have n4_ := Aside0.mk (hb); have n5_ := Aside0.mk (hi); clear HO_5; clear BK423; clear BK436; clear HB; clear HI426; have HO_5 := n0_; have BK423 := n1_; have BK436 := n2_; have HO441 := n3_; have HB := n4_; have HI426 := n5_; clear n0_ n1_ n2_ n3_ n4_ n5_; (try clear hb); (try clear hb2); (try clear hk); (try clear hi); (try clear ho0); obtain ⟨hcz21_0, hcz21_1, hcz21_2, hcz21_3, hcz21_4, hfz21_0, hfz21_1, hfz21_2, hfz21_3, hfz21_4⟩ := blk_facts5 BK436.out))
      go_roundg k1
      case measure => have := HK1.out; omega
      case rel => exact ⟨(t439), (wrap64 (x7_1 + 1)), (t447), (t442), (t443), (t444), (t445), (t446), (by first | rfl | (simp; done) | (simp [*]; done)), H', ⟨by have := HK1.out; omega⟩, ⟨by (with_reducible repeat (first | apply Kd.Q_alloc | apply Kd.Q_drewN | apply Kd.Q_drew)); exact Kd.Q_mono (Kd.Q_far (p := ⟨gb436, 4, none⟩) (Kd.Q_far (p := ⟨gb436, 3, none⟩) (Kd.Q_far (p := ⟨gb436, 2, none⟩) (Kd.Q_far (p := ⟨gb436, 1, none⟩) (Kd.Q_far (p := ⟨gb436, 0, none⟩) (Kd.Q_types HO441.out BK436.out (by decide)) (fun _ hk => hk.2) (.int .i64 t442)) (fun _ hk => hk.2) (.int .i64 t443)) (fun _ hk => hk.2) (.int .i64 t444)) (fun _ hk => hk.2) (.int .i64 t445)) (fun _ hk => hk.2) (.string t446)) (fun _ hk => trivial)⟩, ⟨by (with_reducible repeat (first | refine blk_drewN ?_ _ | refine blk_drew ?_ | refine blk_alloc ?_ _)); refine blk_far ?_ NB423_436.out _; (with_reducible repeat (first | refine blk_drewN ?_ _ | refine blk_drew ?_ | refine blk_alloc ?_ _)); refine blk_far ?_ NB423_436.out _; (with_reducible repeat (first | refine blk_drewN ?_ _ | refine blk_drew ?_ | refine blk_alloc ?_ _)); refine blk_far ?_ NB423_436.out _; (with_reducible repeat (first | refine blk_drewN ?_ _ | refine blk_drew ?_ | refine blk_alloc ?_ _)); refine blk_far ?_ NB423_436.out _; (with_reducible repeat (first | refine blk_drewN ?_ _ | refine blk_drew ?_ | refine blk_alloc ?_ _)); refine blk_far ?_ NB423_436.out _; (with_reducible repeat (first | refine blk_drewN ?_ _ | refine blk_drew ?_ | refine blk_alloc ?_ _)); exact BK423.out⟩, ⟨by (with_reducible repeat (first | refine blk_drewN ?_ _ | refine blk_drew ?_ | refine blk_alloc ?_ _)); refine blk_put (cs := #[.int .i64 t442, .int .i64 t443, .int .i64 t444, .int .i64 t445, .string x437004_1]) ?_ 4 _ rfl; (with_reducible repeat (first | refine blk_drewN ?_ _ | refine blk_drew ?_ | refine blk_alloc ?_ _)); refine blk_put (cs := #[.int .i64 t442, .int .i64 t443, .int .i64 t444, .int .i64 x437003_1, .string x437004_1]) ?_ 3 _ rfl; (with_reducible repeat (first | refine blk_drewN ?_ _ | refine blk_drew ?_ | refine blk_alloc ?_ _)); refine blk_put (cs := #[.int .i64 t442, .int .i64 t443, .int .i64 x437002_1, .int .i64 x437003_1, .string x437004_1]) ?_ 2 _ rfl; (with_reducible repeat (first | refine blk_drewN ?_ _ | refine blk_drew ?_ | refine blk_alloc ?_ _)); refine blk_put (cs := #[.int .i64 t442, .int .i64 x437001_1, .int .i64 x437002_1, .int .i64 x437003_1, .string x437004_1]) ?_ 1 _ rfl; (with_reducible repeat (first | refine blk_drewN ?_ _ | refine blk_drew ?_ | refine blk_alloc ?_ _)); refine blk_put (cs := #[.int .i64 x437000_1, .int .i64 x437001_1, .int .i64 x437002_1, .int .i64 x437003_1, .string x437004_1]) ?_ 0 _ rfl; (with_reducible repeat (first | refine blk_drewN ?_ _ | refine blk_drew ?_ | refine blk_alloc ?_ _)); exact BK436.out⟩, ⟨stA⟩, ⟨belowA⟩⟩
     ·rw [if_neg c14] at H
      have c14b0 : (x437000_1 == 2) = false := beq_eq_false_iff_ne.mpr c14
      have c14b1 : (x437000_1 != 2) = true := bne_iff_ne.mpr c14
      simp only [Option.some.injEq, Prod.mk.injEq] at H
      obtain ⟨rfl, rfl, rfl, rfl, rfl, rfl⟩ := H
      try go_wp2_with (first | (go_at_call 84; (with_reducible refine (spec_l6Rd_pick.calls k1 g426 t424 x427001_1 8 t437 t438 w _ ?side1 ?side2 A12.out).mono ?_); (case side1 => exact stA); (case side2 => exact belowA); rintro e w22 ⟨rfl, hi, hb, hk⟩; have n0_ := Aside0.mk (Kd.Q_mono (Kd.Q_keep (IsS113.apartQ (show IsS113 w _ g426 t424 x427001_1 from stA) (by (with_reducible repeat (first | apply Kd.Q_alloc | apply Kd.Q_drewN | apply Kd.Q_drew)); exact HO_5.out) (by decide)) hk (fun _ h => h.2)) (fun _ h => h.1)); have n1_ := Aside0.mk (KeepBut.blk hk (g' := gb423) (o := .cells #[.int .i64 0, .int .i64 0, .int .i64 0, .int .i64 0, .string (⟨#[]⟩ : ByteArray)] 40 (0, 0)) blkA NB423_426.out (by simp)); have n2_ := Aside0.mk (KeepBut.blk hk (g' := gb436) (o := .cells #[.int .i64 x437000_1, .int .i64 x437001_1, .int .i64 x437002_1, .int .i64 x437003_1, .string x437004_1] 40 (0, 0)) blkA NB436_426.out (by simp)); have n3_ := Aside0.mk (hb); have n4_ := Aside0.mk (hi); clear HO_5; clear BK423; clear BK436; clear HB; clear HI426; have HO_5 := n0_; have BK423 := n1_; have BK436 := n2_; have HB := n3_; have HI426 := n4_; clear n0_ n1_ n2_ n3_ n4_; (try clear hb); (try clear hb2); (try clear hk); (try clear hi); have hnb23 := NB436_423.out; have hnc23 := NB423_436.out; have hnb24 := NB436_426.out; have hnc24 := NB426_436.out; obtain ⟨hcz25_0, hcz25_1, hcz25_2, hcz25_3, hcz25_4, hfz25_0, hfz25_1, hfz25_2, hfz25_3, hfz25_4⟩ := blk_facts5 BK436.out))
      have n0_ := Aside0.mk (Kd.Q_drew HO_5.out)
      have n1_ := Aside0.mk (blk_drew BK423.out)
      have n2_ := Aside0.mk (blk_drew BK436.out)
      have n3_ := Aside0.mk (IsS113.drew HI426.out)
      have n4_ := Aside0.mk (below_drew1 HB.out)
      clear HO_5
      clear BK423
      clear BK436
      clear HI426
      clear HB
      have HO_5 := n0_
      have BK423 := n1_
      have BK436 := n2_
      have HI426 := n3_
      have HB := n4_
      clear n0_ n1_ n2_ n3_ n4_
      refine start_ (n := 4) (S := fun w' => w'.cell? ⟨gb436, 0, none⟩ = some (.int .i64 x437000_1) ∧ w'.cell? ⟨gb436, 1, none⟩ = some (.int .i64 x437001_1) ∧ w'.cell? ⟨gb436, 2, none⟩ = some (.int .i64 x437002_1) ∧ w'.cell? ⟨gb436, 3, none⟩ = some (.int .i64 x437003_1) ∧ w'.cell? ⟨gb436, 4, none⟩ = some (.string x437004_1)) (ds := []) #[false, false, false, false] (by kernel_rfl) rfl rfl ⟨(blk_cell BK436.out 0).trans rfl, (blk_cell BK436.out 1).trans rfl, (blk_cell BK436.out 2).trans rfl, (blk_cell BK436.out 3).trans rfl, (blk_cell BK436.out 4).trans rfl⟩ (fun hHeld => ?_)
      generalize w22.drew = w26 at HO_5 BK423 BK436 HI426 HB hHeld ⊢
      refine pure_ (i := 0) (N := some 34) #[true, false, false, false] rfl rfl (by kernel_rfl) (fun _ _ _ h => h) yldA putA ?_
      refine pure_ (i := 2) (N := some 2) #[true, false, true, false] rfl rfl (by kernel_rfl) (fun _ _ _ h => h) yldA putA ?_
      refine take_ (i := 1) (N := some 35) #[true, true, true, false] rfl rfl (by kernel_rfl) (fun _ _ _ h => h) (Or.inl ⟨by rfl, by rintro w' ⟨s0, s1, s2, s3, s4⟩; go_simp; with_reducible rfl⟩) hHeld putA ?_
      refine one_ (i := 3) (N := none) #[true, true, true, true] rfl rfl (by kernel_rfl) (by decide) (fun K hK => ?_)
      have hs27 : w26.cell? ⟨gb423, 0, none⟩ = some (.int .i64 0) := (blk_cell BK423.out 0).trans rfl
      have hfs27 := blk_frozen BK423.out 0
      have hns27_1 := NB436_423.out
      have hms27_1 := NB423_436.out
      have hs28 : w26.cell? ⟨gb423, 1, none⟩ = some (.int .i64 0) := (blk_cell BK423.out 1).trans rfl
      have hfs28 := blk_frozen BK423.out 1
      have hns28_1 := NB436_423.out
      have hms28_1 := NB423_436.out
      have hs29 : w26.cell? ⟨gb423, 2, none⟩ = some (.int .i64 0) := (blk_cell BK423.out 2).trans rfl
      have hfs29 := blk_frozen BK423.out 2
      have hns29_1 := NB436_423.out
      have hms29_1 := NB423_436.out
      have hs30 : w26.cell? ⟨gb423, 3, none⟩ = some (.int .i64 0) := (blk_cell BK423.out 3).trans rfl
      have hfs30 := blk_frozen BK423.out 3
      have hns30_1 := NB436_423.out
      have hms30_1 := NB423_436.out
      have hs31 : w26.cell? ⟨gb423, 4, none⟩ = some (.string (⟨#[]⟩ : ByteArray)) := (blk_cell BK423.out 4).trans rfl
      have hfs31 := blk_frozen BK423.out 4
      have hns31_1 := NB436_423.out
      have hms31_1 := NB423_436.out
      refine skip_ (w1 := ?_) (by rfl) rfl ?_ ?_
      rotate_left
      ·go_simp
       rfl
      refine hK.out _ _ ⟨((cell_far (p := ⟨gb423, _, none⟩) NB436_423.out _).trans (((cell_far (p := ⟨gb423, _, none⟩) NB436_423.out _).trans (((cell_far (p := ⟨gb423, _, none⟩) NB436_423.out _).trans (((cell_far (p := ⟨gb423, _, none⟩) NB436_423.out _).trans (((cell_far (p := ⟨gb423, _, none⟩) NB436_423.out _).trans (hHeld.1)))))))))), ((cell_far (p := ⟨gb423, _, none⟩) NB436_423.out _).trans (((cell_far (p := ⟨gb423, _, none⟩) NB436_423.out _).trans (((cell_far (p := ⟨gb423, _, none⟩) NB436_423.out _).trans (((cell_far (p := ⟨gb423, _, none⟩) NB436_423.out _).trans (((cell_far (p := ⟨gb423, _, none⟩) NB436_423.out _).trans (hHeld.2.1)))))))))), ((cell_far (p := ⟨gb423, _, none⟩) NB436_423.out _).trans (((cell_far (p := ⟨gb423, _, none⟩) NB436_423.out _).trans (((cell_far (p := ⟨gb423, _, none⟩) NB436_423.out _).trans (((cell_far (p := ⟨gb423, _, none⟩) NB436_423.out _).trans (((cell_far (p := ⟨gb423, _, none⟩) NB436_423.out _).trans (hHeld.2.2.1)))))))))), ((cell_far (p := ⟨gb423, _, none⟩) NB436_423.out _).trans (((cell_far (p := ⟨gb423, _, none⟩) NB436_423.out _).trans (((cell_far (p := ⟨gb423, _, none⟩) NB436_423.out _).trans (((cell_far (p := ⟨gb423, _, none⟩) NB436_423.out _).trans (((cell_far (p := ⟨gb423, _, none⟩) NB436_423.out _).trans (hHeld.2.2.2.1)))))))))), ((cell_far (p := ⟨gb423, _, none⟩) NB436_423.out _).trans (((cell_far (p := ⟨gb423, _, none⟩) NB436_423.out _).trans (((cell_far (p := ⟨gb423, _, none⟩) NB436_423.out _).trans (((cell_far (p := ⟨gb423, _, none⟩) NB436_423.out _).trans (((cell_far (p := ⟨gb423, _, none⟩) NB436_423.out _).trans (hHeld.2.2.2.2))))))))))⟩ (fun hHeld => ?_)
      clear hK K
      refine done_ (by kernel_rfl) ?_
      try go_wp2
      refine bodyPost_ret (results_tc rfl _ _ gb423 40 #[.int .i64 x437000_1, .int .i64 x437001_1, .int .i64 x437002_1, .int .i64 x437003_1, .string x437004_1] (0, 0) _ rfl (blk_put (blk_put (blk_put (blk_put (blk_put (blkC #[.int .i64 0, .int .i64 0, .int .i64 0, .int .i64 0, .string (⟨#[]⟩ : ByteArray)]) 0 _ rfl) 1 _ rfl) 2 _ rfl) 3 _ rfl) 4 _ rfl) Tryd.underlying40 rfl (by kernel_rfl)) rfl ?_
      exact ⟨_, endA, by (with_reducible repeat (first | apply Kd.Q_alloc | apply Kd.Q_drewN | apply Kd.Q_drew)); exact Kd.Q_mono (Kd.Q_far (p := ⟨gb423, 4, none⟩) (Kd.Q_far (p := ⟨gb423, 3, none⟩) (Kd.Q_far (p := ⟨gb423, 2, none⟩) (Kd.Q_far (p := ⟨gb423, 1, none⟩) (Kd.Q_far (p := ⟨gb423, 0, none⟩) (Kd.Q_types HO_5.out BK423.out (by decide)) (fun _ hk => hk.2) (.int .i64 x437000_1)) (fun _ hk => hk.2) (.int .i64 x437001_1)) (fun _ hk => hk.2) (.int .i64 x437002_1)) (fun _ hk => hk.2) (.int .i64 x437003_1)) (fun _ hk => hk.2) (.string x437004_1)) (fun _ hk => trivial), belowA⟩
    ·rw [if_neg c13] at H
     have c13b0 : decide (0 < t437) = false := decide_eq_false c13
     clear c13
     simp only [Option.some.injEq, Prod.mk.injEq] at H
     obtain ⟨rfl, rfl, rfl, rfl, rfl, rfl⟩ := H
     try go_wp2_with (first | (go_at_call 84; (with_reducible refine (spec_l6Rd_pick.calls k1 g426 t424 x427001_1 8 t437 t438 w _ ?side1 ?side2 A12.out).mono ?_); (case side1 => exact stA); (case side2 => exact belowA); rintro e w32 ⟨rfl, hi, hb, hk⟩; have n0_ := Aside0.mk (Kd.Q_mono (Kd.Q_keep (IsS113.apartQ (show IsS113 w _ g426 t424 x427001_1 from stA) (by (with_reducible repeat (first | apply Kd.Q_alloc | apply Kd.Q_drewN | apply Kd.Q_drew)); exact HO_5.out) (by decide)) hk (fun _ h => h.2)) (fun _ h => h.1)); have n1_ := Aside0.mk (KeepBut.blk hk (g' := gb423) (o := .cells #[.int .i64 0, .int .i64 0, .int .i64 0, .int .i64 0, .string (⟨#[]⟩ : ByteArray)] 40 (0, 0)) blkA NB423_426.out (by simp)); have n2_ := Aside0.mk (KeepBut.blk hk (g' := gb436) (o := .cells #[.int .i64 x437000_1, .int .i64 x437001_1, .int .i64 x437002_1, .int .i64 x437003_1, .string x437004_1] 40 (0, 0)) blkA NB436_426.out (by simp)); have n3_ := Aside0.mk (hb); have n4_ := Aside0.mk (hi); clear HO_5; clear BK423; clear BK436; clear HB; clear HI426; have HO_5 := n0_; have BK423 := n1_; have BK436 := n2_; have HB := n3_; have HI426 := n4_; clear n0_ n1_ n2_ n3_ n4_; (try clear hb); (try clear hb2); (try clear hk); (try clear hi)))
     have n0_ := Aside0.mk (Kd.Q_drew HO_5.out)
     have n1_ := Aside0.mk (blk_drew BK423.out)
     have n2_ := Aside0.mk (blk_drew BK436.out)
     have n3_ := Aside0.mk (IsS113.drew HI426.out)
     have n4_ := Aside0.mk (below_drew1 HB.out)
     clear HO_5
     clear BK423
     clear BK436
     clear HI426
     clear HB
     have HO_5 := n0_
     have BK423 := n1_
     have BK436 := n2_
     have HI426 := n3_
     have HB := n4_
     clear n0_ n1_ n2_ n3_ n4_
     refine start_ (n := 4) (S := fun w' => w'.cell? ⟨gb436, 0, none⟩ = some (.int .i64 x437000_1) ∧ w'.cell? ⟨gb436, 1, none⟩ = some (.int .i64 x437001_1) ∧ w'.cell? ⟨gb436, 2, none⟩ = some (.int .i64 x437002_1) ∧ w'.cell? ⟨gb436, 3, none⟩ = some (.int .i64 x437003_1) ∧ w'.cell? ⟨gb436, 4, none⟩ = some (.string x437004_1)) (ds := []) #[false, false, false, false] (by kernel_rfl) rfl rfl ⟨(blk_cell BK436.out 0).trans rfl, (blk_cell BK436.out 1).trans rfl, (blk_cell BK436.out 2).trans rfl, (blk_cell BK436.out 3).trans rfl, (blk_cell BK436.out 4).trans rfl⟩ (fun hHeld => ?_)
     generalize w32.drew = w33 at HO_5 BK423 BK436 HI426 HB hHeld ⊢
     refine pure_ (i := 0) (N := some 34) #[true, false, false, false] rfl rfl (by kernel_rfl) (fun _ _ _ h => h) yldA putA ?_
     refine pure_ (i := 2) (N := some 2) #[true, false, true, false] rfl rfl (by kernel_rfl) (fun _ _ _ h => h) yldA putA ?_
     refine take_ (i := 1) (N := some 35) #[true, true, true, false] rfl rfl (by kernel_rfl) (fun _ _ _ h => h) (Or.inl ⟨by rfl, by rintro w' ⟨s0, s1, s2, s3, s4⟩; go_simp; with_reducible rfl⟩) hHeld putA ?_
     refine one_ (i := 3) (N := none) #[true, true, true, true] rfl rfl (by kernel_rfl) (by decide) (fun K hK => ?_)
     have hs34 : w33.cell? ⟨gb423, 0, none⟩ = some (.int .i64 0) := (blk_cell BK423.out 0).trans rfl
     have hfs34 := blk_frozen BK423.out 0
     have hns34_1 := NB436_423.out
     have hms34_1 := NB423_436.out
     have hs35 : w33.cell? ⟨gb423, 1, none⟩ = some (.int .i64 0) := (blk_cell BK423.out 1).trans rfl
     have hfs35 := blk_frozen BK423.out 1
     have hns35_1 := NB436_423.out
     have hms35_1 := NB423_436.out
     have hs36 : w33.cell? ⟨gb423, 2, none⟩ = some (.int .i64 0) := (blk_cell BK423.out 2).trans rfl
     have hfs36 := blk_frozen BK423.out 2
     have hns36_1 := NB436_423.out
     have hms36_1 := NB423_436.out
     have hs37 : w33.cell? ⟨gb423, 3, none⟩ = some (.int .i64 0) := (blk_cell BK423.out 3).trans rfl
     have hfs37 := blk_frozen BK423.out 3
     have hns37_1 := NB436_423.out
     have hms37_1 := NB423_436.out
     have hs38 : w33.cell? ⟨gb423, 4, none⟩ = some (.string (⟨#[]⟩ : ByteArray)) := (blk_cell BK423.out 4).trans rfl
     have hfs38 := blk_frozen BK423.out 4
     have hns38_1 := NB436_423.out
     have hms38_1 := NB423_436.out
     refine skip_ (w1 := ?_) (by rfl) rfl ?_ ?_
     rotate_left
     ·go_simp
      rfl
     refine hK.out _ _ ⟨((cell_far (p := ⟨gb423, _, none⟩) NB436_423.out _).trans (((cell_far (p := ⟨gb423, _, none⟩) NB436_423.out _).trans (((cell_far (p := ⟨gb423, _, none⟩) NB436_423.out _).trans (((cell_far (p := ⟨gb423, _, none⟩) NB436_423.out _).trans (((cell_far (p := ⟨gb423, _, none⟩) NB436_423.out _).trans (hHeld.1)))))))))), ((cell_far (p := ⟨gb423, _, none⟩) NB436_423.out _).trans (((cell_far (p := ⟨gb423, _, none⟩) NB436_423.out _).trans (((cell_far (p := ⟨gb423, _, none⟩) NB436_423.out _).trans (((cell_far (p := ⟨gb423, _, none⟩) NB436_423.out _).trans (((cell_far (p := ⟨gb423, _, none⟩) NB436_423.out _).trans (hHeld.2.1)))))))))), ((cell_far (p := ⟨gb423, _, none⟩) NB436_423.out _).trans (((cell_far (p := ⟨gb423, _, none⟩) NB436_423.out _).trans (((cell_far (p := ⟨gb423, _, none⟩) NB436_423.out _).trans (((cell_far (p := ⟨gb423, _, none⟩) NB436_423.out _).trans (((cell_far (p := ⟨gb423, _, none⟩) NB436_423.out _).trans (hHeld.2.2.1)))))))))), ((cell_far (p := ⟨gb423, _, none⟩) NB436_423.out _).trans (((cell_far (p := ⟨gb423, _, none⟩) NB436_423.out _).trans (((cell_far (p := ⟨gb423, _, none⟩) NB436_423.out _).trans (((cell_far (p := ⟨gb423, _, none⟩) NB436_423.out _).trans (((cell_far (p := ⟨gb423, _, none⟩) NB436_423.out _).trans (hHeld.2.2.2.1)))))))))), ((cell_far (p := ⟨gb423, _, none⟩) NB436_423.out _).trans (((cell_far (p := ⟨gb423, _, none⟩) NB436_423.out _).trans (((cell_far (p := ⟨gb423, _, none⟩) NB436_423.out _).trans (((cell_far (p := ⟨gb423, _, none⟩) NB436_423.out _).trans (((cell_far (p := ⟨gb423, _, none⟩) NB436_423.out _).trans (hHeld.2.2.2.2))))))))))⟩ (fun hHeld => ?_)
     clear hK K
     refine done_ (by kernel_rfl) ?_
     try go_wp2
     refine bodyPost_ret (results_tc rfl _ _ gb423 40 #[.int .i64 x437000_1, .int .i64 x437001_1, .int .i64 x437002_1, .int .i64 x437003_1, .string x437004_1] (0, 0) _ rfl (blk_put (blk_put (blk_put (blk_put (blk_put (blkC #[.int .i64 0, .int .i64 0, .int .i64 0, .int .i64 0, .string (⟨#[]⟩ : ByteArray)]) 0 _ rfl) 1 _ rfl) 2 _ rfl) 3 _ rfl) 4 _ rfl) Tryd.underlying40 rfl (by kernel_rfl)) rfl ?_
     exact ⟨_, endA, by (with_reducible repeat (first | apply Kd.Q_alloc | apply Kd.Q_drewN | apply Kd.Q_drew)); exact Kd.Q_mono (Kd.Q_far (p := ⟨gb423, 4, none⟩) (Kd.Q_far (p := ⟨gb423, 3, none⟩) (Kd.Q_far (p := ⟨gb423, 2, none⟩) (Kd.Q_far (p := ⟨gb423, 1, none⟩) (Kd.Q_far (p := ⟨gb423, 0, none⟩) (Kd.Q_types HO_5.out BK423.out (by decide)) (fun _ hk => hk.2) (.int .i64 x437000_1)) (fun _ hk => hk.2) (.int .i64 x437001_1)) (fun _ hk => hk.2) (.int .i64 x437002_1)) (fun _ hk => hk.2) (.int .i64 x437003_1)) (fun _ hk => hk.2) (.string x437004_1)) (fun _ hk => trivial), belowA⟩
   ·rw [if_neg c11] at H
    have c11b0 : decide (x7_1 < 4) = false := decide_eq_false c11
    clear c11
    simp only [Option.some.injEq, Prod.mk.injEq] at H
    obtain ⟨rfl, rfl, rfl, rfl, rfl, rfl⟩ := H
    try go_wp2
    have n0_ := Aside0.mk (Kd.Q_drew HO_5.out)
    have n1_ := Aside0.mk (blk_drew BK423.out)
    have n2_ := Aside0.mk (blk_drew BK436.out)
    have n3_ := Aside0.mk (IsS113.drew HI426.out)
    have n4_ := Aside0.mk (below_drew1 HB.out)
    clear HO_5
    clear BK423
    clear BK436
    clear HI426
    clear HB
    have HO_5 := n0_
    have BK423 := n1_
    have BK436 := n2_
    have HI426 := n3_
    have HB := n4_
    clear n0_ n1_ n2_ n3_ n4_
    refine start_ (n := 4) (S := fun w' => w'.cell? ⟨gb436, 0, none⟩ = some (.int .i64 x437000_1) ∧ w'.cell? ⟨gb436, 1, none⟩ = some (.int .i64 x437001_1) ∧ w'.cell? ⟨gb436, 2, none⟩ = some (.int .i64 x437002_1) ∧ w'.cell? ⟨gb436, 3, none⟩ = some (.int .i64 x437003_1) ∧ w'.cell? ⟨gb436, 4, none⟩ = some (.string x437004_1)) (ds := []) #[false, false, false, false] (by kernel_rfl) rfl rfl ⟨(blk_cell BK436.out 0).trans rfl, (blk_cell BK436.out 1).trans rfl, (blk_cell BK436.out 2).trans rfl, (blk_cell BK436.out 3).trans rfl, (blk_cell BK436.out 4).trans rfl⟩ (fun hHeld => ?_)
    generalize wr.drew = w39 at HO_5 BK423 BK436 HI426 HB hHeld ⊢
    refine pure_ (i := 0) (N := some 34) #[true, false, false, false] rfl rfl (by kernel_rfl) (fun _ _ _ h => h) yldA putA ?_
    refine pure_ (i := 2) (N := some 2) #[true, false, true, false] rfl rfl (by kernel_rfl) (fun _ _ _ h => h) yldA putA ?_
    refine take_ (i := 1) (N := some 35) #[true, true, true, false] rfl rfl (by kernel_rfl) (fun _ _ _ h => h) (Or.inl ⟨by rfl, by rintro w' ⟨s0, s1, s2, s3, s4⟩; go_simp; with_reducible rfl⟩) hHeld putA ?_
    refine one_ (i := 3) (N := none) #[true, true, true, true] rfl rfl (by kernel_rfl) (by decide) (fun K hK => ?_)
    have hs40 : w39.cell? ⟨gb423, 0, none⟩ = some (.int .i64 0) := (blk_cell BK423.out 0).trans rfl
    have hfs40 := blk_frozen BK423.out 0
    have hns40_1 := NB436_423.out
    have hms40_1 := NB423_436.out
    have hs41 : w39.cell? ⟨gb423, 1, none⟩ = some (.int .i64 0) := (blk_cell BK423.out 1).trans rfl
    have hfs41 := blk_frozen BK423.out 1
    have hns41_1 := NB436_423.out
    have hms41_1 := NB423_436.out
    have hs42 : w39.cell? ⟨gb423, 2, none⟩ = some (.int .i64 0) := (blk_cell BK423.out 2).trans rfl
    have hfs42 := blk_frozen BK423.out 2
    have hns42_1 := NB436_423.out
    have hms42_1 := NB423_436.out
    have hs43 : w39.cell? ⟨gb423, 3, none⟩ = some (.int .i64 0) := (blk_cell BK423.out 3).trans rfl
    have hfs43 := blk_frozen BK423.out 3
    have hns43_1 := NB436_423.out
    have hms43_1 := NB423_436.out
    have hs44 : w39.cell? ⟨gb423, 4, none⟩ = some (.string (⟨#[]⟩ : ByteArray)) := (blk_cell BK423.out 4).trans rfl
    have hfs44 := blk_frozen BK423.out 4
    have hns44_1 := NB436_423.out
    have hms44_1 := NB423_436.out
    refine skip_ (w1 := ?_) (by rfl) rfl ?_ ?_
    rotate_left
    ·go_simp
     rfl
    refine hK.out _ _ ⟨((cell_far (p := ⟨gb423, _, none⟩) NB436_423.out _).trans (((cell_far (p := ⟨gb423, _, none⟩) NB436_423.out _).trans (((cell_far (p := ⟨gb423, _, none⟩) NB436_423.out _).trans (((cell_far (p := ⟨gb423, _, none⟩) NB436_423.out _).trans (((cell_far (p := ⟨gb423, _, none⟩) NB436_423.out _).trans (hHeld.1)))))))))), ((cell_far (p := ⟨gb423, _, none⟩) NB436_423.out _).trans (((cell_far (p := ⟨gb423, _, none⟩) NB436_423.out _).trans (((cell_far (p := ⟨gb423, _, none⟩) NB436_423.out _).trans (((cell_far (p := ⟨gb423, _, none⟩) NB436_423.out _).trans (((cell_far (p := ⟨gb423, _, none⟩) NB436_423.out _).trans (hHeld.2.1)))))))))), ((cell_far (p := ⟨gb423, _, none⟩) NB436_423.out _).trans (((cell_far (p := ⟨gb423, _, none⟩) NB436_423.out _).trans (((cell_far (p := ⟨gb423, _, none⟩) NB436_423.out _).trans (((cell_far (p := ⟨gb423, _, none⟩) NB436_423.out _).trans (((cell_far (p := ⟨gb423, _, none⟩) NB436_423.out _).trans (hHeld.2.2.1)))))))))), ((cell_far (p := ⟨gb423, _, none⟩) NB436_423.out _).trans (((cell_far (p := ⟨gb423, _, none⟩) NB436_423.out _).trans (((cell_far (p := ⟨gb423, _, none⟩) NB436_423.out _).trans (((cell_far (p := ⟨gb423, _, none⟩) NB436_423.out _).trans (((cell_far (p := ⟨gb423, _, none⟩) NB436_423.out _).trans (hHeld.2.2.2.1)))))))))), ((cell_far (p := ⟨gb423, _, none⟩) NB436_423.out _).trans (((cell_far (p := ⟨gb423, _, none⟩) NB436_423.out _).trans (((cell_far (p := ⟨gb423, _, none⟩) NB436_423.out _).trans (((cell_far (p := ⟨gb423, _, none⟩) NB436_423.out _).trans (((cell_far (p := ⟨gb423, _, none⟩) NB436_423.out _).trans (hHeld.2.2.2.2))))))))))⟩ (fun hHeld => ?_)
    clear hK K
    refine done_ (by kernel_rfl) ?_
    try go_wp2
    refine bodyPost_ret (results_tc rfl _ _ gb423 40 #[.int .i64 x437000_1, .int .i64 x437001_1, .int .i64 x437002_1, .int .i64 x437003_1, .string x437004_1] (0, 0) _ rfl (blk_put (blk_put (blk_put (blk_put (blk_put (blkC #[.int .i64 0, .int .i64 0, .int .i64 0, .int .i64 0, .string (⟨#[]⟩ : ByteArray)]) 0 _ rfl) 1 _ rfl) 2 _ rfl) 3 _ rfl) 4 _ rfl) Tryd.underlying40 rfl (by kernel_rfl)) rfl ?_
    exact ⟨_, endA, by (with_reducible repeat (first | apply Kd.Q_alloc | apply Kd.Q_drewN | apply Kd.Q_drew)); exact Kd.Q_mono (Kd.Q_far (p := ⟨gb423, 4, none⟩) (Kd.Q_far (p := ⟨gb423, 3, none⟩) (Kd.Q_far (p := ⟨gb423, 2, none⟩) (Kd.Q_far (p := ⟨gb423, 1, none⟩) (Kd.Q_far (p := ⟨gb423, 0, none⟩) (Kd.Q_types HO_5.out BK423.out (by decide)) (fun _ hk => hk.2) (.int .i64 x437000_1)) (fun _ hk => hk.2) (.int .i64 x437001_1)) (fun _ hk => hk.2) (.int .i64 x437002_1)) (fun _ hk => hk.2) (.int .i64 x437003_1)) (fun _ hk => hk.2) (.string x437004_1)) (fun _ hk => trivial), belowA⟩
end Go.Proofs.YtaajcbbbmpdcnaaDoor.P
