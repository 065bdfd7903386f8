
-- Written by wip/tools/pprint.py (a program of this session) over the kit's printer; not trusted: Lean checks it.
import Derived.Test.YtlpfjabfhgfpmaaDoorPx0
import Derived.Test.YtlpfjabfhgfpmaaDoorPx1
import Derived.Test.YtlpfjabfhgfpmaaDoorPx2
import Derived.Test.YtlpfjabfhgfpmaaDoorPx5
import Derived.Test.YtlpfjabfhgfpmaaDoorPx7
import Derived.Test.YtlpfjabfhgfpmaaDoorPx11
import Derived.Test.YtlpfjabfhgfpmaaDoorV
namespace Go.Proofs.YtlpfjabfhgfpmaaDoor.P
open Go.RowKit Go.Proofs.YtlpfjabfhgfpmaaDoorW.PrintWords Go.Proofs.YtlpfjabfhgfpmaaDoorW.PrintLast Go.Proofs.YtlpfjabfhgfpmaaDoorW.PrintMore
attribute [local go_sem] cell_set_set cell_set_far_set max2_int min2_int max_two min_two max_three min_three max_four min_four   -- for this text's walks alone
set_option linter.unusedVariables false
set_option linter.unusedSimpArgs false
attribute [local go_sem high] eqA26
def spec_DrawLogAdd.j0 : Nat → List Int → List (S26) → Bool → List Int → Int → Option ((List (S26)) × Int × Int × Int × Int × Int × Int × ByteArray)
 | 0, _, _, _, _, _ => none
 | k + 1, x0, x5, x18, x474000, x474001 => if x18 = true then ((spec_l6Rd_pick.f k x474000 x474001 (x5.length : Int)).bind fun bt480 => (if 0 ≤ bt480.1 then (if bt480.1 < (x5.length : Int) then (some (x5, (rd_T26 x5 bt480.1).f0, (rd_T26 x5 bt480.1).f1, (rd_T26 x5 bt480.1).f2.f0, (rd_T26 x5 bt480.1).f2.f1, (rd_T26 x5 bt480.1).f2.f2, (rd_T26 x5 bt480.1).f2.f3, (rd_T26 x5 bt480.1).f2.f4)) else (none)) else (none))) else ((spec_DrawEntryOk.f k x0).bind fun bt483 => ((spec_l6Rd_pick.f k x474000 x474001 6).bind fun bt491 => (if bt491.1 > 0 then ((spec_l12Seq.f k x5 bt483.1).bind fun t493 => (some (x5, bt483.1, wrap64 (t493 + 1), bt483.2.2.1, bt483.2.2.2.1, bt483.2.2.2.2.1, bt483.2.2.2.2.2.1, bt483.2.2.2.2.2.2))) else (some (x5, bt483.1, bt483.2.1, bt483.2.2.1, bt483.2.2.2.1, bt483.2.2.2.2.1, bt483.2.2.2.2.2.1, bt483.2.2.2.2.2.2)))))
def spec_DrawLogAdd.f (k : Nat) (l0 : List Int) : Option ((List (S26)) × Int × Int × Int × Int × Int × Int × ByteArray) := (spec_l6Open.f l0).bind fun bt471 => ((spec_l72Log.f k bt471.1 bt471.2).bind fun bt474 => (if (bt474.1.length : Int) > 0 then ((spec_l6Rd_pick.f k bt471.1 bt474.2 4).bind fun bt478 => (spec_DrawLogAdd.j0 k l0 bt474.1 (bt478.1 == 0) bt471.1 bt478.2)) else (spec_DrawLogAdd.j0 k l0 bt474.1 false bt471.1 bt474.2)))
theorem spec_DrawLogAdd.mono_l : ∀ k, (∀ y0 y1 y2 y3 y4, LeO (spec_DrawLogAdd.j0 k y0 y1 y2 y3 y4) (spec_DrawLogAdd.j0 (k + 1) y0 y1 y2 y3 y4))
 | 0 => fun _ _ _ _ _ r h => by simp [spec_DrawLogAdd.j0] at h
 | k + 1 => by
  have ih0 := spec_DrawLogAdd.mono_l k
  ·intro y0 y1 y2 y3 y4
   unfold spec_DrawLogAdd.j0
   repeat' first
   | (with_reducible exact ih0 _ _ _ _ _)
   | (with_reducible exact spec_DrawEntryOk.mono _ _)
   | (with_reducible exact spec_l12Seq.mono _ _ _)
   | (with_reducible exact spec_l6Rd_pick.mono _ _ _ _)
   | (with_reducible exact spec_l72Log.mono _ _ _)
   | (with_reducible exact LeO.refl _)
   | (with_reducible exact LeO.none _)
   | (with_reducible refine LeO.ite ?_ ?_)
   | (with_reducible refine LeO.bind ?_ (fun _ => ?_))
   | exact ih0 _ _ _ _ _
   | exact spec_DrawEntryOk.mono _ _
   | exact spec_l12Seq.mono _ _ _
   | exact spec_l6Rd_pick.mono _ _ _ _
   | exact spec_l72Log.mono _ _ _
   | exact LeO.none _
   | refine LeO.ite ?_ ?_
   | refine LeO.bind ?_ (fun _ => ?_)
theorem spec_DrawLogAdd.mono : ∀ a0 k, LeO (spec_DrawLogAdd.f k a0) (spec_DrawLogAdd.f (k + 1) a0) := by
 intro a0 k
 have ih0 := spec_DrawLogAdd.mono_l k
 unfold spec_DrawLogAdd.f
 repeat' first
   | (with_reducible exact ih0 _ _ _ _ _)
   | (with_reducible exact spec_DrawEntryOk.mono _ _)
   | (with_reducible exact spec_l12Seq.mono _ _ _)
   | (with_reducible exact spec_l6Rd_pick.mono _ _ _ _)
   | (with_reducible exact spec_l72Log.mono _ _ _)
   | (with_reducible exact LeO.refl _)
   | (with_reducible exact LeO.none _)
   | (with_reducible refine LeO.ite ?_ ?_)
   | (with_reducible refine LeO.bind ?_ (fun _ => ?_))
   | exact ih0 _ _ _ _ _
   | exact spec_DrawEntryOk.mono _ _
   | exact spec_l12Seq.mono _ _ _
   | exact spec_l6Rd_pick.mono _ _ _ _
   | exact spec_l72Log.mono _ _ _
   | exact LeO.none _
   | refine LeO.ite ?_ ?_
   | refine LeO.bind ?_ (fun _ => ?_)
def spec_DrawLogAdd.T4 : Bool × List (List Nat × List Nat) := (true, [([], []), ([], []), ([], []), ([], []), ([3], [3]), ([2, 4], [2, 4]), ([1, 5], [1, 5]), ([6], [6]), ([0, 5, 0], [0]), ([7, 8, 0, 1, 2, 3, 4, 5, 6, 7, 8], [7])])
def spec_DrawLogAdd.B4 : List Nat := [0, 0, 0, 0, 8, 28, 62, 126, 61, 511]
theorem spec_DrawLogAdd.tab4 : rtab .any (opsOf Tryd.f34 4) = spec_DrawLogAdd.T4 := by kernel_rfl
theorem spec_DrawLogAdd.bits4 : waitsOk spec_DrawLogAdd.T4.2 spec_DrawLogAdd.B4 = true := by kernel_rfl
set_option maxHeartbeats 8000000 in
set_option maxRecDepth 100000 in
theorem spec_DrawLogAdd.calls (k : Nat) (A0 : Option Addr) (c0 : Nat) (l0 : List Int) (r1 : List (S26)) (r2 : Int) (r3 : Int) (r4 : Int) (r5 : Int) (r6 : Int) (r7 : Int) (r8 : ByteArray) (w : World) (hr0 : Kd.C (Kd.int .u8) w A0 l0.length l0) (hc0 : l0.length ≤ c0) (h : spec_DrawLogAdd.f k l0 = some (r1, r2, r3, r4, r5, r6, r7, r8)) :
  Calls Tryd.prog 34 #[.slice A0 l0.length c0] w fun e w' => ∃ v0_ : Value, e = .returned (.tuple #[v0_, .agg #[.int .i64 r2, .int .i64 r3, .int .i64 r4, .int .i64 r5, .int .i64 r6, .int .i64 r7, .string r8]]) ∧ Kd.R k26 26 w' w.heap.size (fun _ => True) v0_ r1 ∧ Below w.heap.size w w' := by
 have hu26 := Tryd.underlying26
 have HR0 := Aside0.mk hr0
 have HC0 := Aside0.mk hc0
 clear hr0 hc0
 have HB := Aside0.mk (Below.refl w.heap.size w)
 have H : ((spec_l6Open.f l0).bind fun bt471 => ((spec_l72Log.f k bt471.1 bt471.2).bind fun bt474 => (if (bt474.1.length : Int) > 0 then ((spec_l6Rd_pick.f k bt471.1 bt474.2 4).bind fun bt478 => (spec_DrawLogAdd.j0 k l0 bt474.1 (bt478.1 == 0) bt471.1 bt478.2)) else (spec_DrawLogAdd.j0 k l0 bt474.1 false bt471.1 bt474.2)))) = some (r1, r2, r3, r4, r5, r6, r7, r8) := h
 clear h
 replace H := Option.bind_eq_some_iff.mp H
 obtain ⟨⟨t471, t472⟩, A20, H⟩ := H
 (try dsimp only at H)
 have A2 := Aside0.mk A20
 clear A20
 replace H := Option.bind_eq_some_iff.mp H
 obtain ⟨⟨t474, t477⟩, A30, H⟩ := H
 (try dsimp only at H)
 have A3 := Aside0.mk A30
 clear A30
 have HC4 := Aside0.mk H
 clear H
 go_enter Tryd.func34, Tryd.ntmps34
 go_upto_region 3 with (first | ((with_reducible refine gate_dst (N := 3) rfl ?_); refine box_event ?hg (N := 3) ?hd (cs := #[.int .i64 0, .int .i64 0, .int .i64 0, .int .i64 0, .int .i64 0, .int .i64 0, .string (⟨#[]⟩ : ByteArray)]) (t := 26) ?hr ?_; (case hd => rfl); (case hg => rfl); (case hr => first | (go_simp; done) | (go_simp; rfl)); intro gb470 hg w5 hbox hb; have n0_ := Aside0.mk (below_step belowA hb); have n1_ := Aside0.mk (hbox); have n2_ := Aside0.mk ((by rw [hg]; exact (below_size belowA) : w.heap.size ≤ gb470)); have n3_ := Aside0.mk ((by rw [hg]; exact (below_size belowA) : w.heap.size ≤ gb470)); clear HB; have HB := n0_; have BK470 := n1_; obtain ⟨hcq_0, hcq_1, hcq_2, hcq_3, hcq_4, hcq_5, hcq_6, hfq_0, hfq_1, hfq_2, hfq_3, hfq_4, hfq_5, hfq_6⟩ := blk_facts7 BK470.out; have GW470 := n2_; have GE470 := n3_; clear n0_ n1_ n2_ n3_; clear hb hbox hg) | ((with_reducible refine gate_callee (f := 37) rfl ?_); refine goesL_ (some 8) rfl rfl Tryd.func37 (by kernel_rfl) rfl #[.slice A0 l0.length c0] rfl argsA ?_; (with_reducible refine (spec_l6Open.calls _ _ l0 t471 t472 w _ ?side1 ?side2 ?side3 A2.out).mono ?_); (case side1 => exact belowA); (case side2 => exact HR0.out); (case side3 => exact HC0.out); rintro e w6 ⟨g473, rfl, hi, hb, hb2⟩; refine ⟨_, rfl, ?_⟩; have n0_ := Aside0.mk (blk_below (g := gb470) (o := .cells #[.int .i64 0, .int .i64 0, .int .i64 0, .int .i64 0, .int .i64 0, .int .i64 0, .string (⟨#[]⟩ : ByteArray)] 26 (0, 0)) blkA hb2); have n1_ := Aside0.mk (hb); have n2_ := Aside0.mk (hi); have n3_ := Aside0.mk (IsS80.ne_blk hi (blk_below (g := gb470) (o := .cells #[.int .i64 0, .int .i64 0, .int .i64 0, .int .i64 0, .int .i64 0, .int .i64 0, .string (⟨#[]⟩ : ByteArray)] 26 (0, 0)) blkA hb2) (by decide)); have n4_ := Aside0.mk (Ne.symm (IsS80.ne_blk hi (blk_below (g := gb470) (o := .cells #[.int .i64 0, .int .i64 0, .int .i64 0, .int .i64 0, .int .i64 0, .int .i64 0, .string (⟨#[]⟩ : ByteArray)] 26 (0, 0)) blkA hb2) (by decide))); clear BK470; clear HB; have BK470 := n0_; obtain ⟨hcq_0, hcq_1, hcq_2, hcq_3, hcq_4, hcq_5, hcq_6, hfq_0, hfq_1, hfq_2, hfq_3, hfq_4, hfq_5, hfq_6⟩ := blk_facts7 BK470.out; have HB := n1_; have HI473 := n2_; have NB473_470 := n3_; have NB470_473 := n4_; clear n0_ n1_ n2_ n3_ n4_; (try clear hb); (try clear hb2); (try clear hk); (try clear hi)) | ((with_reducible refine gate_callee (f := 54) rfl ?_); refine goesL_ (some 10) rfl rfl Tryd.func54 (by kernel_rfl) rfl #[.pointer (some ⟨g473, 0, none⟩)] rfl argsA ?_; (with_reducible refine (spec_l72Log.calls k g473 t471 t472 t474 t477 w _ ?side1 ?side2 A3.out).mono ?_); (case side1 => exact stA); (case side2 => exact belowA); rintro e w7 ⟨v475, rfl, ho0, hi, hb, hk⟩; refine ⟨_, rfl, ?_⟩; have n0_ := Aside0.mk (KeepBut.blk hk (g' := gb470) (o := .cells #[.int .i64 0, .int .i64 0, .int .i64 0, .int .i64 0, .int .i64 0, .int .i64 0, .string (⟨#[]⟩ : ByteArray)] 26 (0, 0)) blkA NB470_473.out (by simp)); have n1_ := Aside0.mk (Kd.R_lower (Kd.R_newB ho0 (g := gb470) (o := .cells #[.int .i64 0, .int .i64 0, .int .i64 0, .int .i64 0, .int .i64 0, .int .i64 0, .string (⟨#[]⟩ : ByteArray)] 26 (0, 0)) blkA) (below_size belowA)); have n2_ := Aside0.mk (hb); have n3_ := Aside0.mk (hi); clear BK470; clear HB; clear HI473; have BK470 := n0_; obtain ⟨hcq_0, hcq_1, hcq_2, hcq_3, hcq_4, hcq_5, hcq_6, hfq_0, hfq_1, hfq_2, hfq_3, hfq_4, hfq_5, hfq_6⟩ := blk_facts7 BK470.out; have HO476 := n1_; have HB := n2_; have HI473 := n3_; clear n0_ n1_ n2_ n3_; (try clear hb); (try clear hb2); (try clear hk); (try clear hi); (try clear ho0)))
 (try simp only [Act.put, List.setIfInBounds_toArray, List.set_cons_zero, List.set_cons_succ])
 go_cut [18] (fun v18 wc => ∃ (kq : Nat) (x18_3 : Bool) (x474001_3 : Int), v18 = .bool x18_3 ∧ Aside0 (spec_DrawLogAdd.j0 kq l0 t474 x18_3 t471 x474001_3 = some (r1, r2, r3, r4, r5, r6, r7, r8)) ∧ Aside0 (kq ≤ k) ∧ Aside0 (Kd.R k26 26 wc w.heap.size (fun k_ => k_ ≠ gb470) v475 t474) ∧ Aside0 (wc.heap[gb470]? = some (.cells #[.int .i64 0, .int .i64 0, .int .i64 0, .int .i64 0, .int .i64 0, .int .i64 0, .string (⟨#[]⟩ : ByteArray)] 26 (0, 0))) ∧ Aside0 (IsS80 w wc g473 t471 x474001_3) ∧ Aside0 (Below w.heap.size w wc))
 case first =>
  have H := HC4.out
  clear HC4
  by_cases c8 : (t474.length : Int) > 0
  ·rw [if_pos c8] at H
   have c8b0 : decide (0 < (t474.length : Int)) = true := decide_eq_true c8
   have c8b1 : decide (0 < t474.length) = true := decide_eq_true (by omega)
   clear c8
   (first | rw [c8b0] | (simp only [i64_w, i32_w]; rw [c8b0]) | skip)
   replace H := Option.bind_eq_some_iff.mp H
   obtain ⟨⟨t478, t479⟩, A90, H⟩ := H
   (try dsimp only at H)
   have A9 := Aside0.mk A90
   clear A90
   have H' := Aside0.mk H
   clear H
   obtain ⟨Ao10, co10, eo10⟩ := Kd.R_slice HO476.out
   subst eo10
   go_wp2_with (first | (go_at_call 38; (with_reducible refine (spec_l6Rd_pick.calls k g473 t471 t477 4 t478 t479 w _ ?side1 ?side2 A9.out).mono ?_); (case side1 => exact stA); (case side2 => exact belowA); rintro e w11 ⟨rfl, hi, hb, hk⟩; have n0_ := Aside0.mk (KeepBut.blk hk (g' := gb470) (o := .cells #[.int .i64 0, .int .i64 0, .int .i64 0, .int .i64 0, .int .i64 0, .int .i64 0, .string (⟨#[]⟩ : ByteArray)] 26 (0, 0)) blkA NB470_473.out (by simp)); have n1_ := Aside0.mk (Kd.R_mono (Kd.R_keep (IsS80.apart (show IsS80 w _ g473 t471 t477 from stA) (RA HO476) (by decide)) hk (fun _ h => h.2)) (fun _ h => h.1)); have n2_ := Aside0.mk (hb); have n3_ := Aside0.mk (hi); clear BK470; clear HO476; clear HB; clear HI473; have BK470 := n0_; obtain ⟨hcq_0, hcq_1, hcq_2, hcq_3, hcq_4, hcq_5, hcq_6, hfq_0, hfq_1, hfq_2, hfq_3, hfq_4, hfq_5, hfq_6⟩ := blk_facts7 BK470.out; have HO476 := n1_; have HB := n2_; have HI473 := n3_; clear n0_ n1_ n2_ n3_; (try clear hb); (try clear hb2); (try clear hk); (try clear hi)))
   go_meet
   case rel => exact ⟨_, ((t478 == 0)), (t479), (by first | rfl | (simp; done) | (simp [*]; done)), H', ⟨by first | omega | exact Nat.le_refl _⟩, ⟨by (with_reducible repeat (first | apply Kd.R_alloc | apply Kd.R_drewN | apply Kd.R_drew)); exact Kd.R_mono HO476.out (fun _ hk => hk.2)⟩, ⟨by (with_reducible repeat (first | refine blk_drewN ?_ _ | refine blk_drew ?_ | refine blk_alloc ?_ _)); exact BK470.out⟩, ⟨stA⟩, ⟨belowA⟩⟩
  ·rw [if_neg c8] at H
   have c8b0 : decide (0 < (t474.length : Int)) = false := decide_eq_false c8
   have c8b1 : decide (0 < t474.length) = false := decide_eq_false (by omega)
   clear c8
   (first | rw [c8b0] | (simp only [i64_w, i32_w]; rw [c8b0]) | skip)
   have H' := Aside0.mk H
   clear H
   obtain ⟨Ao12, co12, eo12⟩ := Kd.R_slice HO476.out
   subst eo12
   go_wp2
   go_meet
   case rel => exact ⟨_, (false), (t477), (by first | rfl | (simp; done) | (simp [*]; done)), H', ⟨by first | omega | exact Nat.le_refl _⟩, ⟨by (with_reducible repeat (first | apply Kd.R_alloc | apply Kd.R_drewN | apply Kd.R_drew)); exact Kd.R_mono HO476.out (fun _ hk => hk.2)⟩, ⟨by (with_reducible repeat (first | refine blk_drewN ?_ _ | refine blk_drew ?_ | refine blk_alloc ?_ _)); exact BK470.out⟩, ⟨stA⟩, ⟨belowA⟩⟩
 case rest =>
  clear HC4
  try clear p2
  try clear c3
  try clear c5
  try clear c8
  try clear c8b0
  try clear c8b1
  obtain ⟨kq, x18_3, x474001_3, rfl, HA, HJ3, HO_5, BK470, HI473, HB⟩ := hcut
  cases kq with
  | zero => exact absurd HA.out (by simp [spec_DrawLogAdd.j0])
  | succ kj3 =>
   have H := HA.out
   clear HA
   simp only [spec_DrawLogAdd.j0] at H
   by_cases c13 : x18_3 = true
   ·subst c13
    have H1 : ((spec_l6Rd_pick.f kj3 t471 x474001_3 (t474.length : Int)).bind fun bt480 => (if 0 ≤ bt480.1 then (if bt480.1 < (t474.length : Int) then (some (t474, (rd_T26 t474 bt480.1).f0, (rd_T26 t474 bt480.1).f1, (rd_T26 t474 bt480.1).f2.f0, (rd_T26 t474 bt480.1).f2.f1, (rd_T26 t474 bt480.1).f2.f2, (rd_T26 t474 bt480.1).f2.f3, (rd_T26 t474 bt480.1).f2.f4)) else (none)) else (none))) = some (r1, r2, r3, r4, r5, r6, r7, r8) := by rw [if_pos rfl] at H; exact H
    clear H
    have H := H1
    clear H1
    replace H := Option.bind_eq_some_iff.mp H
    obtain ⟨⟨t480, t481⟩, A140, H⟩ := H
    (try dsimp only at H)
    have A14 := Aside0.mk A140
    clear A140
    by_cases c15 : 0 ≤ t480
    ·rw [if_pos c15] at H
     have c15b0 : decide (0 ≤ t480) = true := decide_eq_true c15
     clear c15
     by_cases c16 : t480 < (t474.length : Int)
     ·rw [if_pos c16] at H
      have c16b0 : decide (t480 < (t474.length : Int)) = true := decide_eq_true c16
      clear c16
      simp only [Option.some.injEq, Prod.mk.injEq] at H
      obtain ⟨rfl, rfl, rfl, rfl, rfl, rfl, rfl, rfl⟩ := H
      try go_wp2
      have n0_ := Aside0.mk (Kd.R_drew HO_5.out)
      have n1_ := Aside0.mk (blk_drew BK470.out)
      have n2_ := Aside0.mk (IsS80.drew HI473.out)
      have n3_ := Aside0.mk (below_drew1 HB.out)
      clear HO_5
      clear BK470
      clear HI473
      clear HB
      have HO_5 := n0_
      have BK470 := n1_
      have HI473 := n2_
      have HB := n3_
      clear n0_ n1_ n2_ n3_
      obtain ⟨Ao18, co18, eo18⟩ := Kd.R_slice HO_5.out
      (first | subst eo18 | (injection eo18 with f1_ f2_ f3_; have f4_ := f1_.symm; have f5_ := f3_.symm; clear f1_ f2_ f3_; subst f4_; subst f5_))
      have p482 : 0 ≤ (t480 : Int) := of_decide_eq_true (by first | (with_reducible assumption) | assumption)
      have q482 : t480 < (t474.length : Int) := of_decide_eq_true (by first | (with_reducible assumption) | assumption)
      obtain ⟨ad482, e482, hx482_0, hx482_1, hx482_2, hx482_3, hx482_4, hx482_5, hx482_6⟩ := at_T26 (Kd.R_reads' HO_5.out).2.2 t480 p482 q482
      cases e482
      replace p482 := eq_true p482
      replace q482 := eq_true q482
      refine start_ (n := 10) (S := fun w' => w'.cell? (ad482.add ((t480).toNat * 7)) = some (.int .i64 ((rd_T26 t474 t480).f0)) ∧ w'.cell? ⟨(ad482.add ((t480).toNat * 7)).block, (ad482.add ((t480).toNat * 7)).off + 1, none⟩ = some (.int .i64 ((rd_T26 t474 t480).f1)) ∧ w'.cell? ⟨(ad482.add ((t480).toNat * 7)).block, (ad482.add ((t480).toNat * 7)).off + 2, none⟩ = some (.int .i64 ((rd_T26 t474 t480).f2.f0)) ∧ w'.cell? ⟨(ad482.add ((t480).toNat * 7)).block, (ad482.add ((t480).toNat * 7)).off + 3, none⟩ = some (.int .i64 ((rd_T26 t474 t480).f2.f1)) ∧ w'.cell? ⟨(ad482.add ((t480).toNat * 7)).block, (ad482.add ((t480).toNat * 7)).off + 4, none⟩ = some (.int .i64 ((rd_T26 t474 t480).f2.f2)) ∧ w'.cell? ⟨(ad482.add ((t480).toNat * 7)).block, (ad482.add ((t480).toNat * 7)).off + 5, none⟩ = some (.int .i64 ((rd_T26 t474 t480).f2.f3)) ∧ w'.cell? ⟨(ad482.add ((t480).toNat * 7)).block, (ad482.add ((t480).toNat * 7)).off + 6, none⟩ = some (.string ((rd_T26 t474 t480).f2.f4))) (ds := []) (tf 0 10) (by kernel_rfl) rfl rfl ⟨hx482_0, hx482_1, hx482_2, hx482_3, hx482_4, hx482_5, hx482_6⟩ (fun hHeld => ?_); refine with_tabW spec_DrawLogAdd.tab4 spec_DrawLogAdd.bits4 (fun HT_ HW_ => ?_)
      generalize wc.drew = w17 at HO_5 BK470 HI473 HB hx482_0 hx482_1 hx482_2 hx482_3 hx482_4 hx482_5 hx482_6 hHeld ⊢
      refine pure_ (i := 0) (N := some 19) (tf 1 9) rfl rfl (anA HT_) (fun _ _ _ h => h) yldA putA ?_
      refine pure_ (i := 1) (N := some 20) (tf 2 8) rfl rfl (anA HT_) (fun _ _ _ h => h) yldA putA ?_
      refine pure_ (i := 2) (N := some 21) (tf 3 7) rfl rfl (anA HT_) (fun _ _ _ h => h) yldA putA ?_
      refine pure_ (i := 3) (N := some 22) (tf 4 6) rfl rfl (anA HT_) (fun _ _ _ h => h) yldA putA ?_
      refine pure_ (i := 4) (N := some 23) (tf 5 5) rfl rfl (anA HT_) (fun _ _ _ h => h) yldA putA ?_
      refine one_ (i := 5) (N := some 24) (tf 6 4) rfl rfl (one_of HT_.out (by kernel_rfl)) (by decide) (fun K hK => ?_)
      refine goes_ Tryd.func38 (by kernel_rfl) rfl #[.pointer (some ⟨g473, 0, none⟩), .int .i64 (t474.length : Int)] (by rfl) rfl rfl argsA ?_
      with_reducible refine (spec_l6Rd_pick.calls kj3 g473 t471 x474001_3 (t474.length : Int) t480 t481 w _ ?side1 ?side2 A14.out).mono ?_
      (case side1 => exact stA)
      (case side2 => exact belowA)
      rintro e w19 ⟨rfl, hi, hb, hk⟩
      have HS0_ := keep_cell hk (hHeld.1) (by first | (rw [add_block]; exact Kd.own_blk (IsS80.own_ne HI473.out HO_5.out (by decide))) | (show (Addr.add _ _).block ≠ _; rw [add_block]; exact Kd.own_blk (IsS80.own_ne HI473.out HO_5.out (by decide))) | exact Kd.own_blk (IsS80.own_ne HI473.out HO_5.out (by decide)))
      have HS1_ := keep_cell hk (hHeld.2.1) (by first | (rw [add_block]; exact Kd.own_blk (IsS80.own_ne HI473.out HO_5.out (by decide))) | (show (Addr.add _ _).block ≠ _; rw [add_block]; exact Kd.own_blk (IsS80.own_ne HI473.out HO_5.out (by decide))) | exact Kd.own_blk (IsS80.own_ne HI473.out HO_5.out (by decide)))
      have HS2_ := keep_cell hk (hHeld.2.2.1) (by first | (rw [add_block]; exact Kd.own_blk (IsS80.own_ne HI473.out HO_5.out (by decide))) | (show (Addr.add _ _).block ≠ _; rw [add_block]; exact Kd.own_blk (IsS80.own_ne HI473.out HO_5.out (by decide))) | exact Kd.own_blk (IsS80.own_ne HI473.out HO_5.out (by decide)))
      have HS3_ := keep_cell hk (hHeld.2.2.2.1) (by first | (rw [add_block]; exact Kd.own_blk (IsS80.own_ne HI473.out HO_5.out (by decide))) | (show (Addr.add _ _).block ≠ _; rw [add_block]; exact Kd.own_blk (IsS80.own_ne HI473.out HO_5.out (by decide))) | exact Kd.own_blk (IsS80.own_ne HI473.out HO_5.out (by decide)))
      have HS4_ := keep_cell hk (hHeld.2.2.2.2.1) (by first | (rw [add_block]; exact Kd.own_blk (IsS80.own_ne HI473.out HO_5.out (by decide))) | (show (Addr.add _ _).block ≠ _; rw [add_block]; exact Kd.own_blk (IsS80.own_ne HI473.out HO_5.out (by decide))) | exact Kd.own_blk (IsS80.own_ne HI473.out HO_5.out (by decide)))
      have HS5_ := keep_cell hk (hHeld.2.2.2.2.2.1) (by first | (rw [add_block]; exact Kd.own_blk (IsS80.own_ne HI473.out HO_5.out (by decide))) | (show (Addr.add _ _).block ≠ _; rw [add_block]; exact Kd.own_blk (IsS80.own_ne HI473.out HO_5.out (by decide))) | exact Kd.own_blk (IsS80.own_ne HI473.out HO_5.out (by decide)))
      have HS6_ := keep_cell hk (hHeld.2.2.2.2.2.2) (by first | (rw [add_block]; exact Kd.own_blk (IsS80.own_ne HI473.out HO_5.out (by decide))) | (show (Addr.add _ _).block ≠ _; rw [add_block]; exact Kd.own_blk (IsS80.own_ne HI473.out HO_5.out (by decide))) | exact Kd.own_blk (IsS80.own_ne HI473.out HO_5.out (by decide)))
      refine ⟨_, rfl, ?_⟩
      have n0_ := Aside0.mk (Kd.R_mono (Kd.R_keep (IsS80.apart (show IsS80 w _ g473 t471 x474001_3 from stA) (RA HO_5) (by decide)) hk (fun _ h => h.2)) (fun _ h => h.1))
      have n1_ := Aside0.mk (KeepBut.blk hk (g' := gb470) (o := .cells #[.int .i64 0, .int .i64 0, .int .i64 0, .int .i64 0, .int .i64 0, .int .i64 0, .string (⟨#[]⟩ : ByteArray)] 26 (0, 0)) blkA NB470_473.out (by simp))
      have n2_ := Aside0.mk (hb)
      have n3_ := Aside0.mk (hi)
      clear HO_5
      clear BK470
      clear HB
      clear HI473
      have HO_5 := n0_
      have BK470 := n1_
      have HB := n2_
      have HI473 := n3_
      clear n0_ n1_ n2_ n3_
      (try clear hb)
      (try clear hb2)
      (try clear hk)
      (try clear hi)
      refine hK.out _ _ ⟨HS0_, HS1_, HS2_, HS3_, HS4_, HS5_, HS6_⟩ (fun hHeld => ?_)
      clear hK K
      refine norm_ (a' := ?_) ?_ ?_
      rotate_left
      ·show Act.put _ (some 24) _ = _
       simp only [Act.put, List.setIfInBounds_toArray, List.set_cons_zero, List.set_cons_succ, i64_w, i32_w]
       rfl
      refine pure_ (i := 6) (N := some 25) (tf 7 3) rfl rfl (anA HT_) (fun _ _ _ h => h) yldA putA ?_
      refine pure_ (i := 8) (N := some 2) #[true, true, true, true, true, true, true, false, true, false] rfl rfl (anA HT_) (fun _ _ _ h => h) yldA putA ?_
      refine take_ (i := 7) (N := some 26) (tf 9 1) rfl rfl (take_ofW HT_.out HW_.out (by kernel_rfl)) (fun _ _ _ h => h) (Or.inl ⟨by rfl, by rintro w' ⟨s0, s1, s2, s3, s4, s5, s6⟩; go_simp; with_reducible rfl⟩) hHeld putA ?_
      refine one_ (i := 9) (N := none) (tf 10 0) rfl rfl (one_of HT_.out (by kernel_rfl)) (by decide) (fun K hK => ?_)
      have hs20 : w19.cell? ⟨gb470, 0, none⟩ = some (.int .i64 0) := (blk_cell BK470.out 0).trans rfl
      have hfs20 := blk_frozen BK470.out 0
      have hs21 : w19.cell? ⟨gb470, 1, none⟩ = some (.int .i64 0) := (blk_cell BK470.out 1).trans rfl
      have hfs21 := blk_frozen BK470.out 1
      have hs22 : w19.cell? ⟨gb470, 2, none⟩ = some (.int .i64 0) := (blk_cell BK470.out 2).trans rfl
      have hfs22 := blk_frozen BK470.out 2
      have hs23 : w19.cell? ⟨gb470, 3, none⟩ = some (.int .i64 0) := (blk_cell BK470.out 3).trans rfl
      have hfs23 := blk_frozen BK470.out 3
      have hs24 : w19.cell? ⟨gb470, 4, none⟩ = some (.int .i64 0) := (blk_cell BK470.out 4).trans rfl
      have hfs24 := blk_frozen BK470.out 4
      have hs25 : w19.cell? ⟨gb470, 5, none⟩ = some (.int .i64 0) := (blk_cell BK470.out 5).trans rfl
      have hfs25 := blk_frozen BK470.out 5
      have hs26 : w19.cell? ⟨gb470, 6, none⟩ = some (.string (⟨#[]⟩ : ByteArray)) := (blk_cell BK470.out 6).trans rfl
      have hfs26 := blk_frozen BK470.out 6
      refine skip_ (w1 := ?_) (by rfl) rfl ?_ ?_
      rotate_left
      ·go_simp
       rfl
      refine hK.out _ _ ⟨((cell_far (p := ⟨gb470, _, none⟩) (by first | exact Kd.own_blk (Kd.R_away HO_5.out (fun _ hk => hk)) | (rw [add_block]; exact Kd.own_blk (Kd.R_away HO_5.out (fun _ hk => hk))) | (show (Addr.add _ _).block ≠ _; rw [add_block]; exact Kd.own_blk (Kd.R_away HO_5.out (fun _ hk => hk))) | (dsimp only; exact Kd.own_blk (Kd.R_away HO_5.out (fun _ hk => hk)))) _).trans (((cell_far (p := ⟨gb470, _, none⟩) (by first | exact Kd.own_blk (Kd.R_away HO_5.out (fun _ hk => hk)) | (rw [add_block]; exact Kd.own_blk (Kd.R_away HO_5.out (fun _ hk => hk))) | (show (Addr.add _ _).block ≠ _; rw [add_block]; exact Kd.own_blk (Kd.R_away HO_5.out (fun _ hk => hk))) | (dsimp only; exact Kd.own_blk (Kd.R_away HO_5.out (fun _ hk => hk)))) _).trans (((cell_far (p := ⟨gb470, _, none⟩) (by first | exact Kd.own_blk (Kd.R_away HO_5.out (fun _ hk => hk)) | (rw [add_block]; exact Kd.own_blk (Kd.R_away HO_5.out (fun _ hk => hk))) | (show (Addr.add _ _).block ≠ _; rw [add_block]; exact Kd.own_blk (Kd.R_away HO_5.out (fun _ hk => hk))) | (dsimp only; exact Kd.own_blk (Kd.R_away HO_5.out (fun _ hk => hk)))) _).trans (((cell_far (p := ⟨gb470, _, none⟩) (by first | exact Kd.own_blk (Kd.R_away HO_5.out (fun _ hk => hk)) | (rw [add_block]; exact Kd.own_blk (Kd.R_away HO_5.out (fun _ hk => hk))) | (show (Addr.add _ _).block ≠ _; rw [add_block]; exact Kd.own_blk (Kd.R_away HO_5.out (fun _ hk => hk))) | (dsimp only; exact Kd.own_blk (Kd.R_away HO_5.out (fun _ hk => hk)))) _).trans (((cell_far (p := ⟨gb470, _, none⟩) (by first | exact Kd.own_blk (Kd.R_away HO_5.out (fun _ hk => hk)) | (rw [add_block]; exact Kd.own_blk (Kd.R_away HO_5.out (fun _ hk => hk))) | (show (Addr.add _ _).block ≠ _; rw [add_block]; exact Kd.own_blk (Kd.R_away HO_5.out (fun _ hk => hk))) | (dsimp only; exact Kd.own_blk (Kd.R_away HO_5.out (fun _ hk => hk)))) _).trans (((cell_far (p := ⟨gb470, _, none⟩) (by first | exact Kd.own_blk (Kd.R_away HO_5.out (fun _ hk => hk)) | (rw [add_block]; exact Kd.own_blk (Kd.R_away HO_5.out (fun _ hk => hk))) | (show (Addr.add _ _).block ≠ _; rw [add_block]; exact Kd.own_blk (Kd.R_away HO_5.out (fun _ hk => hk))) | (dsimp only; exact Kd.own_blk (Kd.R_away HO_5.out (fun _ hk => hk)))) _).trans (((cell_far (p := ⟨gb470, _, none⟩) (by first | exact Kd.own_blk (Kd.R_away HO_5.out (fun _ hk => hk)) | (rw [add_block]; exact Kd.own_blk (Kd.R_away HO_5.out (fun _ hk => hk))) | (show (Addr.add _ _).block ≠ _; rw [add_block]; exact Kd.own_blk (Kd.R_away HO_5.out (fun _ hk => hk))) | (dsimp only; exact Kd.own_blk (Kd.R_away HO_5.out (fun _ hk => hk)))) _).trans (hHeld.1)))))))))))))), ((cell_far (p := ⟨gb470, _, none⟩) (by first | exact Kd.own_blk (Kd.R_away HO_5.out (fun _ hk => hk)) | (rw [add_block]; exact Kd.own_blk (Kd.R_away HO_5.out (fun _ hk => hk))) | (show (Addr.add _ _).block ≠ _; rw [add_block]; exact Kd.own_blk (Kd.R_away HO_5.out (fun _ hk => hk))) | (dsimp only; exact Kd.own_blk (Kd.R_away HO_5.out (fun _ hk => hk)))) _).trans (((cell_far (p := ⟨gb470, _, none⟩) (by first | exact Kd.own_blk (Kd.R_away HO_5.out (fun _ hk => hk)) | (rw [add_block]; exact Kd.own_blk (Kd.R_away HO_5.out (fun _ hk => hk))) | (show (Addr.add _ _).block ≠ _; rw [add_block]; exact Kd.own_blk (Kd.R_away HO_5.out (fun _ hk => hk))) | (dsimp only; exact Kd.own_blk (Kd.R_away HO_5.out (fun _ hk => hk)))) _).trans (((cell_far (p := ⟨gb470, _, none⟩) (by first | exact Kd.own_blk (Kd.R_away HO_5.out (fun _ hk => hk)) | (rw [add_block]; exact Kd.own_blk (Kd.R_away HO_5.out (fun _ hk => hk))) | (show (Addr.add _ _).block ≠ _; rw [add_block]; exact Kd.own_blk (Kd.R_away HO_5.out (fun _ hk => hk))) | (dsimp only; exact Kd.own_blk (Kd.R_away HO_5.out (fun _ hk => hk)))) _).trans (((cell_far (p := ⟨gb470, _, none⟩) (by first | exact Kd.own_blk (Kd.R_away HO_5.out (fun _ hk => hk)) | (rw [add_block]; exact Kd.own_blk (Kd.R_away HO_5.out (fun _ hk => hk))) | (show (Addr.add _ _).block ≠ _; rw [add_block]; exact Kd.own_blk (Kd.R_away HO_5.out (fun _ hk => hk))) | (dsimp only; exact Kd.own_blk (Kd.R_away HO_5.out (fun _ hk => hk)))) _).trans (((cell_far (p := ⟨gb470, _, none⟩) (by first | exact Kd.own_blk (Kd.R_away HO_5.out (fun _ hk => hk)) | (rw [add_block]; exact Kd.own_blk (Kd.R_away HO_5.out (fun _ hk => hk))) | (show (Addr.add _ _).block ≠ _; rw [add_block]; exact Kd.own_blk (Kd.R_away HO_5.out (fun _ hk => hk))) | (dsimp only; exact Kd.own_blk (Kd.R_away HO_5.out (fun _ hk => hk)))) _).trans (((cell_far (p := ⟨gb470, _, none⟩) (by first | exact Kd.own_blk (Kd.R_away HO_5.out (fun _ hk => hk)) | (rw [add_block]; exact Kd.own_blk (Kd.R_away HO_5.out (fun _ hk => hk))) | (show (Addr.add _ _).block ≠ _; rw [add_block]; exact Kd.own_blk (Kd.R_away HO_5.out (fun _ hk => hk))) | (dsimp only; exact Kd.own_blk (Kd.R_away HO_5.out (fun _ hk => hk)))) _).trans (((cell_far (p := ⟨gb470, _, none⟩) (by first | exact Kd.own_blk (Kd.R_away HO_5.out (fun _ hk => hk)) | (rw [add_block]; exact Kd.own_blk (Kd.R_away HO_5.out (fun _ hk => hk))) | (show (Addr.add _ _).block ≠ _; rw [add_block]; exact Kd.own_blk (Kd.R_away HO_5.out (fun _ hk => hk))) | (dsimp only; exact Kd.own_blk (Kd.R_away HO_5.out (fun _ hk => hk)))) _).trans (hHeld.2.1)))))))))))))), ((cell_far (p := ⟨gb470, _, none⟩) (by first | exact Kd.own_blk (Kd.R_away HO_5.out (fun _ hk => hk)) | (rw [add_block]; exact Kd.own_blk (Kd.R_away HO_5.out (fun _ hk => hk))) | (show (Addr.add _ _).block ≠ _; rw [add_block]; exact Kd.own_blk (Kd.R_away HO_5.out (fun _ hk => hk))) | (dsimp only; exact Kd.own_blk (Kd.R_away HO_5.out (fun _ hk => hk)))) _).trans (((cell_far (p := ⟨gb470, _, none⟩) (by first | exact Kd.own_blk (Kd.R_away HO_5.out (fun _ hk => hk)) | (rw [add_block]; exact Kd.own_blk (Kd.R_away HO_5.out (fun _ hk => hk))) | (show (Addr.add _ _).block ≠ _; rw [add_block]; exact Kd.own_blk (Kd.R_away HO_5.out (fun _ hk => hk))) | (dsimp only; exact Kd.own_blk (Kd.R_away HO_5.out (fun _ hk => hk)))) _).trans (((cell_far (p := ⟨gb470, _, none⟩) (by first | exact Kd.own_blk (Kd.R_away HO_5.out (fun _ hk => hk)) | (rw [add_block]; exact Kd.own_blk (Kd.R_away HO_5.out (fun _ hk => hk))) | (show (Addr.add _ _).block ≠ _; rw [add_block]; exact Kd.own_blk (Kd.R_away HO_5.out (fun _ hk => hk))) | (dsimp only; exact Kd.own_blk (Kd.R_away HO_5.out (fun _ hk => hk)))) _).trans (((cell_far (p := ⟨gb470, _, none⟩) (by first | exact Kd.own_blk (Kd.R_away HO_5.out (fun _ hk => hk)) | (rw [add_block]; exact Kd.own_blk (Kd.R_away HO_5.out (fun _ hk => hk))) | (show (Addr.add _ _).block ≠ _; rw [add_block]; exact Kd.own_blk (Kd.R_away HO_5.out (fun _ hk => hk))) | (dsimp only; exact Kd.own_blk (Kd.R_away HO_5.out (fun _ hk => hk)))) _).trans (((cell_far (p := ⟨gb470, _, none⟩) (by first | exact Kd.own_blk (Kd.R_away HO_5.out (fun _ hk => hk)) | (rw [add_block]; exact Kd.own_blk (Kd.R_away HO_5.out (fun _ hk => hk))) | (show (Addr.add _ _).block ≠ _; rw [add_block]; exact Kd.own_blk (Kd.R_away HO_5.out (fun _ hk => hk))) | (dsimp only; exact Kd.own_blk (Kd.R_away HO_5.out (fun _ hk => hk)))) _).trans (((cell_far (p := ⟨gb470, _, none⟩) (by first | exact Kd.own_blk (Kd.R_away HO_5.out (fun _ hk => hk)) | (rw [add_block]; exact Kd.own_blk (Kd.R_away HO_5.out (fun _ hk => hk))) | (show (Addr.add _ _).block ≠ _; rw [add_block]; exact Kd.own_blk (Kd.R_away HO_5.out (fun _ hk => hk))) | (dsimp only; exact Kd.own_blk (Kd.R_away HO_5.out (fun _ hk => hk)))) _).trans (((cell_far (p := ⟨gb470, _, none⟩) (by first | exact Kd.own_blk (Kd.R_away HO_5.out (fun _ hk => hk)) | (rw [add_block]; exact Kd.own_blk (Kd.R_away HO_5.out (fun _ hk => hk))) | (show (Addr.add _ _).block ≠ _; rw [add_block]; exact Kd.own_blk (Kd.R_away HO_5.out (fun _ hk => hk))) | (dsimp only; exact Kd.own_blk (Kd.R_away HO_5.out (fun _ hk => hk)))) _).trans (hHeld.2.2.1)))))))))))))), ((cell_far (p := ⟨gb470, _, none⟩) (by first | exact Kd.own_blk (Kd.R_away HO_5.out (fun _ hk => hk)) | (rw [add_block]; exact Kd.own_blk (Kd.R_away HO_5.out (fun _ hk => hk))) | (show (Addr.add _ _).block ≠ _; rw [add_block]; exact Kd.own_blk (Kd.R_away HO_5.out (fun _ hk => hk))) | (dsimp only; exact Kd.own_blk (Kd.R_away HO_5.out (fun _ hk => hk)))) _).trans (((cell_far (p := ⟨gb470, _, none⟩) (by first | exact Kd.own_blk (Kd.R_away HO_5.out (fun _ hk => hk)) | (rw [add_block]; exact Kd.own_blk (Kd.R_away HO_5.out (fun _ hk => hk))) | (show (Addr.add _ _).block ≠ _; rw [add_block]; exact Kd.own_blk (Kd.R_away HO_5.out (fun _ hk => hk))) | (dsimp only; exact Kd.own_blk (Kd.R_away HO_5.out (fun _ hk => hk)))) _).trans (((cell_far (p := ⟨gb470, _, none⟩) (by first | exact Kd.own_blk (Kd.R_away HO_5.out (fun _ hk => hk)) | (rw [add_block]; exact Kd.own_blk (Kd.R_away HO_5.out (fun _ hk => hk))) | (show (Addr.add _ _).block ≠ _; rw [add_block]; exact Kd.own_blk (Kd.R_away HO_5.out (fun _ hk => hk))) | (dsimp only; exact Kd.own_blk (Kd.R_away HO_5.out (fun _ hk => hk)))) _).trans (((cell_far (p := ⟨gb470, _, none⟩) (by first | exact Kd.own_blk (Kd.R_away HO_5.out (fun _ hk => hk)) | (rw [add_block]; exact Kd.own_blk (Kd.R_away HO_5.out (fun _ hk => hk))) | (show (Addr.add _ _).block ≠ _; rw [add_block]; exact Kd.own_blk (Kd.R_away HO_5.out (fun _ hk => hk))) | (dsimp only; exact Kd.own_blk (Kd.R_away HO_5.out (fun _ hk => hk)))) _).trans (((cell_far (p := ⟨gb470, _, none⟩) (by first | exact Kd.own_blk (Kd.R_away HO_5.out (fun _ hk => hk)) | (rw [add_block]; exact Kd.own_blk (Kd.R_away HO_5.out (fun _ hk => hk))) | (show (Addr.add _ _).block ≠ _; rw [add_block]; exact Kd.own_blk (Kd.R_away HO_5.out (fun _ hk => hk))) | (dsimp only; exact Kd.own_blk (Kd.R_away HO_5.out (fun _ hk => hk)))) _).trans (((cell_far (p := ⟨gb470, _, none⟩) (by first | exact Kd.own_blk (Kd.R_away HO_5.out (fun _ hk => hk)) | (rw [add_block]; exact Kd.own_blk (Kd.R_away HO_5.out (fun _ hk => hk))) | (show (Addr.add _ _).block ≠ _; rw [add_block]; exact Kd.own_blk (Kd.R_away HO_5.out (fun _ hk => hk))) | (dsimp only; exact Kd.own_blk (Kd.R_away HO_5.out (fun _ hk => hk)))) _).trans (((cell_far (p := ⟨gb470, _, none⟩) (by first | exact Kd.own_blk (Kd.R_away HO_5.out (fun _ hk => hk)) | (rw [add_block]; exact Kd.own_blk (Kd.R_away HO_5.out (fun _ hk => hk))) | (show (Addr.add _ _).block ≠ _; rw [add_block]; exact Kd.own_blk (Kd.R_away HO_5.out (fun _ hk => hk))) | (dsimp only; exact Kd.own_blk (Kd.R_away HO_5.out (fun _ hk => hk)))) _).trans (hHeld.2.2.2.1)))))))))))))), ((cell_far (p := ⟨gb470, _, none⟩) (by first | exact Kd.own_blk (Kd.R_away HO_5.out (fun _ hk => hk)) | (rw [add_block]; exact Kd.own_blk (Kd.R_away HO_5.out (fun _ hk => hk))) | (show (Addr.add _ _).block ≠ _; rw [add_block]; exact Kd.own_blk (Kd.R_away HO_5.out (fun _ hk => hk))) | (dsimp only; exact Kd.own_blk (Kd.R_away HO_5.out (fun _ hk => hk)))) _).trans (((cell_far (p := ⟨gb470, _, none⟩) (by first | exact Kd.own_blk (Kd.R_away HO_5.out (fun _ hk => hk)) | (rw [add_block]; exact Kd.own_blk (Kd.R_away HO_5.out (fun _ hk => hk))) | (show (Addr.add _ _).block ≠ _; rw [add_block]; exact Kd.own_blk (Kd.R_away HO_5.out (fun _ hk => hk))) | (dsimp only; exact Kd.own_blk (Kd.R_away HO_5.out (fun _ hk => hk)))) _).trans (((cell_far (p := ⟨gb470, _, none⟩) (by first | exact Kd.own_blk (Kd.R_away HO_5.out (fun _ hk => hk)) | (rw [add_block]; exact Kd.own_blk (Kd.R_away HO_5.out (fun _ hk => hk))) | (show (Addr.add _ _).block ≠ _; rw [add_block]; exact Kd.own_blk (Kd.R_away HO_5.out (fun _ hk => hk))) | (dsimp only; exact Kd.own_blk (Kd.R_away HO_5.out (fun _ hk => hk)))) _).trans (((cell_far (p := ⟨gb470, _, none⟩) (by first | exact Kd.own_blk (Kd.R_away HO_5.out (fun _ hk => hk)) | (rw [add_block]; exact Kd.own_blk (Kd.R_away HO_5.out (fun _ hk => hk))) | (show (Addr.add _ _).block ≠ _; rw [add_block]; exact Kd.own_blk (Kd.R_away HO_5.out (fun _ hk => hk))) | (dsimp only; exact Kd.own_blk (Kd.R_away HO_5.out (fun _ hk => hk)))) _).trans (((cell_far (p := ⟨gb470, _, none⟩) (by first | exact Kd.own_blk (Kd.R_away HO_5.out (fun _ hk => hk)) | (rw [add_block]; exact Kd.own_blk (Kd.R_away HO_5.out (fun _ hk => hk))) | (show (Addr.add _ _).block ≠ _; rw [add_block]; exact Kd.own_blk (Kd.R_away HO_5.out (fun _ hk => hk))) | (dsimp only; exact Kd.own_blk (Kd.R_away HO_5.out (fun _ hk => hk)))) _).trans (((cell_far (p := ⟨gb470, _, none⟩) (by first | exact Kd.own_blk (Kd.R_away HO_5.out (fun _ hk => hk)) | (rw [add_block]; exact Kd.own_blk (Kd.R_away HO_5.out (fun _ hk => hk))) | (show (Addr.add _ _).block ≠ _; rw [add_block]; exact Kd.own_blk (Kd.R_away HO_5.out (fun _ hk => hk))) | (dsimp only; exact Kd.own_blk (Kd.R_away HO_5.out (fun _ hk => hk)))) _).trans (((cell_far (p := ⟨gb470, _, none⟩) (by first | exact Kd.own_blk (Kd.R_away HO_5.out (fun _ hk => hk)) | (rw [add_block]; exact Kd.own_blk (Kd.R_away HO_5.out (fun _ hk => hk))) | (show (Addr.add _ _).block ≠ _; rw [add_block]; exact Kd.own_blk (Kd.R_away HO_5.out (fun _ hk => hk))) | (dsimp only; exact Kd.own_blk (Kd.R_away HO_5.out (fun _ hk => hk)))) _).trans (hHeld.2.2.2.2.1)))))))))))))), ((cell_far (p := ⟨gb470, _, none⟩) (by first | exact Kd.own_blk (Kd.R_away HO_5.out (fun _ hk => hk)) | (rw [add_block]; exact Kd.own_blk (Kd.R_away HO_5.out (fun _ hk => hk))) | (show (Addr.add _ _).block ≠ _; rw [add_block]; exact Kd.own_blk (Kd.R_away HO_5.out (fun _ hk => hk))) | (dsimp only; exact Kd.own_blk (Kd.R_away HO_5.out (fun _ hk => hk)))) _).trans (((cell_far (p := ⟨gb470, _, none⟩) (by first | exact Kd.own_blk (Kd.R_away HO_5.out (fun _ hk => hk)) | (rw [add_block]; exact Kd.own_blk (Kd.R_away HO_5.out (fun _ hk => hk))) | (show (Addr.add _ _).block ≠ _; rw [add_block]; exact Kd.own_blk (Kd.R_away HO_5.out (fun _ hk => hk))) | (dsimp only; exact Kd.own_blk (Kd.R_away HO_5.out (fun _ hk => hk)))) _).trans (((cell_far (p := ⟨gb470, _, none⟩) (by first | exact Kd.own_blk (Kd.R_away HO_5.out (fun _ hk => hk)) | (rw [add_block]; exact Kd.own_blk (Kd.R_away HO_5.out (fun _ hk => hk))) | (show (Addr.add _ _).block ≠ _; rw [add_block]; exact Kd.own_blk (Kd.R_away HO_5.out (fun _ hk => hk))) | (dsimp only; exact Kd.own_blk (Kd.R_away HO_5.out (fun _ hk => hk)))) _).trans (((cell_far (p := ⟨gb470, _, none⟩) (by first | exact Kd.own_blk (Kd.R_away HO_5.out (fun _ hk => hk)) | (rw [add_block]; exact Kd.own_blk (Kd.R_away HO_5.out (fun _ hk => hk))) | (show (Addr.add _ _).block ≠ _; rw [add_block]; exact Kd.own_blk (Kd.R_away HO_5.out (fun _ hk => hk))) | (dsimp only; exact Kd.own_blk (Kd.R_away HO_5.out (fun _ hk => hk)))) _).trans (((cell_far (p := ⟨gb470, _, none⟩) (by first | exact Kd.own_blk (Kd.R_away HO_5.out (fun _ hk => hk)) | (rw [add_block]; exact Kd.own_blk (Kd.R_away HO_5.out (fun _ hk => hk))) | (show (Addr.add _ _).block ≠ _; rw [add_block]; exact Kd.own_blk (Kd.R_away HO_5.out (fun _ hk => hk))) | (dsimp only; exact Kd.own_blk (Kd.R_away HO_5.out (fun _ hk => hk)))) _).trans (((cell_far (p := ⟨gb470, _, none⟩) (by first | exact Kd.own_blk (Kd.R_away HO_5.out (fun _ hk => hk)) | (rw [add_block]; exact Kd.own_blk (Kd.R_away HO_5.out (fun _ hk => hk))) | (show (Addr.add _ _).block ≠ _; rw [add_block]; exact Kd.own_blk (Kd.R_away HO_5.out (fun _ hk => hk))) | (dsimp only; exact Kd.own_blk (Kd.R_away HO_5.out (fun _ hk => hk)))) _).trans (((cell_far (p := ⟨gb470, _, none⟩) (by first | exact Kd.own_blk (Kd.R_away HO_5.out (fun _ hk => hk)) | (rw [add_block]; exact Kd.own_blk (Kd.R_away HO_5.out (fun _ hk => hk))) | (show (Addr.add _ _).block ≠ _; rw [add_block]; exact Kd.own_blk (Kd.R_away HO_5.out (fun _ hk => hk))) | (dsimp only; exact Kd.own_blk (Kd.R_away HO_5.out (fun _ hk => hk)))) _).trans (hHeld.2.2.2.2.2.1)))))))))))))), ((cell_far (p := ⟨gb470, _, none⟩) (by first | exact Kd.own_blk (Kd.R_away HO_5.out (fun _ hk => hk)) | (rw [add_block]; exact Kd.own_blk (Kd.R_away HO_5.out (fun _ hk => hk))) | (show (Addr.add _ _).block ≠ _; rw [add_block]; exact Kd.own_blk (Kd.R_away HO_5.out (fun _ hk => hk))) | (dsimp only; exact Kd.own_blk (Kd.R_away HO_5.out (fun _ hk => hk)))) _).trans (((cell_far (p := ⟨gb470, _, none⟩) (by first | exact Kd.own_blk (Kd.R_away HO_5.out (fun _ hk => hk)) | (rw [add_block]; exact Kd.own_blk (Kd.R_away HO_5.out (fun _ hk => hk))) | (show (Addr.add _ _).block ≠ _; rw [add_block]; exact Kd.own_blk (Kd.R_away HO_5.out (fun _ hk => hk))) | (dsimp only; exact Kd.own_blk (Kd.R_away HO_5.out (fun _ hk => hk)))) _).trans (((cell_far (p := ⟨gb470, _, none⟩) (by first | exact Kd.own_blk (Kd.R_away HO_5.out (fun _ hk => hk)) | (rw [add_block]; exact Kd.own_blk (Kd.R_away HO_5.out (fun _ hk => hk))) | (show (Addr.add _ _).block ≠ _; rw [add_block]; exact Kd.own_blk (Kd.R_away HO_5.out (fun _ hk => hk))) | (dsimp only; exact Kd.own_blk (Kd.R_away HO_5.out (fun _ hk => hk)))) _).trans (((cell_far (p := ⟨gb470, _, none⟩) (by first | exact Kd.own_blk (Kd.R_away HO_5.out (fun _ hk => hk)) | (rw [add_block]; exact Kd.own_blk (Kd.R_away HO_5.out (fun _ hk => hk))) | (show (Addr.add _ _).block ≠ _; rw [add_block]; exact Kd.own_blk (Kd.R_away HO_5.out (fun _ hk => hk))) | (dsimp only; exact Kd.own_blk (Kd.R_away HO_5.out (fun _ hk => hk)))) _).trans (((cell_far (p := ⟨gb470, _, none⟩) (by first | exact Kd.own_blk (Kd.R_away HO_5.out (fun _ hk => hk)) | (rw [add_block]; exact Kd.own_blk (Kd.R_away HO_5.out (fun _ hk => hk))) | (show (Addr.add _ _).block ≠ _; rw [add_block]; exact Kd.own_blk (Kd.R_away HO_5.out (fun _ hk => hk))) | (dsimp only; exact Kd.own_blk (Kd.R_away HO_5.out (fun _ hk => hk)))) _).trans (((cell_far (p := ⟨gb470, _, none⟩) (by first | exact Kd.own_blk (Kd.R_away HO_5.out (fun _ hk => hk)) | (rw [add_block]; exact Kd.own_blk (Kd.R_away HO_5.out (fun _ hk => hk))) | (show (Addr.add _ _).block ≠ _; rw [add_block]; exact Kd.own_blk (Kd.R_away HO_5.out (fun _ hk => hk))) | (dsimp only; exact Kd.own_blk (Kd.R_away HO_5.out (fun _ hk => hk)))) _).trans (((cell_far (p := ⟨gb470, _, none⟩) (by first | exact Kd.own_blk (Kd.R_away HO_5.out (fun _ hk => hk)) | (rw [add_block]; exact Kd.own_blk (Kd.R_away HO_5.out (fun _ hk => hk))) | (show (Addr.add _ _).block ≠ _; rw [add_block]; exact Kd.own_blk (Kd.R_away HO_5.out (fun _ hk => hk))) | (dsimp only; exact Kd.own_blk (Kd.R_away HO_5.out (fun _ hk => hk)))) _).trans (hHeld.2.2.2.2.2.2))))))))))))))⟩ (fun hHeld => ?_)
      clear hK K
      refine done_ (done_of HT_.out (by kernel_rfl)) ?_
      try go_wp2
      refine bodyPost_ret (results_tc rfl _ _ gb470 26 #[.int .i64 ((rd_T26 t474 t480).f0), .int .i64 ((rd_T26 t474 t480).f1), .int .i64 ((rd_T26 t474 t480).f2.f0), .int .i64 ((rd_T26 t474 t480).f2.f1), .int .i64 ((rd_T26 t474 t480).f2.f2), .int .i64 ((rd_T26 t474 t480).f2.f3), .string ((rd_T26 t474 t480).f2.f4)] (0, 0) _ rfl (put7 (blkC #[.int .i64 0, .int .i64 0, .int .i64 0, .int .i64 0, .int .i64 0, .int .i64 0, .string (⟨#[]⟩ : ByteArray)])) Tryd.underlying26 rfl (by kernel_rfl)) rfl ?_
      exact ⟨_, endA, by (with_reducible repeat (first | apply Kd.R_alloc | apply Kd.R_drewN | apply Kd.R_drew)); exact Kd.R_mono (Kd.R_far (p := ⟨gb470, 6, none⟩) (Kd.R_far (p := ⟨gb470, 5, none⟩) (Kd.R_far (p := ⟨gb470, 4, none⟩) (Kd.R_far (p := ⟨gb470, 3, none⟩) (Kd.R_far (p := ⟨gb470, 2, none⟩) (Kd.R_far (p := ⟨gb470, 1, none⟩) (Kd.R_far (p := ⟨gb470, 0, none⟩) (Kd.R_mono HO_5.out (fun k_ hk => (⟨hk, hk⟩ : _ ∧ k_ ≠ gb470))) (fun _ hk => hk.2) (.int .i64 ((rd_T26 t474 t480).f0))) (fun _ hk => hk.2) (.int .i64 ((rd_T26 t474 t480).f1))) (fun _ hk => hk.2) (.int .i64 ((rd_T26 t474 t480).f2.f0))) (fun _ hk => hk.2) (.int .i64 ((rd_T26 t474 t480).f2.f1))) (fun _ hk => hk.2) (.int .i64 ((rd_T26 t474 t480).f2.f2))) (fun _ hk => hk.2) (.int .i64 ((rd_T26 t474 t480).f2.f3))) (fun _ hk => hk.2) (.string ((rd_T26 t474 t480).f2.f4))) (fun _ hk => trivial), belowA⟩
     ·rw [if_neg c16] at H
      exact absurd H (by simp)
    ·rw [if_neg c15] at H
     exact absurd H (by simp)
   ·replace c13 := Bool.eq_false_iff.mpr c13
    subst c13
    have H1 : ((spec_DrawEntryOk.f kj3 l0).bind fun bt483 => ((spec_l6Rd_pick.f kj3 t471 x474001_3 6).bind fun bt491 => (if bt491.1 > 0 then ((spec_l12Seq.f kj3 t474 bt483.1).bind fun t493 => (some (t474, bt483.1, wrap64 (t493 + 1), bt483.2.2.1, bt483.2.2.2.1, bt483.2.2.2.2.1, bt483.2.2.2.2.2.1, bt483.2.2.2.2.2.2))) else (some (t474, bt483.1, bt483.2.1, bt483.2.2.1, bt483.2.2.2.1, bt483.2.2.2.2.1, bt483.2.2.2.2.2.1, bt483.2.2.2.2.2.2))))) = some (r1, r2, r3, r4, r5, r6, r7, r8) := by rw [if_neg (show ¬ (false = true) by decide)] at H; exact H
    clear H
    have H := H1
    clear H1
    replace H := Option.bind_eq_some_iff.mp H
    obtain ⟨⟨t483, t484, t485, t486, t487, t488, t489⟩, A270, H⟩ := H
    (try dsimp only at H)
    have A27 := Aside0.mk A270
    clear A270
    replace H := Option.bind_eq_some_iff.mp H
    obtain ⟨⟨t491, t492⟩, A280, H⟩ := H
    (try dsimp only at H)
    have A28 := Aside0.mk A280
    clear A280
    by_cases c29 : t491 > 0
    ·rw [if_pos c29] at H
     have c29b0 : decide (0 < t491) = true := decide_eq_true c29
     clear c29
     replace H := Option.bind_eq_some_iff.mp H
     obtain ⟨t493, A300, H⟩ := H
     (try dsimp only at H)
     have A30 := Aside0.mk A300
     clear A300
     simp only [Option.some.injEq, Prod.mk.injEq] at H
     obtain ⟨rfl, rfl, rfl, rfl, rfl, rfl, rfl, rfl⟩ := H
     try go_wp2_with (first | ((with_reducible refine gate_callee (f := 12) rfl ?_); refine goesL_ (some 28) rfl rfl Tryd.func12 (by kernel_rfl) rfl #[.slice A0 l0.length c0] rfl argsA ?_; (with_reducible refine (spec_DrawEntryOk.calls kj3 _ _ l0 t483 t484 t485 t486 t487 t488 t489 _ ?side1 ?side2 A27.out).mono ?_); (case side1 => exact CA (Kd.C_below HR0.out HB.out)); (case side2 => exact HC0.out); rintro e w31 ⟨rfl, hb⟩; refine ⟨_, rfl, ?_⟩; have n0_ := Aside0.mk (Kd.R_below (RA HO_5) hb); have n1_ := Aside0.mk (blk_below (g := gb470) (o := .cells #[.int .i64 0, .int .i64 0, .int .i64 0, .int .i64 0, .int .i64 0, .int .i64 0, .string (⟨#[]⟩ : ByteArray)] 26 (0, 0)) blkA hb); have n2_ := Aside0.mk (IsS80.below stA hb); have n3_ := Aside0.mk (below_step belowA hb); clear HO_5; clear BK470; clear HI473; clear HB; have HO_5 := n0_; have BK470 := n1_; obtain ⟨hcq_0, hcq_1, hcq_2, hcq_3, hcq_4, hcq_5, hcq_6, hfq_0, hfq_1, hfq_2, hfq_3, hfq_4, hfq_5, hfq_6⟩ := blk_facts7 BK470.out; have HI473 := n2_; have HB := n3_; clear n0_ n1_ n2_ n3_; (try clear hb); (try clear hb2); (try clear hk); (try clear hi)) | ((with_reducible refine gate_dst (N := 6) rfl ?_); refine box_event ?hg (N := 6) ?hd (cs := #[.int .i64 0, .int .i64 0, .int .i64 0, .int .i64 0, .int .i64 0, .int .i64 0, .string (⟨#[]⟩ : ByteArray)]) (t := 26) ?hr ?_; (case hd => rfl); (case hg => rfl); (case hr => first | (go_simp; done) | (go_simp; rfl)); intro gb490 hg w32 hbox hb; have n0_ := Aside0.mk (Kd.R_below (Kd.R_elderB (RA HO_5) gb490 (Nat.le_of_eq hg.symm)) hb); have n1_ := Aside0.mk (blk_below (g := gb470) (o := .cells #[.int .i64 0, .int .i64 0, .int .i64 0, .int .i64 0, .int .i64 0, .int .i64 0, .string (⟨#[]⟩ : ByteArray)] 26 (0, 0)) blkA hb); have n2_ := Aside0.mk (IsS80.below stA hb); have n3_ := Aside0.mk (below_step belowA hb); have n4_ := Aside0.mk (hbox); have n5_ := Aside0.mk ((by rw [hg]; exact (below_size belowA) : w.heap.size ≤ gb490)); have n6_ := Aside0.mk ((by rw [hg]; exact (below_size belowA) : w.heap.size ≤ gb490)); have n7_ := Aside0.mk ((by rw [hg]; exact Nat.ne_of_lt (blk_lt (g := gb470) (o := .cells #[.int .i64 0, .int .i64 0, .int .i64 0, .int .i64 0, .int .i64 0, .int .i64 0, .string (⟨#[]⟩ : ByteArray)] 26 (0, 0)) blkA) : gb470 ≠ gb490)); have n8_ := Aside0.mk ((by rw [hg]; exact Nat.ne_of_gt (blk_lt (g := gb470) (o := .cells #[.int .i64 0, .int .i64 0, .int .i64 0, .int .i64 0, .int .i64 0, .int .i64 0, .string (⟨#[]⟩ : ByteArray)] 26 (0, 0)) blkA) : gb490 ≠ gb470)); have n9_ := Aside0.mk ((by rw [hg]; exact Nat.ne_of_lt (IsS80.lt (show IsS80 w _ g473 t471 x474001_3 from stA)) : g473 ≠ gb490)); have n10_ := Aside0.mk ((by rw [hg]; exact Nat.ne_of_gt (IsS80.lt (show IsS80 w _ g473 t471 x474001_3 from stA)) : gb490 ≠ g473)); clear HO_5; clear BK470; clear HI473; clear HB; have HO_5 := n0_; have BK470 := n1_; obtain ⟨hcq_0, hcq_1, hcq_2, hcq_3, hcq_4, hcq_5, hcq_6, hfq_0, hfq_1, hfq_2, hfq_3, hfq_4, hfq_5, hfq_6⟩ := blk_facts7 BK470.out; have HI473 := n2_; have HB := n3_; have BK490 := n4_; obtain ⟨hcq_0, hcq_1, hcq_2, hcq_3, hcq_4, hcq_5, hcq_6, hfq_0, hfq_1, hfq_2, hfq_3, hfq_4, hfq_5, hfq_6⟩ := blk_facts7 BK490.out; have GW490 := n5_; have GE490 := n6_; have NB470_490 := n7_; have NB490_470 := n8_; have NB473_490 := n9_; have NB490_473 := n10_; clear n0_ n1_ n2_ n3_ n4_ n5_ n6_ n7_ n8_ n9_ n10_; clear hb hbox hg; have hnb33 := NB490_470.out; have hnc33 := NB470_490.out; have hnb34 := NB490_473.out; have hnc34 := NB473_490.out; obtain ⟨hcz35_0, hcz35_1, hcz35_2, hcz35_3, hcz35_4, hcz35_5, hcz35_6, hfz35_0, hfz35_1, hfz35_2, hfz35_3, hfz35_4, hfz35_5, hfz35_6⟩ := blk_facts7 BK490.out) | ((with_reducible refine gate_callee (f := 38) rfl ?_); refine goesL_ (some 30) rfl rfl Tryd.func38 (by kernel_rfl) rfl #[.pointer (some ⟨g473, 0, none⟩), .int .i64 6] rfl argsA ?_; (with_reducible refine (spec_l6Rd_pick.calls kj3 g473 t471 x474001_3 6 t491 t492 w _ ?side1 ?side2 A28.out).mono ?_); (case side1 => exact stA); (case side2 => exact belowA); rintro e w36 ⟨rfl, hi, hb, hk⟩; refine ⟨_, rfl, ?_⟩; have n0_ := Aside0.mk (Kd.R_mono (Kd.R_keep (IsS80.apart (show IsS80 w _ g473 t471 x474001_3 from stA) (by (with_reducible repeat (first | apply Kd.R_alloc | apply Kd.R_drewN | apply Kd.R_drew)); exact (Kd.R_mono (Kd.R_far (p := ⟨gb490, 6, none⟩) (Kd.R_far (p := ⟨gb490, 5, none⟩) (Kd.R_far (p := ⟨gb490, 4, none⟩) (Kd.R_far (p := ⟨gb490, 3, none⟩) (Kd.R_far (p := ⟨gb490, 2, none⟩) (Kd.R_far (p := ⟨gb490, 1, none⟩) (Kd.R_far (p := ⟨gb490, 0, none⟩) (Kd.R_mono HO_5.out (fun k_ hk => (⟨hk, hk.2⟩ : _ ∧ k_ ≠ gb490))) (fun _ hk => hk.2) (.int .i64 t483)) (fun _ hk => hk.2) (.int .i64 t484)) (fun _ hk => hk.2) (.int .i64 t485)) (fun _ hk => hk.2) (.int .i64 t486)) (fun _ hk => hk.2) (.int .i64 t487)) (fun _ hk => hk.2) (.int .i64 t488)) (fun _ hk => hk.2) (.string t489)) (fun _ h_ => h_.1))) (by decide)) hk (fun _ h => h.2)) (fun _ h => h.1)); have n1_ := Aside0.mk (KeepBut.blk hk (g' := gb470) (o := .cells #[.int .i64 0, .int .i64 0, .int .i64 0, .int .i64 0, .int .i64 0, .int .i64 0, .string (⟨#[]⟩ : ByteArray)] 26 (0, 0)) blkA NB470_473.out (by simp)); have n2_ := Aside0.mk (KeepBut.blk hk (g' := gb490) (o := .cells #[.int .i64 t483, .int .i64 t484, .int .i64 t485, .int .i64 t486, .int .i64 t487, .int .i64 t488, .string t489] 26 (0, 0)) (put7 (blkC #[.int .i64 0, .int .i64 0, .int .i64 0, .int .i64 0, .int .i64 0, .int .i64 0, .string (⟨#[]⟩ : ByteArray)])) NB490_473.out (by simp)); have n3_ := Aside0.mk (hb); have n4_ := Aside0.mk (hi); clear HO_5; clear BK470; clear BK490; clear HB; clear HI473; have HO_5 := n0_; have BK470 := n1_; obtain ⟨hcq_0, hcq_1, hcq_2, hcq_3, hcq_4, hcq_5, hcq_6, hfq_0, hfq_1, hfq_2, hfq_3, hfq_4, hfq_5, hfq_6⟩ := blk_facts7 BK470.out; have BK490 := n2_; obtain ⟨hcq_0, hcq_1, hcq_2, hcq_3, hcq_4, hcq_5, hcq_6, hfq_0, hfq_1, hfq_2, hfq_3, hfq_4, hfq_5, hfq_6⟩ := blk_facts7 BK490.out; have HB := n3_; have HI473 := n4_; clear n0_ n1_ n2_ n3_ n4_; (try clear hb); (try clear hb2); (try clear hk); (try clear hi); obtain ⟨hcz37_0, hcz37_1, hcz37_2, hcz37_3, hcz37_4, hcz37_5, hcz37_6, hfz37_0, hfz37_1, hfz37_2, hfz37_3, hfz37_4, hfz37_5, hfz37_6⟩ := blk_facts7 BK490.out; obtain ⟨Ao38, co38, eo38⟩ := Kd.R_slice HO_5.out; subst eo38) | ((with_reducible refine gate_callee (f := 45) rfl ?_); refine goesL_ (some 35) rfl rfl Tryd.func45 (by kernel_rfl) rfl #[.slice Ao38 t474.length co38, .int .i64 t483] rfl argsA ?_; (with_reducible refine (spec_l12Seq.calls kj3 _ _ t474 t483 t493 _ ?side1 ?side2 A30.out).mono ?_); (case side1 => repeat (first | exact (Kd.R_reads' HO_5.out).2.2 | (with_reducible refine Kd.C_alloc ?_ _) | (with_reducible refine Kd.C_drewN ?_ _) | (with_reducible refine Kd.C_drew ?_))); (case side2 => exact (Kd.R_reads' HO_5.out).2.1); rintro e w' ⟨rfl, ⟨nd, rfl⟩⟩; refine ⟨_, rfl, ?_⟩; (try (rw [drewN_self w36]; generalize hq_ : World.drewN w36 _ = w36; have n0_ : Aside0 (Kd.R k26 26 w36 w.heap.size (fun k_ => k_ ≠ gb470 ∧ k_ ≠ gb490) (.slice Ao38 t474.length co38) t474) := ⟨by rw [← hq_]; exact (RA HO_5)⟩; have n1_ : Aside0 (w36.heap[gb470]? = some (.cells #[.int .i64 0, .int .i64 0, .int .i64 0, .int .i64 0, .int .i64 0, .int .i64 0, .string (⟨#[]⟩ : ByteArray)] 26 (0, 0))) := ⟨by rw [← hq_]; exact blkA⟩; have n2_ : Aside0 (w36.heap[gb490]? = some (.cells #[.int .i64 t483, .int .i64 t484, .int .i64 t485, .int .i64 t486, .int .i64 t487, .int .i64 t488, .string t489] 26 (0, 0))) := ⟨by rw [← hq_]; exact blkA⟩; have n3_ : Aside0 (IsS80 w w36 g473 t471 t492) := ⟨by rw [← hq_]; exact stA⟩; have n4_ : Aside0 (Below w.heap.size w w36) := ⟨by rw [← hq_]; exact belowA⟩; clear HO_5 BK470 BK490 HI473 HB hq_; have HO_5 := n0_; have BK470 := n1_; obtain ⟨hcq_0, hcq_1, hcq_2, hcq_3, hcq_4, hcq_5, hcq_6, hfq_0, hfq_1, hfq_2, hfq_3, hfq_4, hfq_5, hfq_6⟩ := blk_facts7 BK470.out; have BK490 := n2_; obtain ⟨hcq_0, hcq_1, hcq_2, hcq_3, hcq_4, hcq_5, hcq_6, hfq_0, hfq_1, hfq_2, hfq_3, hfq_4, hfq_5, hfq_6⟩ := blk_facts7 BK490.out; have HI473 := n3_; have HB := n4_; clear n0_ n1_ n2_ n3_ n4_))))
     have n0_ : Aside0 (Kd.R k26 26 (w36.setCell ⟨gb490, 1, none⟩ (.int .i64 (wrap64 (t493 + 1)))) w.heap.size (fun k_ => k_ ≠ gb470 ∧ k_ ≠ gb490) (.slice Ao38 t474.length co38) t474) := ⟨by (with_reducible repeat (first | apply Kd.R_alloc | apply Kd.R_drewN | apply Kd.R_drew)); exact Kd.R_mono (Kd.R_far (p := ⟨gb490, 1, none⟩) (Kd.R_mono HO_5.out (fun k_ hk => (⟨hk, hk.2⟩ : _ ∧ k_ ≠ gb490))) (fun _ hk => hk.2) (.int .i64 (wrap64 (t493 + 1)))) (fun _ hk => ⟨hk.1.1, hk.1.2⟩)⟩
     have n1_ : Aside0 ((w36.setCell ⟨gb490, 1, none⟩ (.int .i64 (wrap64 (t493 + 1)))).heap[gb470]? = some (.cells #[.int .i64 0, .int .i64 0, .int .i64 0, .int .i64 0, .int .i64 0, .int .i64 0, .string (⟨#[]⟩ : ByteArray)] 26 (0, 0))) := ⟨by (with_reducible repeat (first | refine blk_drewN ?_ _ | refine blk_drew ?_ | refine blk_alloc ?_ _)); refine blk_far ?_ NB470_490.out _; (with_reducible repeat (first | refine blk_drewN ?_ _ | refine blk_drew ?_ | refine blk_alloc ?_ _)); exact BK470.out⟩
     have n2_ : Aside0 ((w36.setCell ⟨gb490, 1, none⟩ (.int .i64 (wrap64 (t493 + 1)))).heap[gb490]? = some (.cells #[.int .i64 t483, .int .i64 (wrap64 (t493 + 1)), .int .i64 t485, .int .i64 t486, .int .i64 t487, .int .i64 t488, .string t489] 26 (0, 0))) := ⟨by (with_reducible repeat (first | refine blk_drewN ?_ _ | refine blk_drew ?_ | refine blk_alloc ?_ _)); refine blk_put (cs := #[.int .i64 t483, .int .i64 t484, .int .i64 t485, .int .i64 t486, .int .i64 t487, .int .i64 t488, .string t489]) ?_ 1 _ rfl; (with_reducible repeat (first | refine blk_drewN ?_ _ | refine blk_drew ?_ | refine blk_alloc ?_ _)); exact BK490.out⟩
     have n3_ : Aside0 (IsS80 w (w36.setCell ⟨gb490, 1, none⟩ (.int .i64 (wrap64 (t493 + 1)))) g473 t471 t492) := ⟨stA⟩
     have n4_ : Aside0 (Below w.heap.size w (w36.setCell ⟨gb490, 1, none⟩ (.int .i64 (wrap64 (t493 + 1))))) := ⟨belowA⟩
     (try clear HO_5)
     (try clear BK470)
     (try clear BK490)
     (try clear HI473)
     (try clear HB)
     generalize (w36.setCell ⟨gb490, 1, none⟩ (.int .i64 (wrap64 (t493 + 1)))) = w39 at n0_ n1_ n2_ n3_ n4_ ⊢
     have HO_5 := n0_
     have BK470 := n1_
     have BK490 := n2_
     have HI473 := n3_
     have HB := n4_
     clear n0_ n1_ n2_ n3_ n4_
     have n0_ := Aside0.mk (Kd.R_drew HO_5.out)
     have n1_ := Aside0.mk (blk_drew BK470.out)
     have n2_ := Aside0.mk (blk_drew BK490.out)
     have n3_ := Aside0.mk (IsS80.drew HI473.out)
     have n4_ := Aside0.mk (below_drew1 HB.out)
     clear HO_5
     clear BK470
     clear BK490
     clear HI473
     clear HB
     have HO_5 := n0_
     have BK470 := n1_
     have BK490 := n2_
     have HI473 := n3_
     have HB := n4_
     clear n0_ n1_ n2_ n3_ n4_
     refine start_ (n := 4) (S := fun w' => w'.cell? ⟨gb490, 0, none⟩ = some (.int .i64 t483) ∧ w'.cell? ⟨gb490, 1, none⟩ = some (.int .i64 (wrap64 (t493 + 1))) ∧ w'.cell? ⟨gb490, 2, none⟩ = some (.int .i64 t485) ∧ w'.cell? ⟨gb490, 3, none⟩ = some (.int .i64 t486) ∧ w'.cell? ⟨gb490, 4, none⟩ = some (.int .i64 t487) ∧ w'.cell? ⟨gb490, 5, none⟩ = some (.int .i64 t488) ∧ w'.cell? ⟨gb490, 6, none⟩ = some (.string t489)) (ds := []) #[false, false, false, false] (by kernel_rfl) rfl rfl (bk7 BK490) (fun hHeld => ?_)
     generalize w39.drew = w40 at HO_5 BK470 BK490 HI473 HB hHeld ⊢
     refine pure_ (i := 0) (N := some 38) #[true, false, false, false] rfl rfl (by kernel_rfl) (fun _ _ _ h => h) yldA putA ?_
     refine pure_ (i := 2) (N := some 2) #[true, false, true, false] rfl rfl (by kernel_rfl) (fun _ _ _ h => h) yldA putA ?_
     refine take_ (i := 1) (N := some 39) #[true, true, true, false] rfl rfl (by kernel_rfl) (fun _ _ _ h => h) (Or.inl ⟨by rfl, by rintro w' ⟨s0, s1, s2, s3, s4, s5, s6⟩; go_simp; with_reducible rfl⟩) hHeld putA ?_
     refine one_ (i := 3) (N := none) #[true, true, true, true] rfl rfl (by kernel_rfl) (by decide) (fun K hK => ?_)
     have hs41 : w40.cell? ⟨gb470, 0, none⟩ = some (.int .i64 0) := (blk_cell BK470.out 0).trans rfl
     have hfs41 := blk_frozen BK470.out 0
     have hns41_1 := NB490_470.out
     have hms41_1 := NB470_490.out
     have hs42 : w40.cell? ⟨gb470, 1, none⟩ = some (.int .i64 0) := (blk_cell BK470.out 1).trans rfl
     have hfs42 := blk_frozen BK470.out 1
     have hns42_1 := NB490_470.out
     have hms42_1 := NB470_490.out
     have hs43 : w40.cell? ⟨gb470, 2, none⟩ = some (.int .i64 0) := (blk_cell BK470.out 2).trans rfl
     have hfs43 := blk_frozen BK470.out 2
     have hns43_1 := NB490_470.out
     have hms43_1 := NB470_490.out
     have hs44 : w40.cell? ⟨gb470, 3, none⟩ = some (.int .i64 0) := (blk_cell BK470.out 3).trans rfl
     have hfs44 := blk_frozen BK470.out 3
     have hns44_1 := NB490_470.out
     have hms44_1 := NB470_490.out
     have hs45 : w40.cell? ⟨gb470, 4, none⟩ = some (.int .i64 0) := (blk_cell BK470.out 4).trans rfl
     have hfs45 := blk_frozen BK470.out 4
     have hns45_1 := NB490_470.out
     have hms45_1 := NB470_490.out
     have hs46 : w40.cell? ⟨gb470, 5, none⟩ = some (.int .i64 0) := (blk_cell BK470.out 5).trans rfl
     have hfs46 := blk_frozen BK470.out 5
     have hns46_1 := NB490_470.out
     have hms46_1 := NB470_490.out
     have hs47 : w40.cell? ⟨gb470, 6, none⟩ = some (.string (⟨#[]⟩ : ByteArray)) := (blk_cell BK470.out 6).trans rfl
     have hfs47 := blk_frozen BK470.out 6
     have hns47_1 := NB490_470.out
     have hms47_1 := NB470_490.out
     refine skip_ (w1 := ?_) (by rfl) rfl ?_ ?_
     rotate_left
     ·go_simp
      rfl
     refine hK.out _ _ ⟨((cell_far (p := ⟨gb470, _, none⟩) NB490_470.out _).trans (((cell_far (p := ⟨gb470, _, none⟩) NB490_470.out _).trans (((cell_far (p := ⟨gb470, _, none⟩) NB490_470.out _).trans (((cell_far (p := ⟨gb470, _, none⟩) NB490_470.out _).trans (((cell_far (p := ⟨gb470, _, none⟩) NB490_470.out _).trans (((cell_far (p := ⟨gb470, _, none⟩) NB490_470.out _).trans (((cell_far (p := ⟨gb470, _, none⟩) NB490_470.out _).trans (hHeld.1)))))))))))))), ((cell_far (p := ⟨gb470, _, none⟩) NB490_470.out _).trans (((cell_far (p := ⟨gb470, _, none⟩) NB490_470.out _).trans (((cell_far (p := ⟨gb470, _, none⟩) NB490_470.out _).trans (((cell_far (p := ⟨gb470, _, none⟩) NB490_470.out _).trans (((cell_far (p := ⟨gb470, _, none⟩) NB490_470.out _).trans (((cell_far (p := ⟨gb470, _, none⟩) NB490_470.out _).trans (((cell_far (p := ⟨gb470, _, none⟩) NB490_470.out _).trans (hHeld.2.1)))))))))))))), ((cell_far (p := ⟨gb470, _, none⟩) NB490_470.out _).trans (((cell_far (p := ⟨gb470, _, none⟩) NB490_470.out _).trans (((cell_far (p := ⟨gb470, _, none⟩) NB490_470.out _).trans (((cell_far (p := ⟨gb470, _, none⟩) NB490_470.out _).trans (((cell_far (p := ⟨gb470, _, none⟩) NB490_470.out _).trans (((cell_far (p := ⟨gb470, _, none⟩) NB490_470.out _).trans (((cell_far (p := ⟨gb470, _, none⟩) NB490_470.out _).trans (hHeld.2.2.1)))))))))))))), ((cell_far (p := ⟨gb470, _, none⟩) NB490_470.out _).trans (((cell_far (p := ⟨gb470, _, none⟩) NB490_470.out _).trans (((cell_far (p := ⟨gb470, _, none⟩) NB490_470.out _).trans (((cell_far (p := ⟨gb470, _, none⟩) NB490_470.out _).trans (((cell_far (p := ⟨gb470, _, none⟩) NB490_470.out _).trans (((cell_far (p := ⟨gb470, _, none⟩) NB490_470.out _).trans (((cell_far (p := ⟨gb470, _, none⟩) NB490_470.out _).trans (hHeld.2.2.2.1)))))))))))))), ((cell_far (p := ⟨gb470, _, none⟩) NB490_470.out _).trans (((cell_far (p := ⟨gb470, _, none⟩) NB490_470.out _).trans (((cell_far (p := ⟨gb470, _, none⟩) NB490_470.out _).trans (((cell_far (p := ⟨gb470, _, none⟩) NB490_470.out _).trans (((cell_far (p := ⟨gb470, _, none⟩) NB490_470.out _).trans (((cell_far (p := ⟨gb470, _, none⟩) NB490_470.out _).trans (((cell_far (p := ⟨gb470, _, none⟩) NB490_470.out _).trans (hHeld.2.2.2.2.1)))))))))))))), ((cell_far (p := ⟨gb470, _, none⟩) NB490_470.out _).trans (((cell_far (p := ⟨gb470, _, none⟩) NB490_470.out _).trans (((cell_far (p := ⟨gb470, _, none⟩) NB490_470.out _).trans (((cell_far (p := ⟨gb470, _, none⟩) NB490_470.out _).trans (((cell_far (p := ⟨gb470, _, none⟩) NB490_470.out _).trans (((cell_far (p := ⟨gb470, _, none⟩) NB490_470.out _).trans (((cell_far (p := ⟨gb470, _, none⟩) NB490_470.out _).trans (hHeld.2.2.2.2.2.1)))))))))))))), ((cell_far (p := ⟨gb470, _, none⟩) NB490_470.out _).trans (((cell_far (p := ⟨gb470, _, none⟩) NB490_470.out _).trans (((cell_far (p := ⟨gb470, _, none⟩) NB490_470.out _).trans (((cell_far (p := ⟨gb470, _, none⟩) NB490_470.out _).trans (((cell_far (p := ⟨gb470, _, none⟩) NB490_470.out _).trans (((cell_far (p := ⟨gb470, _, none⟩) NB490_470.out _).trans (((cell_far (p := ⟨gb470, _, none⟩) NB490_470.out _).trans (hHeld.2.2.2.2.2.2))))))))))))))⟩ (fun hHeld => ?_)
     clear hK K
     refine done_ (by kernel_rfl) ?_
     try go_wp2
     refine bodyPost_ret (results_tc rfl _ _ gb470 26 #[.int .i64 t483, .int .i64 (wrap64 (t493 + 1)), .int .i64 t485, .int .i64 t486, .int .i64 t487, .int .i64 t488, .string t489] (0, 0) _ rfl (put7 (blkC #[.int .i64 0, .int .i64 0, .int .i64 0, .int .i64 0, .int .i64 0, .int .i64 0, .string (⟨#[]⟩ : ByteArray)])) Tryd.underlying26 rfl (by kernel_rfl)) rfl ?_
     exact ⟨_, endA, by (with_reducible repeat (first | apply Kd.R_alloc | apply Kd.R_drewN | apply Kd.R_drew)); exact Kd.R_mono (Kd.R_far (p := ⟨gb470, 6, none⟩) (Kd.R_far (p := ⟨gb470, 5, none⟩) (Kd.R_far (p := ⟨gb470, 4, none⟩) (Kd.R_far (p := ⟨gb470, 3, none⟩) (Kd.R_far (p := ⟨gb470, 2, none⟩) (Kd.R_far (p := ⟨gb470, 1, none⟩) (Kd.R_far (p := ⟨gb470, 0, none⟩) (Kd.R_mono HO_5.out (fun k_ hk => (⟨hk, hk.1⟩ : _ ∧ k_ ≠ gb470))) (fun _ hk => hk.2) (.int .i64 t483)) (fun _ hk => hk.2) (.int .i64 (wrap64 (t493 + 1)))) (fun _ hk => hk.2) (.int .i64 t485)) (fun _ hk => hk.2) (.int .i64 t486)) (fun _ hk => hk.2) (.int .i64 t487)) (fun _ hk => hk.2) (.int .i64 t488)) (fun _ hk => hk.2) (.string t489)) (fun _ hk => trivial), belowA⟩
    ·rw [if_neg c29] at H
     have c29b0 : decide (0 < t491) = false := decide_eq_false c29
     clear c29
     simp only [Option.some.injEq, Prod.mk.injEq] at H
     obtain ⟨rfl, rfl, rfl, rfl, rfl, rfl, rfl, rfl⟩ := H
     try go_wp2_with (first | ((with_reducible refine gate_callee (f := 12) rfl ?_); refine goesL_ (some 28) rfl rfl Tryd.func12 (by kernel_rfl) rfl #[.slice A0 l0.length c0] rfl argsA ?_; (with_reducible refine (spec_DrawEntryOk.calls kj3 _ _ l0 t483 t484 t485 t486 t487 t488 t489 _ ?side1 ?side2 A27.out).mono ?_); (case side1 => exact CA (Kd.C_below HR0.out HB.out)); (case side2 => exact HC0.out); rintro e w48 ⟨rfl, hb⟩; refine ⟨_, rfl, ?_⟩; have n0_ := Aside0.mk (Kd.R_below (RA HO_5) hb); have n1_ := Aside0.mk (blk_below (g := gb470) (o := .cells #[.int .i64 0, .int .i64 0, .int .i64 0, .int .i64 0, .int .i64 0, .int .i64 0, .string (⟨#[]⟩ : ByteArray)] 26 (0, 0)) blkA hb); have n2_ := Aside0.mk (IsS80.below stA hb); have n3_ := Aside0.mk (below_step belowA hb); clear HO_5; clear BK470; clear HI473; clear HB; have HO_5 := n0_; have BK470 := n1_; obtain ⟨hcq_0, hcq_1, hcq_2, hcq_3, hcq_4, hcq_5, hcq_6, hfq_0, hfq_1, hfq_2, hfq_3, hfq_4, hfq_5, hfq_6⟩ := blk_facts7 BK470.out; have HI473 := n2_; have HB := n3_; clear n0_ n1_ n2_ n3_; (try clear hb); (try clear hb2); (try clear hk); (try clear hi)) | ((with_reducible refine gate_dst (N := 6) rfl ?_); refine box_event ?hg (N := 6) ?hd (cs := #[.int .i64 0, .int .i64 0, .int .i64 0, .int .i64 0, .int .i64 0, .int .i64 0, .string (⟨#[]⟩ : ByteArray)]) (t := 26) ?hr ?_; (case hd => rfl); (case hg => rfl); (case hr => first | (go_simp; done) | (go_simp; rfl)); intro gb490 hg w49 hbox hb; have n0_ := Aside0.mk (Kd.R_below (Kd.R_elderB (RA HO_5) gb490 (Nat.le_of_eq hg.symm)) hb); have n1_ := Aside0.mk (blk_below (g := gb470) (o := .cells #[.int .i64 0, .int .i64 0, .int .i64 0, .int .i64 0, .int .i64 0, .int .i64 0, .string (⟨#[]⟩ : ByteArray)] 26 (0, 0)) blkA hb); have n2_ := Aside0.mk (IsS80.below stA hb); have n3_ := Aside0.mk (below_step belowA hb); have n4_ := Aside0.mk (hbox); have n5_ := Aside0.mk ((by rw [hg]; exact (below_size belowA) : w.heap.size ≤ gb490)); have n6_ := Aside0.mk ((by rw [hg]; exact (below_size belowA) : w.heap.size ≤ gb490)); have n7_ := Aside0.mk ((by rw [hg]; exact Nat.ne_of_lt (blk_lt (g := gb470) (o := .cells #[.int .i64 0, .int .i64 0, .int .i64 0, .int .i64 0, .int .i64 0, .int .i64 0, .string (⟨#[]⟩ : ByteArray)] 26 (0, 0)) blkA) : gb470 ≠ gb490)); have n8_ := Aside0.mk ((by rw [hg]; exact Nat.ne_of_gt (blk_lt (g := gb470) (o := .cells #[.int .i64 0, .int .i64 0, .int .i64 0, .int .i64 0, .int .i64 0, .int .i64 0, .string (⟨#[]⟩ : ByteArray)] 26 (0, 0)) blkA) : gb490 ≠ gb470)); have n9_ := Aside0.mk ((by rw [hg]; exact Nat.ne_of_lt (IsS80.lt (show IsS80 w _ g473 t471 x474001_3 from stA)) : g473 ≠ gb490)); have n10_ := Aside0.mk ((by rw [hg]; exact Nat.ne_of_gt (IsS80.lt (show IsS80 w _ g473 t471 x474001_3 from stA)) : gb490 ≠ g473)); clear HO_5; clear BK470; clear HI473; clear HB; have HO_5 := n0_; have BK470 := n1_; obtain ⟨hcq_0, hcq_1, hcq_2, hcq_3, hcq_4, hcq_5, hcq_6, hfq_0, hfq_1, hfq_2, hfq_3, hfq_4, hfq_5, hfq_6⟩ := blk_facts7 BK470.out; have HI473 := n2_; have HB := n3_; have BK490 := n4_; obtain ⟨hcq_0, hcq_1, hcq_2, hcq_3, hcq_4, hcq_5, hcq_6, hfq_0, hfq_1, hfq_2, hfq_3, hfq_4, hfq_5, hfq_6⟩ := blk_facts7 BK490.out; have GW490 := n5_; have GE490 := n6_; have NB470_490 := n7_; have NB490_470 := n8_; have NB473_490 := n9_; have NB490_473 := n10_; clear n0_ n1_ n2_ n3_ n4_ n5_ n6_ n7_ n8_ n9_ n10_; clear hb hbox hg; have hnb50 := NB490_470.out; have hnc50 := NB470_490.out; have hnb51 := NB490_473.out; have hnc51 := NB473_490.out; obtain ⟨hcz52_0, hcz52_1, hcz52_2, hcz52_3, hcz52_4, hcz52_5, hcz52_6, hfz52_0, hfz52_1, hfz52_2, hfz52_3, hfz52_4, hfz52_5, hfz52_6⟩ := blk_facts7 BK490.out) | ((with_reducible refine gate_callee (f := 38) rfl ?_); refine goesL_ (some 30) rfl rfl Tryd.func38 (by kernel_rfl) rfl #[.pointer (some ⟨g473, 0, none⟩), .int .i64 6] rfl argsA ?_; (with_reducible refine (spec_l6Rd_pick.calls kj3 g473 t471 x474001_3 6 t491 t492 w _ ?side1 ?side2 A28.out).mono ?_); (case side1 => exact stA); (case side2 => exact belowA); rintro e w53 ⟨rfl, hi, hb, hk⟩; refine ⟨_, rfl, ?_⟩; have n0_ := Aside0.mk (Kd.R_mono (Kd.R_keep (IsS80.apart (show IsS80 w _ g473 t471 x474001_3 from stA) (by (with_reducible repeat (first | apply Kd.R_alloc | apply Kd.R_drewN | apply Kd.R_drew)); exact (Kd.R_mono (Kd.R_far (p := ⟨gb490, 6, none⟩) (Kd.R_far (p := ⟨gb490, 5, none⟩) (Kd.R_far (p := ⟨gb490, 4, none⟩) (Kd.R_far (p := ⟨gb490, 3, none⟩) (Kd.R_far (p := ⟨gb490, 2, none⟩) (Kd.R_far (p := ⟨gb490, 1, none⟩) (Kd.R_far (p := ⟨gb490, 0, none⟩) (Kd.R_mono HO_5.out (fun k_ hk => (⟨hk, hk.2⟩ : _ ∧ k_ ≠ gb490))) (fun _ hk => hk.2) (.int .i64 t483)) (fun _ hk => hk.2) (.int .i64 t484)) (fun _ hk => hk.2) (.int .i64 t485)) (fun _ hk => hk.2) (.int .i64 t486)) (fun _ hk => hk.2) (.int .i64 t487)) (fun _ hk => hk.2) (.int .i64 t488)) (fun _ hk => hk.2) (.string t489)) (fun _ h_ => h_.1))) (by decide)) hk (fun _ h => h.2)) (fun _ h => h.1)); have n1_ := Aside0.mk (KeepBut.blk hk (g' := gb470) (o := .cells #[.int .i64 0, .int .i64 0, .int .i64 0, .int .i64 0, .int .i64 0, .int .i64 0, .string (⟨#[]⟩ : ByteArray)] 26 (0, 0)) blkA NB470_473.out (by simp)); have n2_ := Aside0.mk (KeepBut.blk hk (g' := gb490) (o := .cells #[.int .i64 t483, .int .i64 t484, .int .i64 t485, .int .i64 t486, .int .i64 t487, .int .i64 t488, .string t489] 26 (0, 0)) (put7 (blkC #[.int .i64 0, .int .i64 0, .int .i64 0, .int .i64 0, .int .i64 0, .int .i64 0, .string (⟨#[]⟩ : ByteArray)])) NB490_473.out (by simp)); have n3_ := Aside0.mk (hb); have n4_ := Aside0.mk (hi); clear HO_5; clear BK470; clear BK490; clear HB; clear HI473; have HO_5 := n0_; have BK470 := n1_; obtain ⟨hcq_0, hcq_1, hcq_2, hcq_3, hcq_4, hcq_5, hcq_6, hfq_0, hfq_1, hfq_2, hfq_3, hfq_4, hfq_5, hfq_6⟩ := blk_facts7 BK470.out; have BK490 := n2_; obtain ⟨hcq_0, hcq_1, hcq_2, hcq_3, hcq_4, hcq_5, hcq_6, hfq_0, hfq_1, hfq_2, hfq_3, hfq_4, hfq_5, hfq_6⟩ := blk_facts7 BK490.out; have HB := n3_; have HI473 := n4_; clear n0_ n1_ n2_ n3_ n4_; (try clear hb); (try clear hb2); (try clear hk); (try clear hi)))
     have n0_ := Aside0.mk (Kd.R_drew HO_5.out)
     have n1_ := Aside0.mk (blk_drew BK470.out)
     have n2_ := Aside0.mk (blk_drew BK490.out)
     have n3_ := Aside0.mk (IsS80.drew HI473.out)
     have n4_ := Aside0.mk (below_drew1 HB.out)
     clear HO_5
     clear BK470
     clear BK490
     clear HI473
     clear HB
     have HO_5 := n0_
     have BK470 := n1_
     have BK490 := n2_
     have HI473 := n3_
     have HB := n4_
     clear n0_ n1_ n2_ n3_ n4_
     refine start_ (n := 4) (S := fun w' => w'.cell? ⟨gb490, 0, none⟩ = some (.int .i64 t483) ∧ w'.cell? ⟨gb490, 1, none⟩ = some (.int .i64 t484) ∧ w'.cell? ⟨gb490, 2, none⟩ = some (.int .i64 t485) ∧ w'.cell? ⟨gb490, 3, none⟩ = some (.int .i64 t486) ∧ w'.cell? ⟨gb490, 4, none⟩ = some (.int .i64 t487) ∧ w'.cell? ⟨gb490, 5, none⟩ = some (.int .i64 t488) ∧ w'.cell? ⟨gb490, 6, none⟩ = some (.string t489)) (ds := []) #[false, false, false, false] (by kernel_rfl) rfl rfl (bk7 BK490) (fun hHeld => ?_)
     generalize w53.drew = w54 at HO_5 BK470 BK490 HI473 HB hHeld ⊢
     refine pure_ (i := 0) (N := some 38) #[true, false, false, false] rfl rfl (by kernel_rfl) (fun _ _ _ h => h) yldA putA ?_
     refine pure_ (i := 2) (N := some 2) #[true, false, true, false] rfl rfl (by kernel_rfl) (fun _ _ _ h => h) yldA putA ?_
     refine take_ (i := 1) (N := some 39) #[true, true, true, false] rfl rfl (by kernel_rfl) (fun _ _ _ h => h) (Or.inl ⟨by rfl, by rintro w' ⟨s0, s1, s2, s3, s4, s5, s6⟩; go_simp; with_reducible rfl⟩) hHeld putA ?_
     refine one_ (i := 3) (N := none) #[true, true, true, true] rfl rfl (by kernel_rfl) (by decide) (fun K hK => ?_)
     have hs55 : w54.cell? ⟨gb470, 0, none⟩ = some (.int .i64 0) := (blk_cell BK470.out 0).trans rfl
     have hfs55 := blk_frozen BK470.out 0
     have hns55_1 := NB490_470.out
     have hms55_1 := NB470_490.out
     have hs56 : w54.cell? ⟨gb470, 1, none⟩ = some (.int .i64 0) := (blk_cell BK470.out 1).trans rfl
     have hfs56 := blk_frozen BK470.out 1
     have hns56_1 := NB490_470.out
     have hms56_1 := NB470_490.out
     have hs57 : w54.cell? ⟨gb470, 2, none⟩ = some (.int .i64 0) := (blk_cell BK470.out 2).trans rfl
     have hfs57 := blk_frozen BK470.out 2
     have hns57_1 := NB490_470.out
     have hms57_1 := NB470_490.out
     have hs58 : w54.cell? ⟨gb470, 3, none⟩ = some (.int .i64 0) := (blk_cell BK470.out 3).trans rfl
     have hfs58 := blk_frozen BK470.out 3
     have hns58_1 := NB490_470.out
     have hms58_1 := NB470_490.out
     have hs59 : w54.cell? ⟨gb470, 4, none⟩ = some (.int .i64 0) := (blk_cell BK470.out 4).trans rfl
     have hfs59 := blk_frozen BK470.out 4
     have hns59_1 := NB490_470.out
     have hms59_1 := NB470_490.out
     have hs60 : w54.cell? ⟨gb470, 5, none⟩ = some (.int .i64 0) := (blk_cell BK470.out 5).trans rfl
     have hfs60 := blk_frozen BK470.out 5
     have hns60_1 := NB490_470.out
     have hms60_1 := NB470_490.out
     have hs61 : w54.cell? ⟨gb470, 6, none⟩ = some (.string (⟨#[]⟩ : ByteArray)) := (blk_cell BK470.out 6).trans rfl
     have hfs61 := blk_frozen BK470.out 6
     have hns61_1 := NB490_470.out
     have hms61_1 := NB470_490.out
     refine skip_ (w1 := ?_) (by rfl) rfl ?_ ?_
     rotate_left
     ·go_simp
      rfl
     refine hK.out _ _ ⟨((cell_far (p := ⟨gb470, _, none⟩) NB490_470.out _).trans (((cell_far (p := ⟨gb470, _, none⟩) NB490_470.out _).trans (((cell_far (p := ⟨gb470, _, none⟩) NB490_470.out _).trans (((cell_far (p := ⟨gb470, _, none⟩) NB490_470.out _).trans (((cell_far (p := ⟨gb470, _, none⟩) NB490_470.out _).trans (((cell_far (p := ⟨gb470, _, none⟩) NB490_470.out _).trans (((cell_far (p := ⟨gb470, _, none⟩) NB490_470.out _).trans (hHeld.1)))))))))))))), ((cell_far (p := ⟨gb470, _, none⟩) NB490_470.out _).trans (((cell_far (p := ⟨gb470, _, none⟩) NB490_470.out _).trans (((cell_far (p := ⟨gb470, _, none⟩) NB490_470.out _).trans (((cell_far (p := ⟨gb470, _, none⟩) NB490_470.out _).trans (((cell_far (p := ⟨gb470, _, none⟩) NB490_470.out _).trans (((cell_far (p := ⟨gb470, _, none⟩) NB490_470.out _).trans (((cell_far (p := ⟨gb470, _, none⟩) NB490_470.out _).trans (hHeld.2.1)))))))))))))), ((cell_far (p := ⟨gb470, _, none⟩) NB490_470.out _).trans (((cell_far (p := ⟨gb470, _, none⟩) NB490_470.out _).trans (((cell_far (p := ⟨gb470, _, none⟩) NB490_470.out _).trans (((cell_far (p := ⟨gb470, _, none⟩) NB490_470.out _).trans (((cell_far (p := ⟨gb470, _, none⟩) NB490_470.out _).trans (((cell_far (p := ⟨gb470, _, none⟩) NB490_470.out _).trans (((cell_far (p := ⟨gb470, _, none⟩) NB490_470.out _).trans (hHeld.2.2.1)))))))))))))), ((cell_far (p := ⟨gb470, _, none⟩) NB490_470.out _).trans (((cell_far (p := ⟨gb470, _, none⟩) NB490_470.out _).trans (((cell_far (p := ⟨gb470, _, none⟩) NB490_470.out _).trans (((cell_far (p := ⟨gb470, _, none⟩) NB490_470.out _).trans (((cell_far (p := ⟨gb470, _, none⟩) NB490_470.out _).trans (((cell_far (p := ⟨gb470, _, none⟩) NB490_470.out _).trans (((cell_far (p := ⟨gb470, _, none⟩) NB490_470.out _).trans (hHeld.2.2.2.1)))))))))))))), ((cell_far (p := ⟨gb470, _, none⟩) NB490_470.out _).trans (((cell_far (p := ⟨gb470, _, none⟩) NB490_470.out _).trans (((cell_far (p := ⟨gb470, _, none⟩) NB490_470.out _).trans (((cell_far (p := ⟨gb470, _, none⟩) NB490_470.out _).trans (((cell_far (p := ⟨gb470, _, none⟩) NB490_470.out _).trans (((cell_far (p := ⟨gb470, _, none⟩) NB490_470.out _).trans (((cell_far (p := ⟨gb470, _, none⟩) NB490_470.out _).trans (hHeld.2.2.2.2.1)))))))))))))), ((cell_far (p := ⟨gb470, _, none⟩) NB490_470.out _).trans (((cell_far (p := ⟨gb470, _, none⟩) NB490_470.out _).trans (((cell_far (p := ⟨gb470, _, none⟩) NB490_470.out _).trans (((cell_far (p := ⟨gb470, _, none⟩) NB490_470.out _).trans (((cell_far (p := ⟨gb470, _, none⟩) NB490_470.out _).trans (((cell_far (p := ⟨gb470, _, none⟩) NB490_470.out _).trans (((cell_far (p := ⟨gb470, _, none⟩) NB490_470.out _).trans (hHeld.2.2.2.2.2.1)))))))))))))), ((cell_far (p := ⟨gb470, _, none⟩) NB490_470.out _).trans (((cell_far (p := ⟨gb470, _, none⟩) NB490_470.out _).trans (((cell_far (p := ⟨gb470, _, none⟩) NB490_470.out _).trans (((cell_far (p := ⟨gb470, _, none⟩) NB490_470.out _).trans (((cell_far (p := ⟨gb470, _, none⟩) NB490_470.out _).trans (((cell_far (p := ⟨gb470, _, none⟩) NB490_470.out _).trans (((cell_far (p := ⟨gb470, _, none⟩) NB490_470.out _).trans (hHeld.2.2.2.2.2.2))))))))))))))⟩ (fun hHeld => ?_)
     clear hK K
     refine done_ (by kernel_rfl) ?_
     try go_wp2
     refine bodyPost_ret (results_tc rfl _ _ gb470 26 #[.int .i64 t483, .int .i64 t484, .int .i64 t485, .int .i64 t486, .int .i64 t487, .int .i64 t488, .string t489] (0, 0) _ rfl (put7 (blkC #[.int .i64 0, .int .i64 0, .int .i64 0, .int .i64 0, .int .i64 0, .int .i64 0, .string (⟨#[]⟩ : ByteArray)])) Tryd.underlying26 rfl (by kernel_rfl)) rfl ?_
     exact ⟨_, endA, by (with_reducible repeat (first | apply Kd.R_alloc | apply Kd.R_drewN | apply Kd.R_drew)); exact Kd.R_mono (Kd.R_far (p := ⟨gb470, 6, none⟩) (Kd.R_far (p := ⟨gb470, 5, none⟩) (Kd.R_far (p := ⟨gb470, 4, none⟩) (Kd.R_far (p := ⟨gb470, 3, none⟩) (Kd.R_far (p := ⟨gb470, 2, none⟩) (Kd.R_far (p := ⟨gb470, 1, none⟩) (Kd.R_far (p := ⟨gb470, 0, none⟩) (Kd.R_mono HO_5.out (fun k_ hk => (⟨hk, hk.1⟩ : _ ∧ k_ ≠ gb470))) (fun _ hk => hk.2) (.int .i64 t483)) (fun _ hk => hk.2) (.int .i64 t484)) (fun _ hk => hk.2) (.int .i64 t485)) (fun _ hk => hk.2) (.int .i64 t486)) (fun _ hk => hk.2) (.int .i64 t487)) (fun _ hk => hk.2) (.int .i64 t488)) (fun _ hk => hk.2) (.string t489)) (fun _ hk => trivial), belowA⟩
def laws_lpLog.l0 : Nat → List (S26) → List (S26) → Int → Option (Bool)
 | 0, _, _, _ => none
 | k + 1, x0, x1, x5 => if x5 < (x0.length : Int) then (if 0 ≤ x5 then (if x5 < (x1.length : Int) then (if (!(((rd_T26 x0 x5).f0) == ((rd_T26 x1 x5).f0)) || (!(((rd_T26 x0 x5).f1) == ((rd_T26 x1 x5).f1)) || ((!(((rd_T26 x0 x5).f2.f0) == ((rd_T26 x1 x5).f2.f0)) || (!(((rd_T26 x0 x5).f2.f1) == ((rd_T26 x1 x5).f2.f1)) || (!(((rd_T26 x0 x5).f2.f2) == ((rd_T26 x1 x5).f2.f2)) || (!(((rd_T26 x0 x5).f2.f3) == ((rd_T26 x1 x5).f2.f3)) || (!((((rd_T26 x0 x5).f2.f4).toList) == (((rd_T26 x1 x5).f2.f4).toList)))))))))) = true then (some false) else (laws_lpLog.l0 k x0 x1 (wrap64 (x5 + 1)))) else (none)) else (none)) else (some true)
def laws_lpLog.f (k : Nat) (l0 : List (S26)) (l1 : List (S26)) : Option (Bool) := if (l0.length : Int) = (l1.length : Int) then (laws_lpLog.l0 k l0 l1 0) else (some false)
theorem laws_lpLog.mono_l : ∀ k, (∀ y0 y1 y2, LeO (laws_lpLog.l0 k y0 y1 y2) (laws_lpLog.l0 (k + 1) y0 y1 y2))
 | 0 => fun _ _ _ r h => by simp [laws_lpLog.l0] at h
 | k + 1 => by
  have ih0 := laws_lpLog.mono_l k
  ·intro y0 y1 y2
   unfold laws_lpLog.l0
   repeat' first
   | (with_reducible exact ih0 _ _ _)
   | (with_reducible exact LeO.refl _)
   | (with_reducible exact LeO.none _)
   | (with_reducible refine LeO.ite ?_ ?_)
   | (with_reducible refine LeO.bind ?_ (fun _ => ?_))
   | exact ih0 _ _ _
   | exact LeO.none _
   | refine LeO.ite ?_ ?_
   | refine LeO.bind ?_ (fun _ => ?_)
theorem laws_lpLog.mono : ∀ a0 a1 k, LeO (laws_lpLog.f k a0 a1) (laws_lpLog.f (k + 1) a0 a1) := by
 intro a0 a1 k
 have ih0 := laws_lpLog.mono_l k
 unfold laws_lpLog.f
 repeat' first
   | (with_reducible exact ih0 _ _ _)
   | (with_reducible exact LeO.refl _)
   | (with_reducible exact LeO.none _)
   | (with_reducible refine LeO.ite ?_ ?_)
   | (with_reducible refine LeO.bind ?_ (fun _ => ?_))
   | exact ih0 _ _ _
   | exact LeO.none _
   | refine LeO.ite ?_ ?_
   | refine LeO.bind ?_ (fun _ => ?_)
set_option maxHeartbeats 8000000 in
set_option maxRecDepth 100000 in
theorem laws_lpLog.calls (k : Nat) (A0 : Option Addr) (c0 : Nat) (l0 : List (S26)) (A1 : Option Addr) (c1 : Nat) (l1 : List (S26)) (r : Bool) (w : World) (hr0 : Kd.C k26 w A0 l0.length l0) (hc0 : l0.length ≤ c0) (hr1 : Kd.C k26 w A1 l1.length l1) (hc1 : l1.length ≤ c1) (h : laws_lpLog.f k l0 l1 = some r) :
  Calls Tryd.prog 35 #[.slice A0 l0.length c0, .slice A1 l1.length c1] w fun e w' => e = .returned (.bool r) ∧ Drawn0 w w' := by
 have hu26 := Tryd.underlying26
 have HR0 := Aside0.mk hr0
 have HC0 := Aside0.mk hc0
 clear hr0 hc0
 have HR1 := Aside0.mk hr1
 have HC1 := Aside0.mk hc1
 clear hr1 hc1
 have H : (if (l0.length : Int) = (l1.length : Int) then (laws_lpLog.l0 k l0 l1 0) else (some false)) = some r := h
 clear h
 by_cases c3 : (l0.length : Int) = (l1.length : Int)
 ·rw [if_pos c3] at H
  have c3b0 : ((l0.length : Int) == (l1.length : Int)) = true := beq_iff_eq.mpr c3
  have c3b1 : ((l0.length : Int) != (l1.length : Int)) = false := bne_eq_false_iff_eq.mpr c3
  have c3b2 : (l0.length == l1.length) = true := by first | simpa using c3 | (simp at c3 ⊢; omega)
  clear c3
  have H' := Aside0.mk H
  clear H
  go_enter Tryd.func35, Tryd.ntmps35
  go_wp2
  repeat (go_quiet (fail); try go_wp2)
  go_loopg [5] k (fun kq v5 w' => ∃ (x5_1 : Int), v5 = .int .i64 x5_1 ∧ Aside0 (laws_lpLog.l0 kq l0 l1 x5_1 = some r) ∧ Aside0 (kq ≤ k) ∧ Drawn0 w w')
  case atStart => exact ⟨(0), (by first | rfl | (simp; done) | (simp [*]; done)), H', ⟨Nat.le_refl _⟩, by repeat (first | exact Drawn0.refl _ | apply Drawn0.step)⟩
  case round =>
   clear H'
   try clear c1
   try clear p2
   try clear c3
   try clear c3b0
   try clear c3b1
   try clear c3b2
   obtain ⟨x5_1, rfl, HA, HK1, ⟨m1, rfl⟩⟩ := hrel
   cases gk with
   | zero => exact absurd HA.out (by simp [laws_lpLog.l0])
   | succ k1 =>
    have H := HA.out
    clear HA
    simp only [laws_lpLog.l0] at H
    by_cases c4 : x5_1 < (l0.length : Int)
    ·rw [if_pos c4] at H
     have c4b0 : decide (x5_1 < (l0.length : Int)) = true := decide_eq_true c4
     clear c4
     by_cases c5 : 0 ≤ x5_1
     ·rw [if_pos c5] at H
      have c5b0 : decide (0 ≤ x5_1) = true := decide_eq_true c5
      clear c5
      by_cases c6 : x5_1 < (l1.length : Int)
      ·rw [if_pos c6] at H
       have c6b0 : decide (x5_1 < (l1.length : Int)) = true := decide_eq_true c6
       clear c6
       by_cases c7 : (!(((rd_T26 l0 x5_1).f0) == ((rd_T26 l1 x5_1).f0)) || (!(((rd_T26 l0 x5_1).f1) == ((rd_T26 l1 x5_1).f1)) || ((!(((rd_T26 l0 x5_1).f2.f0) == ((rd_T26 l1 x5_1).f2.f0)) || (!(((rd_T26 l0 x5_1).f2.f1) == ((rd_T26 l1 x5_1).f2.f1)) || (!(((rd_T26 l0 x5_1).f2.f2) == ((rd_T26 l1 x5_1).f2.f2)) || (!(((rd_T26 l0 x5_1).f2.f3) == ((rd_T26 l1 x5_1).f2.f3)) || (!((((rd_T26 l0 x5_1).f2.f4).toList) == (((rd_T26 l1 x5_1).f2.f4).toList)))))))))) = true
       ·rw [if_pos c7] at H
        have c7b0 : (!(((rd_T26 l0 x5_1).f0) == ((rd_T26 l1 x5_1).f0)) || (!(((rd_T26 l0 x5_1).f1) == ((rd_T26 l1 x5_1).f1)) || ((!(((rd_T26 l0 x5_1).f2.f0) == ((rd_T26 l1 x5_1).f2.f0)) || (!(((rd_T26 l0 x5_1).f2.f1) == ((rd_T26 l1 x5_1).f2.f1)) || (!(((rd_T26 l0 x5_1).f2.f2) == ((rd_T26 l1 x5_1).f2.f2)) || (!(((rd_T26 l0 x5_1).f2.f3) == ((rd_T26 l1 x5_1).f2.f3)) || (!((((rd_T26 l0 x5_1).f2.f4).toList) == (((rd_T26 l1 x5_1).f2.f4).toList)))))))))) = true := c7
        clear c7
        obtain rfl := Option.some.inj H
        have p494 : 0 ≤ (x5_1 : Int) := of_decide_eq_true (by first | (with_reducible assumption) | assumption)
        have q494 : x5_1 < (l0.length : Int) := of_decide_eq_true (by first | (with_reducible assumption) | assumption)
        obtain ⟨ad494, e494, hx494_0, hx494_1, hx494_2, hx494_3, hx494_4, hx494_5, hx494_6⟩ := at_T26 HR0.out x5_1 p494 q494
        cases e494
        replace p494 := eq_true p494
        replace q494 := eq_true q494
        have p495 : 0 ≤ (x5_1 : Int) := of_decide_eq_true (by first | (with_reducible assumption) | assumption)
        have q495 : x5_1 < (l1.length : Int) := of_decide_eq_true (by first | (with_reducible assumption) | assumption)
        obtain ⟨ad495, e495, hx495_0, hx495_1, hx495_2, hx495_3, hx495_4, hx495_5, hx495_6⟩ := at_T26 HR1.out x5_1 p495 q495
        cases e495
        replace p495 := eq_true p495
        replace q495 := eq_true q495
        go_wp2
        repeat (go_quiet (fail); try go_wp2)
        go_ret
        exact ⟨by first | rfl | (simp; done) | (simp [*]; done), by repeat (first | exact Drawn0.refl _ | apply Drawn0.step)⟩
       ·rw [if_neg c7] at H
        have c7b0 : (!(((rd_T26 l0 x5_1).f0) == ((rd_T26 l1 x5_1).f0)) || (!(((rd_T26 l0 x5_1).f1) == ((rd_T26 l1 x5_1).f1)) || ((!(((rd_T26 l0 x5_1).f2.f0) == ((rd_T26 l1 x5_1).f2.f0)) || (!(((rd_T26 l0 x5_1).f2.f1) == ((rd_T26 l1 x5_1).f2.f1)) || (!(((rd_T26 l0 x5_1).f2.f2) == ((rd_T26 l1 x5_1).f2.f2)) || (!(((rd_T26 l0 x5_1).f2.f3) == ((rd_T26 l1 x5_1).f2.f3)) || (!((((rd_T26 l0 x5_1).f2.f4).toList) == (((rd_T26 l1 x5_1).f2.f4).toList)))))))))) = false := by simpa using c7
        clear c7
        have H' := Aside0.mk H
        clear H
        have p494 : 0 ≤ (x5_1 : Int) := of_decide_eq_true (by first | (with_reducible assumption) | assumption)
        have q494 : x5_1 < (l0.length : Int) := of_decide_eq_true (by first | (with_reducible assumption) | assumption)
        obtain ⟨ad494, e494, hx494_0, hx494_1, hx494_2, hx494_3, hx494_4, hx494_5, hx494_6⟩ := at_T26 HR0.out x5_1 p494 q494
        cases e494
        replace p494 := eq_true p494
        replace q494 := eq_true q494
        have p495 : 0 ≤ (x5_1 : Int) := of_decide_eq_true (by first | (with_reducible assumption) | assumption)
        have q495 : x5_1 < (l1.length : Int) := of_decide_eq_true (by first | (with_reducible assumption) | assumption)
        obtain ⟨ad495, e495, hx495_0, hx495_1, hx495_2, hx495_3, hx495_4, hx495_5, hx495_6⟩ := at_T26 HR1.out x5_1 p495 q495
        cases e495
        replace p495 := eq_true p495
        replace q495 := eq_true q495
        go_wp2
        repeat (go_quiet (fail); try go_wp2)
        go_roundg k1
        case measure => have := HK1.out; omega
        case rel => exact ⟨(wrap64 (x5_1 + 1)), (by first | rfl | (simp; done) | (simp [*]; done)), H', ⟨by have := HK1.out; omega⟩, by repeat (first | exact Drawn0.refl _ | apply Drawn0.step)⟩
      ·rw [if_neg c6] at H
       exact absurd H (by simp)
     ·rw [if_neg c5] at H
      exact absurd H (by simp)
    ·rw [if_neg c4] at H
     have c4b0 : decide (x5_1 < (l0.length : Int)) = false := decide_eq_false c4
     clear c4
     obtain rfl := Option.some.inj H
     go_wp2
     repeat (go_quiet (fail); try go_wp2)
     go_ret
     exact ⟨by first | rfl | (simp; done) | (simp [*]; done), by repeat (first | exact Drawn0.refl _ | apply Drawn0.step)⟩
 ·rw [if_neg c3] at H
  have c3b0 : ((l0.length : Int) == (l1.length : Int)) = false := beq_eq_false_iff_ne.mpr c3
  have c3b1 : ((l0.length : Int) != (l1.length : Int)) = true := bne_iff_ne.mpr c3
  have c3b2 : (l0.length == l1.length) = false := by first | simpa using c3 | (simp at c3 ⊢; omega)
  obtain rfl := Option.some.inj H
  go_enter Tryd.func35, Tryd.ntmps35
  go_wp2
  repeat (go_quiet (fail); try go_wp2)
  go_ret
  exact ⟨by first | rfl | (simp; done) | (simp [*]; done), by repeat (first | exact Drawn0.refl _ | apply Drawn0.step)⟩
end Go.Proofs.YtlpfjabfhgfpmaaDoor.P
