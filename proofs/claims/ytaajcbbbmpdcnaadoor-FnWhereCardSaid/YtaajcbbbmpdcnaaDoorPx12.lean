
-- Written by wip/tools/pprint.py (a program of this session) over the kit's printer; not trusted: Lean checks it.
import Derived.Test.YtaajcbbbmpdcnaaDoorPx0
import Derived.Test.YtaajcbbbmpdcnaaDoorPx1
import Derived.Test.YtaajcbbbmpdcnaaDoorPx4
import Derived.Test.YtaajcbbbmpdcnaaDoorPx11
import Derived.Test.YtaajcbbbmpdcnaaDoorV
namespace Go.Proofs.YtaajcbbbmpdcnaaDoor.P
open Go.RowKit Go.Proofs.YtaajcbbbmpdcnaaDoorW.PrintWords Go.Proofs.YtaajcbbbmpdcnaaDoorW.PrintLast Go.Proofs.YtaajcbbbmpdcnaaDoorW.PrintMore
attribute [local go_sem] cell_set_set cell_set_far_set max2_int min2_int max_two min_two max_three min_three max_four min_four   -- for this text's walks alone
set_option linter.unusedVariables false
set_option linter.unusedSimpArgs false
def laws_FnWhere.j0 : Nat → List (S47) → Int → Int → Bool → Int → Int → Bool → Bool → Int → Int → Int → Int → ByteArray → Option (Bool)
 | 0, _, _, _, _, _, _, _, _, _, _, _, _, _ => none
 | k + 1, x3, x5, x6, x7, x8, x9, x10, x49, x457000, x457001, x457002, x457003, x457004 => if x49 = true then (if (x10 == x7) = true then (if x8 = x5 then (some (x9 == x6)) else (some false)) else (some false)) else ((laws_lpAt.f k x3 x457002).bind fun t463 => (if t463 < 0 then (if x8 = 3 then (some (x9 == 0)) else (some false)) else (if x457003 > 0 then (if x457003 = x457001 then (if x8 = x457002 then (some (x9 == 0)) else (some false)) else ((impl_TreeKids.f x3 x457002).bind fun t464 => ((laws_lpAmong.f k t464 x457003).bind fun t467 => (if t467 = true then (if x8 = x457002 then (some (x9 == x457003)) else (some false)) else (if x8 = x457002 then (some (x9 == 0)) else (some false)))))) else (if x8 = x457002 then (some (x9 == 0)) else (some false)))))
def laws_FnWhere.f (k : Nat) (l0 : List Int) : Option (Bool) := if (l0.length : Int) > 1048576 then (some true) else ((spec_DrawOpWhere.f k l0).bind fun bt448 => ((spec_OpWhere.f k bt448.1 bt448.2.1 bt448.2.2.1 bt448.2.2.2.1 bt448.2.2.2.2.1 bt448.2.2.2.2.2).bind fun bt457 => ((impl_OpWhere.f bt448.1 bt448.2.1 bt448.2.2.1 bt448.2.2.2.1 bt448.2.2.2.2.1 bt448.2.2.2.2.2).bind fun bt460 => (if (bt460.2.2 != bt457.2.2) = true then (laws_FnWhere.j0 k bt448.1 bt457.1 bt457.2.1 bt457.2.2 bt460.1 bt460.2.1 bt460.2.2 true bt448.2.1 bt448.2.2.1 bt448.2.2.2.1 bt448.2.2.2.2.1 bt448.2.2.2.2.2) else (if bt460.1 = bt457.1 then (if bt460.2.1 = bt457.2.1 then (laws_FnWhere.j0 k bt448.1 bt457.1 bt457.2.1 bt457.2.2 bt460.1 bt460.2.1 bt460.2.2 (!bt460.2.2) bt448.2.1 bt448.2.2.1 bt448.2.2.2.1 bt448.2.2.2.2.1 bt448.2.2.2.2.2) else (laws_FnWhere.j0 k bt448.1 bt457.1 bt457.2.1 bt457.2.2 bt460.1 bt460.2.1 bt460.2.2 true bt448.2.1 bt448.2.2.1 bt448.2.2.2.1 bt448.2.2.2.2.1 bt448.2.2.2.2.2)) else (laws_FnWhere.j0 k bt448.1 bt457.1 bt457.2.1 bt457.2.2 bt460.1 bt460.2.1 bt460.2.2 true bt448.2.1 bt448.2.2.1 bt448.2.2.2.1 bt448.2.2.2.2.1 bt448.2.2.2.2.2))))))
theorem laws_FnWhere.mono_l : ∀ k, (∀ y0 y1 y2 y3 y4 y5 y6 y7 y8 y9 y10 y11 y12, LeO (laws_FnWhere.j0 k y0 y1 y2 y3 y4 y5 y6 y7 y8 y9 y10 y11 y12) (laws_FnWhere.j0 (k + 1) y0 y1 y2 y3 y4 y5 y6 y7 y8 y9 y10 y11 y12))
 | 0 => fun _ _ _ _ _ _ _ _ _ _ _ _ _ r h => by simp [laws_FnWhere.j0] at h
 | k + 1 => by
  have ih0 := laws_FnWhere.mono_l k
  ·intro y0 y1 y2 y3 y4 y5 y6 y7 y8 y9 y10 y11 y12
   unfold laws_FnWhere.j0
   repeat' first
   | (with_reducible exact ih0 _ _ _ _ _ _ _ _ _ _ _ _ _)
   | (with_reducible exact laws_lpAmong.mono _ _ _)
   | (with_reducible exact laws_lpAt.mono _ _ _)
   | (with_reducible exact spec_DrawOpWhere.mono _ _)
   | (with_reducible exact spec_OpWhere.mono _ _ _ _ _ _ _)
   | (with_reducible exact LeO.refl _)
   | (with_reducible exact LeO.none _)
   | (with_reducible refine LeO.ite ?_ ?_)
   | (with_reducible refine LeO.bind ?_ (fun _ => ?_))
   | exact ih0 _ _ _ _ _ _ _ _ _ _ _ _ _
   | exact laws_lpAmong.mono _ _ _
   | exact laws_lpAt.mono _ _ _
   | exact spec_DrawOpWhere.mono _ _
   | exact spec_OpWhere.mono _ _ _ _ _ _ _
   | exact LeO.none _
   | refine LeO.ite ?_ ?_
   | refine LeO.bind ?_ (fun _ => ?_)
theorem laws_FnWhere.mono : ∀ a0 k, LeO (laws_FnWhere.f k a0) (laws_FnWhere.f (k + 1) a0) := by
 intro a0 k
 have ih0 := laws_FnWhere.mono_l k
 unfold laws_FnWhere.f
 repeat' first
   | (with_reducible exact ih0 _ _ _ _ _ _ _ _ _ _ _ _ _)
   | (with_reducible exact laws_lpAmong.mono _ _ _)
   | (with_reducible exact laws_lpAt.mono _ _ _)
   | (with_reducible exact spec_DrawOpWhere.mono _ _)
   | (with_reducible exact spec_OpWhere.mono _ _ _ _ _ _ _)
   | (with_reducible exact LeO.refl _)
   | (with_reducible exact LeO.none _)
   | (with_reducible refine LeO.ite ?_ ?_)
   | (with_reducible refine LeO.bind ?_ (fun _ => ?_))
   | exact ih0 _ _ _ _ _ _ _ _ _ _ _ _ _
   | exact laws_lpAmong.mono _ _ _
   | exact laws_lpAt.mono _ _ _
   | exact spec_DrawOpWhere.mono _ _
   | exact spec_OpWhere.mono _ _ _ _ _ _ _
   | exact LeO.none _
   | refine LeO.ite ?_ ?_
   | refine LeO.bind ?_ (fun _ => ?_)
def laws_FnWhere.T10 : Bool × List (List Nat × List Nat) := (true, [([], []), ([0], [0]), ([1], [1]), ([2], [2]), ([3], [3]), ([4, 3], [3, 4]), ([3], [3]), ([6, 3], [3, 6]), ([5, 7, 3], [3, 5, 7]), ([3, 8], [3, 8]), ([9, 3], [9]), ([10], [10]), ([10], [10]), ([12, 10], [10, 12]), ([11, 13, 10, 10], [10, 11, 13]), ([10], [10]), ([15, 10], [10, 15]), ([14, 16, 14, 10], [10, 14, 16]), ([10, 17], [10, 17])])
def laws_FnWhere.B10 : List Nat := [0, 1, 3, 7, 15, 31, 15, 79, 255, 511, 1023, 2047, 2047, 6143, 16383, 2047, 34815, 131071, 262143]
theorem laws_FnWhere.tab10 : rtab .any (opsOf Tryd.f21 10) = laws_FnWhere.T10 := by kernel_rfl
theorem laws_FnWhere.bits10 : waitsOk laws_FnWhere.T10.2 laws_FnWhere.B10 = true := by kernel_rfl
set_option maxHeartbeats 8000000 in
set_option maxRecDepth 100000 in
theorem laws_FnWhere.calls (k : Nat) (A0 : Option Addr) (c0 : Nat) (l0 : List Int) (r : Bool) (w : World) (hr0 : Kd.C (Kd.int .u8) w A0 l0.length l0) (hc0 : l0.length ≤ c0) (ht : TabOk w) (h : laws_FnWhere.f k l0 = some r) :
  Calls Tryd.prog 21 #[.slice A0 l0.length c0] w fun e w' => e = .returned (.bool r) ∧ Below w.heap.size w w' := by
 have hu40 := Tryd.underlying40
 have HR0 := Aside0.mk hr0
 have HC0 := Aside0.mk hc0
 clear hr0 hc0
 have HT := Aside0.mk ht
 clear ht
 have HB := Aside0.mk (Below.refl w.heap.size w)
 have H : (if (l0.length : Int) > 1048576 then (some true) else ((spec_DrawOpWhere.f k l0).bind fun bt448 => ((spec_OpWhere.f k bt448.1 bt448.2.1 bt448.2.2.1 bt448.2.2.2.1 bt448.2.2.2.2.1 bt448.2.2.2.2.2).bind fun bt457 => ((impl_OpWhere.f bt448.1 bt448.2.1 bt448.2.2.1 bt448.2.2.2.1 bt448.2.2.2.2.1 bt448.2.2.2.2.2).bind fun bt460 => (if (bt460.2.2 != bt457.2.2) = true then (laws_FnWhere.j0 k bt448.1 bt457.1 bt457.2.1 bt457.2.2 bt460.1 bt460.2.1 bt460.2.2 true bt448.2.1 bt448.2.2.1 bt448.2.2.2.1 bt448.2.2.2.2.1 bt448.2.2.2.2.2) else (if bt460.1 = bt457.1 then (if bt460.2.1 = bt457.2.1 then (laws_FnWhere.j0 k bt448.1 bt457.1 bt457.2.1 bt457.2.2 bt460.1 bt460.2.1 bt460.2.2 (!bt460.2.2) bt448.2.1 bt448.2.2.1 bt448.2.2.2.1 bt448.2.2.2.2.1 bt448.2.2.2.2.2) else (laws_FnWhere.j0 k bt448.1 bt457.1 bt457.2.1 bt457.2.2 bt460.1 bt460.2.1 bt460.2.2 true bt448.2.1 bt448.2.2.1 bt448.2.2.2.1 bt448.2.2.2.2.1 bt448.2.2.2.2.2)) else (laws_FnWhere.j0 k bt448.1 bt457.1 bt457.2.1 bt457.2.2 bt460.1 bt460.2.1 bt460.2.2 true bt448.2.1 bt448.2.2.1 bt448.2.2.2.1 bt448.2.2.2.2.1 bt448.2.2.2.2.2))))))) = some r := h
 clear h
 by_cases c2 : (l0.length : Int) > 1048576
 ·rw [if_pos c2] at H
  have c2b0 : decide (1048576 < (l0.length : Int)) = true := decide_eq_true c2
  have c2b1 : decide (1048576 < l0.length) = true := decide_eq_true (by omega)
  clear c2
  obtain rfl := Option.some.inj H
  go_enter Tryd.func21, Tryd.ntmps21
  go_wp2
  go_ret
  exact ⟨endA, belowA⟩
 ·rw [if_neg c2] at H
  have c2b0 : decide (1048576 < (l0.length : Int)) = false := decide_eq_false c2
  have c2b1 : decide (1048576 < l0.length) = false := decide_eq_false (by omega)
  clear c2
  replace H := Option.bind_eq_some_iff.mp H
  obtain ⟨⟨t448, t451, t452, t453, t454, t455⟩, A30, H⟩ := H
  (try dsimp only at H)
  have A3 := Aside0.mk A30
  clear A30
  replace H := Option.bind_eq_some_iff.mp H
  obtain ⟨⟨t457, t458, t459⟩, A40, H⟩ := H
  (try dsimp only at H)
  have A4 := Aside0.mk A40
  clear A40
  replace H := Option.bind_eq_some_iff.mp H
  obtain ⟨⟨t460, t461, t462⟩, A50, H⟩ := H
  (try dsimp only at H)
  have A5 := Aside0.mk A50
  clear A50
  have HC6 := Aside0.mk H
  clear H
  go_enter Tryd.func21, Tryd.ntmps21
  go_upto_region 6 with (first | ((with_reducible refine gate_callee (f := 59) rfl ?_); refine goesL_ (some 16) rfl rfl Tryd.func59 (by kernel_rfl) rfl #[.slice A0 l0.length c0] rfl argsA ?_; (with_reducible refine (spec_DrawOpWhere.calls k _ _ l0 t448 t451 t452 t453 t454 t455 _ ?side1 ?side2 A3.out).mono ?_); (case side1 => repeat (first | exact HR0.out | (with_reducible refine Kd.C_alloc ?_ _) | (with_reducible refine Kd.C_drewN ?_ _) | (with_reducible refine Kd.C_drew ?_))); (case side2 => exact HC0.out); rintro e w7 ⟨v449, rfl, ho0, hb⟩; refine ⟨_, rfl, ?_⟩; have n0_ := Aside0.mk (Kd.Q_lower ho0 (below_size belowA)); have n1_ := Aside0.mk (below_step belowA hb); clear HB; have HO450 := n0_; have HB := n1_; clear n0_ n1_; (try clear hb); (try clear hb2); (try clear hk); (try clear hi); (try clear ho0)) | ((with_reducible refine gate_dst (N := 4) rfl ?_); refine box_event ?hg (N := 4) ?hd (cs := #[.int .i64 0, .int .i64 0, .int .i64 0, .int .i64 0, .string (⟨#[]⟩ : ByteArray)]) (t := 40) ?hr ?_; (case hd => rfl); (case hg => rfl); (case hr => first | (go_simp; done) | (go_simp; rfl)); intro gb456 hg w8 hbox hb; have n0_ := Aside0.mk (Kd.Q_below (by (with_reducible repeat (first | apply Kd.Q_alloc | apply Kd.Q_drewN | apply Kd.Q_drew)); exact HO450.out) hb); have n1_ := Aside0.mk (below_step belowA hb); have n2_ := Aside0.mk (hbox); have n3_ := Aside0.mk ((by rw [hg]; exact (below_size belowA) : w.heap.size ≤ gb456)); have n4_ := Aside0.mk ((by rw [hg]; exact (below_size belowA) : w.heap.size ≤ gb456)); clear HO450; clear HB; have HO450 := n0_; have HB := n1_; have BK456 := n2_; have GW456 := n3_; have GE456 := n4_; clear n0_ n1_ n2_ n3_ n4_; clear hb hbox hg; obtain ⟨hcz9_0, hcz9_1, hcz9_2, hcz9_3, hcz9_4, hfz9_0, hfz9_1, hfz9_2, hfz9_3, hfz9_4⟩ := blk_facts5 BK456.out; obtain ⟨Ao10, co10, eo10, _⟩ := Kd.Q_slice HO450.out; subst eo10) | ((with_reducible refine gate_callee (f := 54) rfl ?_); refine goesL_ (some 22) rfl rfl Tryd.func54 (by kernel_rfl) rfl #[.slice Ao10 t448.length co10, .agg #[.int .i64 t451, .int .i64 t452, .int .i64 t453, .int .i64 t454, .string t455]] rfl argsA ?_; (with_reducible refine (spec_OpWhere.calls k _ _ t448 t451 t452 t453 t454 t455 t457 t458 t459 _ ?side1 ?side2 A4.out).mono ?_); (case side1 => refine (Kd.Q_reads' (e := 47) (base := w.heap.size) (ok := fun k_ => True) (n := t448.length) (c := co10) ?_).2.2; exact (by (with_reducible repeat (first | apply Kd.Q_alloc | apply Kd.Q_drewN | apply Kd.Q_drew)); exact (Kd.Q_mono (Kd.Q_far (p := ⟨gb456, 4, none⟩) (Kd.Q_far (p := ⟨gb456, 3, none⟩) (Kd.Q_far (p := ⟨gb456, 2, none⟩) (Kd.Q_far (p := ⟨gb456, 1, none⟩) (Kd.Q_far (p := ⟨gb456, 0, none⟩) (Kd.Q_types HO450.out BK456.out (by decide)) (fun _ hk => hk.2) (.int .i64 t451)) (fun _ hk => hk.2) (.int .i64 t452)) (fun _ hk => hk.2) (.int .i64 t453)) (fun _ hk => hk.2) (.int .i64 t454)) (fun _ hk => hk.2) (.string t455)) (fun _ h_ => h_.1)))); (case side2 => exact (Kd.Q_reads' HO450.out).2.1); rintro e w11 ⟨rfl, hb⟩; refine ⟨_, rfl, ?_⟩; have n0_ := Aside0.mk (Kd.Q_below (by (with_reducible repeat (first | apply Kd.Q_alloc | apply Kd.Q_drewN | apply Kd.Q_drew)); exact (Kd.Q_mono (Kd.Q_far (p := ⟨gb456, 4, none⟩) (Kd.Q_far (p := ⟨gb456, 3, none⟩) (Kd.Q_far (p := ⟨gb456, 2, none⟩) (Kd.Q_far (p := ⟨gb456, 1, none⟩) (Kd.Q_far (p := ⟨gb456, 0, none⟩) (Kd.Q_types HO450.out BK456.out (by decide)) (fun _ hk => hk.2) (.int .i64 t451)) (fun _ hk => hk.2) (.int .i64 t452)) (fun _ hk => hk.2) (.int .i64 t453)) (fun _ hk => hk.2) (.int .i64 t454)) (fun _ hk => hk.2) (.string t455)) (fun _ h_ => h_.1))) hb); have n1_ := Aside0.mk (blk_below (g := gb456) (o := .cells #[.int .i64 t451, .int .i64 t452, .int .i64 t453, .int .i64 t454, .string t455] 40 (0, 0)) (blk_put (blk_put (blk_put (blk_put (blk_put (blkC #[.int .i64 0, .int .i64 0, .int .i64 0, .int .i64 0, .string (⟨#[]⟩ : ByteArray)]) 0 _ rfl) 1 _ rfl) 2 _ rfl) 3 _ rfl) 4 _ rfl) hb); have n2_ := Aside0.mk (below_step belowA hb); clear HO450; clear BK456; clear HB; have HO450 := n0_; have BK456 := n1_; have HB := n2_; clear n0_ n1_ n2_; (try clear hb); (try clear hb2); (try clear hk); (try clear hi); obtain ⟨hcz12_0, hcz12_1, hcz12_2, hcz12_3, hcz12_4, hfz12_0, hfz12_1, hfz12_2, hfz12_3, hfz12_4⟩ := blk_facts5 BK456.out) | ((with_reducible refine gate_callee (f := 56) rfl ?_); refine goesL_ (some 29) rfl rfl Tryd.func56 (by kernel_rfl) rfl #[.slice Ao10 t448.length co10, .agg #[.int .i64 t451, .int .i64 t452, .int .i64 t453, .int .i64 t454, .string t455]] rfl argsA ?_; (with_reducible refine (impl_OpWhere.calls _ _ t448 t451 t452 t453 t454 t455 t460 t461 t462 _ ?side1 ?side2 ?side3 A5.out).mono ?_); (case side1 => repeat (first | exact (Kd.Q_reads' HO450.out).2.2 | (with_reducible refine Kd.C_alloc ?_ _) | (with_reducible refine Kd.C_drewN ?_ _) | (with_reducible refine Kd.C_drew ?_))); (case side2 => exact (Kd.Q_reads' HO450.out).2.1); (case side3 => exact TabOk.below HT.out belowA); rintro e w13 ⟨rfl, hb⟩; refine ⟨_, rfl, ?_⟩; have n0_ := Aside0.mk (Kd.Q_below (by (with_reducible repeat (first | apply Kd.Q_alloc | apply Kd.Q_drewN | apply Kd.Q_drew)); exact HO450.out) hb); have n1_ := Aside0.mk (blk_below (g := gb456) (o := .cells #[.int .i64 t451, .int .i64 t452, .int .i64 t453, .int .i64 t454, .string t455] 40 (0, 0)) blkA hb); have n2_ := Aside0.mk (below_step belowA hb); clear HO450; clear BK456; clear HB; have HO450 := n0_; have BK456 := n1_; have HB := n2_; clear n0_ n1_ n2_; (try clear hb); (try clear hb2); (try clear hk); (try clear hi)))
  (try simp only [Act.put, List.setIfInBounds_toArray, List.set_cons_zero, List.set_cons_succ])
  go_cut [49] (fun v49 wc => ∃ (kq : Nat) (x49_5 : Bool), v49 = .bool x49_5 ∧ Aside0 (laws_FnWhere.j0 kq t448 t457 t458 t459 t460 t461 t462 x49_5 t451 t452 t453 t454 t455 = some r) ∧ Aside0 (kq ≤ k) ∧ Aside0 (Kd.Q k47 47 wc w.heap.size (fun _ => True) (.slice Ao10 t448.length co10) t448) ∧ Aside0 (wc.heap[gb456]? = some (.cells #[.int .i64 t451, .int .i64 t452, .int .i64 t453, .int .i64 t454, .string t455] 40 (0, 0))) ∧ Aside0 (Below w.heap.size w wc))
  case first =>
   have H := HC6.out
   clear HC6
   by_cases c14 : (t462 != t459) = true
   ·rw [if_pos c14] at H
    have c14b0 : (t462 != t459) = true := c14
    (try (have c14b1 : decide (t462 = t459) = false := by simpa using c14))
    (try (have c14b2 : (t462 == t459) = false := by simpa using c14))
    (try (have c14b3 : ¬ (t462 = t459) := by simpa using c14))
    clear c14
    (first | rw [c14b0] | (simp only [i64_w, i32_w]; rw [c14b0]) | skip)
    have H' := Aside0.mk H
    clear H
    go_wp2
    go_meet
    case rel => exact ⟨_, (true), (by first | rfl | (simp; done) | (simp [*]; done)), H', ⟨by first | omega | exact Nat.le_refl _⟩, ⟨by (with_reducible repeat (first | apply Kd.Q_alloc | apply Kd.Q_drewN | apply Kd.Q_drew)); exact HO450.out⟩, ⟨by (with_reducible repeat (first | refine blk_drewN ?_ _ | refine blk_drew ?_ | refine blk_alloc ?_ _)); exact BK456.out⟩, ⟨belowA⟩⟩
   ·rw [if_neg c14] at H
    have c14b0 : (t462 != t459) = false := by simpa using c14
    (try (have c14b1 : decide (t462 = t459) = true := by simpa using c14))
    (try (have c14b2 : (t462 == t459) = true := by simpa using c14))
    clear c14
    (first | rw [c14b0] | (simp only [i64_w, i32_w]; rw [c14b0]) | skip)
    by_cases c15 : t460 = t457
    ·rw [if_pos c15] at H
     have c15b0 : (t460 == t457) = true := beq_iff_eq.mpr c15
     have c15b1 : (t460 != t457) = false := bne_eq_false_iff_eq.mpr c15
     clear c15
     by_cases c16 : t461 = t458
     ·rw [if_pos c16] at H
      have c16b0 : (t461 == t458) = true := beq_iff_eq.mpr c16
      have c16b1 : (t461 != t458) = false := bne_eq_false_iff_eq.mpr c16
      clear c16
      have H' := Aside0.mk H
      clear H
      go_wp2
      go_meet
      case rel => exact ⟨_, (!t462), (by first | rfl | (simp; done) | (simp [*]; done)), H', ⟨by first | omega | exact Nat.le_refl _⟩, ⟨by (with_reducible repeat (first | apply Kd.Q_alloc | apply Kd.Q_drewN | apply Kd.Q_drew)); exact HO450.out⟩, ⟨by (with_reducible repeat (first | refine blk_drewN ?_ _ | refine blk_drew ?_ | refine blk_alloc ?_ _)); exact BK456.out⟩, ⟨belowA⟩⟩
     ·rw [if_neg c16] at H
      have c16b0 : (t461 == t458) = false := beq_eq_false_iff_ne.mpr c16
      have c16b1 : (t461 != t458) = true := bne_iff_ne.mpr c16
      have H' := Aside0.mk H
      clear H
      go_wp2
      go_meet
      case rel => exact ⟨_, (true), (by first | rfl | (simp; done) | (simp [*]; done)), H', ⟨by first | omega | exact Nat.le_refl _⟩, ⟨by (with_reducible repeat (first | apply Kd.Q_alloc | apply Kd.Q_drewN | apply Kd.Q_drew)); exact HO450.out⟩, ⟨by (with_reducible repeat (first | refine blk_drewN ?_ _ | refine blk_drew ?_ | refine blk_alloc ?_ _)); exact BK456.out⟩, ⟨belowA⟩⟩
    ·rw [if_neg c15] at H
     have c15b0 : (t460 == t457) = false := beq_eq_false_iff_ne.mpr c15
     have c15b1 : (t460 != t457) = true := bne_iff_ne.mpr c15
     have H' := Aside0.mk H
     clear H
     go_wp2
     go_meet
     case rel => exact ⟨_, (true), (by first | rfl | (simp; done) | (simp [*]; done)), H', ⟨by first | omega | exact Nat.le_refl _⟩, ⟨by (with_reducible repeat (first | apply Kd.Q_alloc | apply Kd.Q_drewN | apply Kd.Q_drew)); exact HO450.out⟩, ⟨by (with_reducible repeat (first | refine blk_drewN ?_ _ | refine blk_drew ?_ | refine blk_alloc ?_ _)); exact BK456.out⟩, ⟨belowA⟩⟩
  case rest =>
   clear HC6
   try clear c1
   try clear c2
   try clear c2b0
   try clear c2b1
   try clear p2
   try clear c5
   try clear c14
   try clear c14b0
   try clear c14b1
   try clear c14b2
   try clear c15
   try clear c15b0
   try clear c15b1
   try clear c16
   try clear c16b0
   try clear c16b1
   try clear hcz12_0
   try clear hcz12_1
   try clear hcz12_2
   try clear hcz12_3
   try clear hcz12_4
   try clear hcz9_0
   try clear hcz9_1
   try clear hcz9_2
   try clear hcz9_3
   try clear hcz9_4
   try clear hfz12_0
   try clear hfz12_1
   try clear hfz12_2
   try clear hfz12_3
   try clear hfz12_4
   try clear hfz9_0
   try clear hfz9_1
   try clear hfz9_2
   try clear hfz9_3
   try clear hfz9_4
   obtain ⟨kq, x49_5, rfl, HA, HJ5, HO_3, BK456, HB⟩ := hcut
   cases kq with
   | zero => exact absurd HA.out (by simp [laws_FnWhere.j0])
   | succ kj5 =>
    have H := HA.out
    clear HA
    simp only [laws_FnWhere.j0] at H
    by_cases c17 : x49_5 = true
    ·subst c17
     have H1 : (if (t462 == t459) = true then (if t460 = t457 then (some (t461 == t458)) else (some false)) else (some false)) = some r := by rw [if_pos rfl] at H; exact H
     clear H
     have H := H1
     clear H1
     by_cases c18 : (t462 == t459) = true
     ·rw [if_pos c18] at H
      have c18b0 : (t462 == t459) = true := c18
      (try (have c18b1 : decide (t462 = t459) = true := by simpa using c18))
      (try (have c18b2 : (t462 == t459) = true := by simpa using c18))
      clear c18
      by_cases c19 : t460 = t457
      ·rw [if_pos c19] at H
       have c19b0 : (t460 == t457) = true := beq_iff_eq.mpr c19
       have c19b1 : (t460 != t457) = false := bne_eq_false_iff_eq.mpr c19
       clear c19
       obtain rfl := Option.some.inj H
       go_wp2
       go_ret
       exact ⟨endA, belowA⟩
      ·rw [if_neg c19] at H
       have c19b0 : (t460 == t457) = false := beq_eq_false_iff_ne.mpr c19
       have c19b1 : (t460 != t457) = true := bne_iff_ne.mpr c19
       obtain rfl := Option.some.inj H
       go_wp2
       go_ret
       exact ⟨endA, belowA⟩
     ·rw [if_neg c18] at H
      have c18b0 : (t462 == t459) = false := by simpa using c18
      (try (have c18b1 : decide (t462 = t459) = false := by simpa using c18))
      (try (have c18b2 : (t462 == t459) = false := by simpa using c18))
      (try (have c18b3 : ¬ (t462 = t459) := by simpa using c18))
      clear c18
      obtain rfl := Option.some.inj H
      go_wp2
      go_ret
      exact ⟨endA, belowA⟩
    ·replace c17 := Bool.eq_false_iff.mpr c17
     subst c17
     have H1 : ((laws_lpAt.f kj5 t448 t453).bind fun t463 => (if t463 < 0 then (if t460 = 3 then (some (t461 == 0)) else (some false)) else (if t454 > 0 then (if t454 = t452 then (if t460 = t453 then (some (t461 == 0)) else (some false)) else ((impl_TreeKids.f t448 t453).bind fun t464 => ((laws_lpAmong.f kj5 t464 t454).bind fun t467 => (if t467 = true then (if t460 = t453 then (some (t461 == t454)) else (some false)) else (if t460 = t453 then (some (t461 == 0)) else (some false)))))) else (if t460 = t453 then (some (t461 == 0)) else (some false))))) = some r := by rw [if_neg (show ¬ (false = true) by decide)] at H; exact H
     clear H
     have H := H1
     clear H1
     replace H := Option.bind_eq_some_iff.mp H
     obtain ⟨t463, A200, H⟩ := H
     (try dsimp only at H)
     have A20 := Aside0.mk A200
     clear A200
     by_cases c21 : t463 < 0
     ·rw [if_pos c21] at H
      have c21b0 : decide (t463 < 0) = true := decide_eq_true c21
      clear c21
      by_cases c22 : t460 = 3
      ·rw [if_pos c22] at H
       have c22b0 : (t460 == 3) = true := beq_iff_eq.mpr c22
       have c22b1 : (t460 != 3) = false := bne_eq_false_iff_eq.mpr c22
       clear c22
       obtain rfl := Option.some.inj H
       obtain ⟨hcz23_0, hcz23_1, hcz23_2, hcz23_3, hcz23_4, hfz23_0, hfz23_1, hfz23_2, hfz23_3, hfz23_4⟩ := blk_facts5 BK456.out
       go_wp2_with (first | ((with_reducible refine gate_callee (f := 43) rfl ?_); refine goesL_ (some 66) rfl rfl Tryd.func43 (by kernel_rfl) rfl #[.slice Ao10 t448.length co10, .int .i64 t453] rfl argsA ?_; (with_reducible refine (laws_lpAt.calls kj5 _ _ t448 t453 t463 _ ?side1 ?side2 A20.out).mono ?_); (case side1 => repeat (first | exact (Kd.Q_reads' HO_3.out).2.2 | (with_reducible refine Kd.C_alloc ?_ _) | (with_reducible refine Kd.C_drewN ?_ _) | (with_reducible refine Kd.C_drew ?_))); (case side2 => exact (Kd.Q_reads' HO_3.out).2.1); rintro e w' ⟨rfl, ⟨nd, rfl⟩⟩; refine ⟨_, rfl, ?_⟩))
       go_ret
       exact ⟨endA, belowA⟩
      ·rw [if_neg c22] at H
       have c22b0 : (t460 == 3) = false := beq_eq_false_iff_ne.mpr c22
       have c22b1 : (t460 != 3) = true := bne_iff_ne.mpr c22
       obtain rfl := Option.some.inj H
       obtain ⟨hcz24_0, hcz24_1, hcz24_2, hcz24_3, hcz24_4, hfz24_0, hfz24_1, hfz24_2, hfz24_3, hfz24_4⟩ := blk_facts5 BK456.out
       go_wp2_with (first | ((with_reducible refine gate_callee (f := 43) rfl ?_); refine goesL_ (some 66) rfl rfl Tryd.func43 (by kernel_rfl) rfl #[.slice Ao10 t448.length co10, .int .i64 t453] rfl argsA ?_; (with_reducible refine (laws_lpAt.calls kj5 _ _ t448 t453 t463 _ ?side1 ?side2 A20.out).mono ?_); (case side1 => repeat (first | exact (Kd.Q_reads' HO_3.out).2.2 | (with_reducible refine Kd.C_alloc ?_ _) | (with_reducible refine Kd.C_drewN ?_ _) | (with_reducible refine Kd.C_drew ?_))); (case side2 => exact (Kd.Q_reads' HO_3.out).2.1); rintro e w' ⟨rfl, ⟨nd, rfl⟩⟩; refine ⟨_, rfl, ?_⟩))
       go_ret
       exact ⟨endA, belowA⟩
     ·rw [if_neg c21] at H
      have c21b0 : decide (t463 < 0) = false := decide_eq_false c21
      clear c21
      by_cases c25 : t454 > 0
      ·rw [if_pos c25] at H
       have c25b0 : decide (0 < t454) = true := decide_eq_true c25
       clear c25
       by_cases c26 : t454 = t452
       ·rw [if_pos c26] at H
        have c26b0 : (t454 == t452) = true := beq_iff_eq.mpr c26
        have c26b1 : (t454 != t452) = false := bne_eq_false_iff_eq.mpr c26
        clear c26
        by_cases c27 : t460 = t453
        ·rw [if_pos c27] at H
         have c27b0 : (t460 == t453) = true := beq_iff_eq.mpr c27
         have c27b1 : (t460 != t453) = false := bne_eq_false_iff_eq.mpr c27
         clear c27
         obtain rfl := Option.some.inj H
         obtain ⟨hcz28_0, hcz28_1, hcz28_2, hcz28_3, hcz28_4, hfz28_0, hfz28_1, hfz28_2, hfz28_3, hfz28_4⟩ := blk_facts5 BK456.out
         try go_wp2_with (first | ((with_reducible refine gate_callee (f := 43) rfl ?_); refine goesL_ (some 66) rfl rfl Tryd.func43 (by kernel_rfl) rfl #[.slice Ao10 t448.length co10, .int .i64 t453] rfl argsA ?_; (with_reducible refine (laws_lpAt.calls kj5 _ _ t448 t453 t463 _ ?side1 ?side2 A20.out).mono ?_); (case side1 => repeat (first | exact (Kd.Q_reads' HO_3.out).2.2 | (with_reducible refine Kd.C_alloc ?_ _) | (with_reducible refine Kd.C_drewN ?_ _) | (with_reducible refine Kd.C_drew ?_))); (case side2 => exact (Kd.Q_reads' HO_3.out).2.1); rintro e w' ⟨rfl, ⟨nd, rfl⟩⟩; refine ⟨_, rfl, ?_⟩))
         (try (rw [drewN_self wc]; generalize hq_ : World.drewN wc _ = wc; have n0_ : Aside0 (Kd.Q k47 47 wc w.heap.size (fun _ => True) (.slice Ao10 t448.length co10) t448) := ⟨by rw [← hq_]; exact (by (with_reducible repeat (first | apply Kd.Q_alloc | apply Kd.Q_drewN | apply Kd.Q_drew)); exact HO_3.out)⟩; have n1_ : Aside0 (wc.heap[gb456]? = some (.cells #[.int .i64 t451, .int .i64 t452, .int .i64 t453, .int .i64 t454, .string t455] 40 (0, 0))) := ⟨by rw [← hq_]; exact blkA⟩; have n2_ : Aside0 (Below w.heap.size w wc) := ⟨by rw [← hq_]; exact belowA⟩; clear HO_3 BK456 HB hq_; have HO_3 := n0_; have BK456 := n1_; have HB := n2_; clear n0_ n1_ n2_))
         have n0_ := Aside0.mk (Kd.Q_drew HO_3.out)
         have n1_ := Aside0.mk (blk_drew BK456.out)
         have n2_ := Aside0.mk (below_drew1 HB.out)
         clear HO_3
         clear BK456
         clear HB
         have HO_3 := n0_
         have BK456 := n1_
         have HB := n2_
         clear n0_ n1_ n2_
         refine start_ (n := 19) (S := fun w' => w'.cell? ⟨gb456, 0, none⟩ = some (.int .i64 t451) ∧ w'.cell? ⟨gb456, 1, none⟩ = some (.int .i64 t452) ∧ w'.cell? ⟨gb456, 2, none⟩ = some (.int .i64 t453) ∧ w'.cell? ⟨gb456, 3, none⟩ = some (.int .i64 t454) ∧ w'.cell? ⟨gb456, 4, none⟩ = some (.string t455)) (ds := []) (tf 0 19) (by kernel_rfl) rfl rfl ⟨(blk_cell BK456.out 0).trans rfl, (blk_cell BK456.out 1).trans rfl, (blk_cell BK456.out 2).trans rfl, (blk_cell BK456.out 3).trans rfl, (blk_cell BK456.out 4).trans rfl⟩ (fun hHeld => ?_); refine with_tabW laws_FnWhere.tab10 laws_FnWhere.bits10 (fun HT_ HW_ => ?_)
         generalize wc.drew = w29 at HO_3 BK456 HB hHeld ⊢
         refine pure_ (i := 0) (N := some 74) (tf 1 18) rfl rfl (any_of HT_.out (by kernel_rfl)) (fun _ _ _ h => h) yldA putA ?_
         refine take_ (i := 1) (N := some 75) (tf 2 17) rfl rfl (take_ofW HT_.out HW_.out (by kernel_rfl)) (fun _ _ _ h => h) (Or.inl ⟨by rfl, by rintro w' ⟨s0, s1, s2, s3, s4⟩; go_simp; with_reducible rfl⟩) hHeld putA ?_
         refine pure_ (i := 2) (N := some 76) (tf 3 16) rfl rfl (any_of HT_.out (by kernel_rfl)) (fun _ _ _ h => h) yldA putA ?_
         refine pure_ (i := 3) (N := some 77) (tf 4 15) rfl rfl (any_of HT_.out (by kernel_rfl)) (fun _ _ _ h => h) yldA putA ?_
         refine pure_ (i := 4) (N := some 78) (tf 5 14) rfl rfl (any_of HT_.out (by kernel_rfl)) (fun _ _ _ h => h) yldA putA ?_
         refine pure_ (i := 6) (N := some 80) #[true, true, true, true, true, false, true, false, false, false, false, false, false, false, false, false, false, false, false] rfl rfl (any_of HT_.out (by kernel_rfl)) (fun _ _ _ h => h) yldA putA ?_
         refine take_ (i := 5) (N := some 79) (tf 7 12) rfl rfl (take_ofW HT_.out HW_.out (by kernel_rfl)) (fun _ _ _ h => h) (Or.inl ⟨by rfl, by rintro w' ⟨s0, s1, s2, s3, s4⟩; go_simp; with_reducible rfl⟩) hHeld putA ?_
         refine take_ (i := 7) (N := some 81) (tf 8 11) rfl rfl (take_ofW HT_.out HW_.out (by kernel_rfl)) (fun _ _ _ h => h) (Or.inl ⟨by rfl, by rintro w' ⟨s0, s1, s2, s3, s4⟩; go_simp; with_reducible rfl⟩) hHeld putA ?_
         refine pure_ (i := 8) (N := some 82) (tf 9 10) rfl rfl (any_of HT_.out (by kernel_rfl)) (fun _ _ _ h => h) yldA putA ?_
         refine pure_ (i := 9) (N := some 83) (tf 10 9) rfl rfl (any_of HT_.out (by kernel_rfl)) (fun _ _ _ h => h) yldA putA ?_
         refine pure_ (i := 10) (N := some 84) (tf 11 8) rfl rfl (any_of HT_.out (by kernel_rfl)) (fun _ _ _ h => h) yldA putA ?_
         refine pure_ (i := 11) (N := some 85) (tf 12 7) rfl rfl (any_of HT_.out (by kernel_rfl)) (fun _ _ _ h => h) yldU putA ?_
         refine pure_ (i := 12) (N := some 86) (tf 13 6) rfl rfl (any_of HT_.out (by kernel_rfl)) (fun _ _ _ h => h) yldU putA ?_
         refine pure_ (i := 13) (N := some 87) (tf 14 5) rfl rfl (any_of HT_.out (by kernel_rfl)) (fun _ _ _ h => h) yldU putA ?_
         refine pure_ (i := 14) (N := some 88) (tf 15 4) rfl rfl (any_of HT_.out (by kernel_rfl)) (fun _ _ _ h => h) yldU putA ?_
         refine pure_ (i := 15) (N := some 89) (tf 16 3) rfl rfl (any_of HT_.out (by kernel_rfl)) (fun _ _ _ h => h) yldU putA ?_
         refine pure_ (i := 16) (N := some 90) (tf 17 2) rfl rfl (any_of HT_.out (by kernel_rfl)) (fun _ _ _ h => h) yldU putA ?_
         refine pure_ (i := 17) (N := some 91) (tf 18 1) rfl rfl (any_of HT_.out (by kernel_rfl)) (fun _ _ _ h => h) yldU putA ?_
         refine pure_ (i := 18) (N := some 92) (tf 19 0) rfl rfl (any_of HT_.out (by kernel_rfl)) (fun _ _ _ h => h) yldA putA ?_
         refine done_ (done_of HT_.out (by kernel_rfl)) ?_
         obtain ⟨hcz30_0, hcz30_1, hcz30_2, hcz30_3, hcz30_4, hfz30_0, hfz30_1, hfz30_2, hfz30_3, hfz30_4⟩ := blk_facts5 BK456.out
         try go_wp2
         go_ret
         exact ⟨endA, belowA⟩
        ·rw [if_neg c27] at H
         have c27b0 : (t460 == t453) = false := beq_eq_false_iff_ne.mpr c27
         have c27b1 : (t460 != t453) = true := bne_iff_ne.mpr c27
         obtain rfl := Option.some.inj H
         obtain ⟨hcz31_0, hcz31_1, hcz31_2, hcz31_3, hcz31_4, hfz31_0, hfz31_1, hfz31_2, hfz31_3, hfz31_4⟩ := blk_facts5 BK456.out
         try go_wp2_with (first | ((with_reducible refine gate_callee (f := 43) rfl ?_); refine goesL_ (some 66) rfl rfl Tryd.func43 (by kernel_rfl) rfl #[.slice Ao10 t448.length co10, .int .i64 t453] rfl argsA ?_; (with_reducible refine (laws_lpAt.calls kj5 _ _ t448 t453 t463 _ ?side1 ?side2 A20.out).mono ?_); (case side1 => repeat (first | exact (Kd.Q_reads' HO_3.out).2.2 | (with_reducible refine Kd.C_alloc ?_ _) | (with_reducible refine Kd.C_drewN ?_ _) | (with_reducible refine Kd.C_drew ?_))); (case side2 => exact (Kd.Q_reads' HO_3.out).2.1); rintro e w' ⟨rfl, ⟨nd, rfl⟩⟩; refine ⟨_, rfl, ?_⟩))
         (try (rw [drewN_self wc]; generalize hq_ : World.drewN wc _ = wc; have n0_ : Aside0 (Kd.Q k47 47 wc w.heap.size (fun _ => True) (.slice Ao10 t448.length co10) t448) := ⟨by rw [← hq_]; exact (by (with_reducible repeat (first | apply Kd.Q_alloc | apply Kd.Q_drewN | apply Kd.Q_drew)); exact HO_3.out)⟩; have n1_ : Aside0 (wc.heap[gb456]? = some (.cells #[.int .i64 t451, .int .i64 t452, .int .i64 t453, .int .i64 t454, .string t455] 40 (0, 0))) := ⟨by rw [← hq_]; exact blkA⟩; have n2_ : Aside0 (Below w.heap.size w wc) := ⟨by rw [← hq_]; exact belowA⟩; clear HO_3 BK456 HB hq_; have HO_3 := n0_; have BK456 := n1_; have HB := n2_; clear n0_ n1_ n2_))
         have n0_ := Aside0.mk (Kd.Q_drew HO_3.out)
         have n1_ := Aside0.mk (blk_drew BK456.out)
         have n2_ := Aside0.mk (below_drew1 HB.out)
         clear HO_3
         clear BK456
         clear HB
         have HO_3 := n0_
         have BK456 := n1_
         have HB := n2_
         clear n0_ n1_ n2_
         refine start_ (n := 19) (S := fun w' => w'.cell? ⟨gb456, 0, none⟩ = some (.int .i64 t451) ∧ w'.cell? ⟨gb456, 1, none⟩ = some (.int .i64 t452) ∧ w'.cell? ⟨gb456, 2, none⟩ = some (.int .i64 t453) ∧ w'.cell? ⟨gb456, 3, none⟩ = some (.int .i64 t454) ∧ w'.cell? ⟨gb456, 4, none⟩ = some (.string t455)) (ds := []) (tf 0 19) (by kernel_rfl) rfl rfl ⟨(blk_cell BK456.out 0).trans rfl, (blk_cell BK456.out 1).trans rfl, (blk_cell BK456.out 2).trans rfl, (blk_cell BK456.out 3).trans rfl, (blk_cell BK456.out 4).trans rfl⟩ (fun hHeld => ?_); refine with_tabW laws_FnWhere.tab10 laws_FnWhere.bits10 (fun HT_ HW_ => ?_)
         generalize wc.drew = w32 at HO_3 BK456 HB hHeld ⊢
         refine pure_ (i := 0) (N := some 74) (tf 1 18) rfl rfl (any_of HT_.out (by kernel_rfl)) (fun _ _ _ h => h) yldA putA ?_
         refine take_ (i := 1) (N := some 75) (tf 2 17) rfl rfl (take_ofW HT_.out HW_.out (by kernel_rfl)) (fun _ _ _ h => h) (Or.inl ⟨by rfl, by rintro w' ⟨s0, s1, s2, s3, s4⟩; go_simp; with_reducible rfl⟩) hHeld putA ?_
         refine pure_ (i := 2) (N := some 76) (tf 3 16) rfl rfl (any_of HT_.out (by kernel_rfl)) (fun _ _ _ h => h) yldA putA ?_
         refine pure_ (i := 3) (N := some 77) (tf 4 15) rfl rfl (any_of HT_.out (by kernel_rfl)) (fun _ _ _ h => h) yldA putA ?_
         refine pure_ (i := 4) (N := some 78) (tf 5 14) rfl rfl (any_of HT_.out (by kernel_rfl)) (fun _ _ _ h => h) yldA putA ?_
         refine pure_ (i := 6) (N := some 80) #[true, true, true, true, true, false, true, false, false, false, false, false, false, false, false, false, false, false, false] rfl rfl (any_of HT_.out (by kernel_rfl)) (fun _ _ _ h => h) yldA putA ?_
         refine take_ (i := 5) (N := some 79) (tf 7 12) rfl rfl (take_ofW HT_.out HW_.out (by kernel_rfl)) (fun _ _ _ h => h) (Or.inl ⟨by rfl, by rintro w' ⟨s0, s1, s2, s3, s4⟩; go_simp; with_reducible rfl⟩) hHeld putA ?_
         refine take_ (i := 7) (N := some 81) (tf 8 11) rfl rfl (take_ofW HT_.out HW_.out (by kernel_rfl)) (fun _ _ _ h => h) (Or.inl ⟨by rfl, by rintro w' ⟨s0, s1, s2, s3, s4⟩; go_simp; with_reducible rfl⟩) hHeld putA ?_
         refine pure_ (i := 8) (N := some 82) (tf 9 10) rfl rfl (any_of HT_.out (by kernel_rfl)) (fun _ _ _ h => h) yldA putA ?_
         refine pure_ (i := 9) (N := some 83) (tf 10 9) rfl rfl (any_of HT_.out (by kernel_rfl)) (fun _ _ _ h => h) yldA putA ?_
         refine pure_ (i := 10) (N := some 84) (tf 11 8) rfl rfl (any_of HT_.out (by kernel_rfl)) (fun _ _ _ h => h) yldA putA ?_
         refine pure_ (i := 11) (N := some 85) (tf 12 7) rfl rfl (any_of HT_.out (by kernel_rfl)) (fun _ _ _ h => h) yldU putA ?_
         refine pure_ (i := 12) (N := some 86) (tf 13 6) rfl rfl (any_of HT_.out (by kernel_rfl)) (fun _ _ _ h => h) yldU putA ?_
         refine pure_ (i := 13) (N := some 87) (tf 14 5) rfl rfl (any_of HT_.out (by kernel_rfl)) (fun _ _ _ h => h) yldU putA ?_
         refine pure_ (i := 14) (N := some 88) (tf 15 4) rfl rfl (any_of HT_.out (by kernel_rfl)) (fun _ _ _ h => h) yldU putA ?_
         refine pure_ (i := 15) (N := some 89) (tf 16 3) rfl rfl (any_of HT_.out (by kernel_rfl)) (fun _ _ _ h => h) yldU putA ?_
         refine pure_ (i := 16) (N := some 90) (tf 17 2) rfl rfl (any_of HT_.out (by kernel_rfl)) (fun _ _ _ h => h) yldU putA ?_
         refine pure_ (i := 17) (N := some 91) (tf 18 1) rfl rfl (any_of HT_.out (by kernel_rfl)) (fun _ _ _ h => h) yldU putA ?_
         refine pure_ (i := 18) (N := some 92) (tf 19 0) rfl rfl (any_of HT_.out (by kernel_rfl)) (fun _ _ _ h => h) yldA putA ?_
         refine done_ (done_of HT_.out (by kernel_rfl)) ?_
         obtain ⟨hcz33_0, hcz33_1, hcz33_2, hcz33_3, hcz33_4, hfz33_0, hfz33_1, hfz33_2, hfz33_3, hfz33_4⟩ := blk_facts5 BK456.out
         try go_wp2
         go_ret
         exact ⟨endA, belowA⟩
       ·rw [if_neg c26] at H
        have c26b0 : (t454 == t452) = false := beq_eq_false_iff_ne.mpr c26
        have c26b1 : (t454 != t452) = true := bne_iff_ne.mpr c26
        replace H := Option.bind_eq_some_iff.mp H
        obtain ⟨t464, A340, H⟩ := H
        (try dsimp only at H)
        have A34 := Aside0.mk A340
        clear A340
        replace H := Option.bind_eq_some_iff.mp H
        obtain ⟨t467, A350, H⟩ := H
        (try dsimp only at H)
        have A35 := Aside0.mk A350
        clear A350
        by_cases c36 : t467 = true
        ·subst c36
         have H1 : (if t460 = t453 then (some (t461 == t454)) else (some false)) = some r := by rw [if_pos rfl] at H; exact H
         clear H
         have H := H1
         clear H1
         by_cases c37 : t460 = t453
         ·rw [if_pos c37] at H
          have c37b0 : (t460 == t453) = true := beq_iff_eq.mpr c37
          have c37b1 : (t460 != t453) = false := bne_eq_false_iff_eq.mpr c37
          clear c37
          obtain rfl := Option.some.inj H
          obtain ⟨hcz38_0, hcz38_1, hcz38_2, hcz38_3, hcz38_4, hfz38_0, hfz38_1, hfz38_2, hfz38_3, hfz38_4⟩ := blk_facts5 BK456.out
          try go_wp2_with (first | ((with_reducible refine gate_callee (f := 43) rfl ?_); refine goesL_ (some 66) rfl rfl Tryd.func43 (by kernel_rfl) rfl #[.slice Ao10 t448.length co10, .int .i64 t453] rfl argsA ?_; (with_reducible refine (laws_lpAt.calls kj5 _ _ t448 t453 t463 _ ?side1 ?side2 A20.out).mono ?_); (case side1 => repeat (first | exact (Kd.Q_reads' HO_3.out).2.2 | (with_reducible refine Kd.C_alloc ?_ _) | (with_reducible refine Kd.C_drewN ?_ _) | (with_reducible refine Kd.C_drew ?_))); (case side2 => exact (Kd.Q_reads' HO_3.out).2.1); rintro e w' ⟨rfl, ⟨nd, rfl⟩⟩; refine ⟨_, rfl, ?_⟩))
          (try (rw [drewN_self wc]; generalize hq_ : World.drewN wc _ = wc; have n0_ : Aside0 (Kd.Q k47 47 wc w.heap.size (fun _ => True) (.slice Ao10 t448.length co10) t448) := ⟨by rw [← hq_]; exact (by (with_reducible repeat (first | apply Kd.Q_alloc | apply Kd.Q_drewN | apply Kd.Q_drew)); exact HO_3.out)⟩; have n1_ : Aside0 (wc.heap[gb456]? = some (.cells #[.int .i64 t451, .int .i64 t452, .int .i64 t453, .int .i64 t454, .string t455] 40 (0, 0))) := ⟨by rw [← hq_]; exact blkA⟩; have n2_ : Aside0 (Below w.heap.size w wc) := ⟨by rw [← hq_]; exact belowA⟩; clear HO_3 BK456 HB hq_; have HO_3 := n0_; have BK456 := n1_; have HB := n2_; clear n0_ n1_ n2_))
          have n0_ := Aside0.mk (Kd.Q_drew HO_3.out)
          have n1_ := Aside0.mk (blk_drew BK456.out)
          have n2_ := Aside0.mk (below_drew1 HB.out)
          clear HO_3
          clear BK456
          clear HB
          have HO_3 := n0_
          have BK456 := n1_
          have HB := n2_
          clear n0_ n1_ n2_
          refine start_ (n := 19) (S := fun w' => w'.cell? ⟨gb456, 0, none⟩ = some (.int .i64 t451) ∧ w'.cell? ⟨gb456, 1, none⟩ = some (.int .i64 t452) ∧ w'.cell? ⟨gb456, 2, none⟩ = some (.int .i64 t453) ∧ w'.cell? ⟨gb456, 3, none⟩ = some (.int .i64 t454) ∧ w'.cell? ⟨gb456, 4, none⟩ = some (.string t455)) (ds := []) (tf 0 19) (by kernel_rfl) rfl rfl ⟨(blk_cell BK456.out 0).trans rfl, (blk_cell BK456.out 1).trans rfl, (blk_cell BK456.out 2).trans rfl, (blk_cell BK456.out 3).trans rfl, (blk_cell BK456.out 4).trans rfl⟩ (fun hHeld => ?_); refine with_tabW laws_FnWhere.tab10 laws_FnWhere.bits10 (fun HT_ HW_ => ?_)
          generalize wc.drew = w39 at HO_3 BK456 HB hHeld ⊢
          refine pure_ (i := 0) (N := some 74) (tf 1 18) rfl rfl (any_of HT_.out (by kernel_rfl)) (fun _ _ _ h => h) yldA putA ?_
          refine take_ (i := 1) (N := some 75) (tf 2 17) rfl rfl (take_ofW HT_.out HW_.out (by kernel_rfl)) (fun _ _ _ h => h) (Or.inl ⟨by rfl, by rintro w' ⟨s0, s1, s2, s3, s4⟩; go_simp; with_reducible rfl⟩) hHeld putA ?_
          refine pure_ (i := 2) (N := some 76) (tf 3 16) rfl rfl (any_of HT_.out (by kernel_rfl)) (fun _ _ _ h => h) yldA putA ?_
          refine pure_ (i := 3) (N := some 77) (tf 4 15) rfl rfl (any_of HT_.out (by kernel_rfl)) (fun _ _ _ h => h) yldA putA ?_
          refine pure_ (i := 4) (N := some 78) (tf 5 14) rfl rfl (any_of HT_.out (by kernel_rfl)) (fun _ _ _ h => h) yldA putA ?_
          refine pure_ (i := 6) (N := some 80) #[true, true, true, true, true, false, true, false, false, false, false, false, false, false, false, false, false, false, false] rfl rfl (any_of HT_.out (by kernel_rfl)) (fun _ _ _ h => h) yldA putA ?_
          refine take_ (i := 5) (N := some 79) (tf 7 12) rfl rfl (take_ofW HT_.out HW_.out (by kernel_rfl)) (fun _ _ _ h => h) (Or.inl ⟨by rfl, by rintro w' ⟨s0, s1, s2, s3, s4⟩; go_simp; with_reducible rfl⟩) hHeld putA ?_
          refine take_ (i := 7) (N := some 81) (tf 8 11) rfl rfl (take_ofW HT_.out HW_.out (by kernel_rfl)) (fun _ _ _ h => h) (Or.inl ⟨by rfl, by rintro w' ⟨s0, s1, s2, s3, s4⟩; go_simp; with_reducible rfl⟩) hHeld putA ?_
          refine pure_ (i := 8) (N := some 82) (tf 9 10) rfl rfl (any_of HT_.out (by kernel_rfl)) (fun _ _ _ h => h) yldA putA ?_
          refine pure_ (i := 9) (N := some 83) (tf 10 9) rfl rfl (any_of HT_.out (by kernel_rfl)) (fun _ _ _ h => h) yldA putA ?_
          refine pure_ (i := 10) (N := some 84) (tf 11 8) rfl rfl (any_of HT_.out (by kernel_rfl)) (fun _ _ _ h => h) yldA putA ?_
          refine pure_ (i := 11) (N := some 85) (tf 12 7) rfl rfl (any_of HT_.out (by kernel_rfl)) (fun _ _ _ h => h) yldA putA ?_
          refine pure_ (i := 12) (N := some 86) (tf 13 6) rfl rfl (any_of HT_.out (by kernel_rfl)) (fun _ _ _ h => h) yldA putA ?_
          refine pure_ (i := 15) (N := some 89) #[true, true, true, true, true, true, true, true, true, true, true, true, true, false, false, true, false, false, false] rfl rfl (any_of HT_.out (by kernel_rfl)) (fun _ _ _ h => h) yldA putA ?_
          refine take_ (i := 13) (N := some 87) #[true, true, true, true, true, true, true, true, true, true, true, true, true, true, false, true, false, false, false] rfl rfl (take_ofW HT_.out HW_.out (by kernel_rfl)) (fun _ _ _ h => h) (Or.inl ⟨by rfl, by rintro w' ⟨s0, s1, s2, s3, s4⟩; go_simp; with_reducible rfl⟩) hHeld putA ?_
          refine take_ (i := 16) (N := some 90) #[true, true, true, true, true, true, true, true, true, true, true, true, true, true, false, true, true, false, false] rfl rfl (take_ofW HT_.out HW_.out (by kernel_rfl)) (fun _ _ _ h => h) (Or.inl ⟨by rfl, by rintro w' ⟨s0, s1, s2, s3, s4⟩; go_simp; with_reducible rfl⟩) hHeld putA ?_
          refine one_ (i := 14) (N := some 88) (tf 17 2) rfl rfl (one_of HT_.out (by kernel_rfl)) (by decide) (fun K hK => ?_)
          refine goes_ Tryd.func34 (by kernel_rfl) rfl #[.slice Ao10 t448.length co10, .int .i64 t453] (by rfl) rfl rfl argsA ?_
          with_reducible refine (impl_TreeKids.calls _ _ t448 t453 t464 _ ?side1 ?side2 ?side3 A34.out).mono ?_
          (case side1 => repeat (first | exact (Kd.Q_reads' HO_3.out).2.2 | (with_reducible refine Kd.C_alloc ?_ _) | (with_reducible refine Kd.C_drewN ?_ _) | (with_reducible refine Kd.C_drew ?_)))
          (case side2 => exact (Kd.Q_reads' HO_3.out).2.1)
          (case side3 => exact TabOk.below HT.out belowA)
          rintro e w40 ⟨v465, rfl, ho0, hb⟩
          refine ⟨_, rfl, ?_⟩
          have n0_ := Aside0.mk (Kd.Q_below (by (with_reducible repeat (first | apply Kd.Q_alloc | apply Kd.Q_drewN | apply Kd.Q_drew)); exact HO_3.out) hb)
          have n1_ := Aside0.mk (Kd.R_lower ho0 (below_size belowA))
          have n2_ := Aside0.mk (blk_below (g := gb456) (o := .cells #[.int .i64 t451, .int .i64 t452, .int .i64 t453, .int .i64 t454, .string t455] 40 (0, 0)) blkA hb)
          have n3_ := Aside0.mk (below_step belowA hb)
          clear HO_3
          clear BK456
          clear HB
          have HO_3 := n0_
          have HO466 := n1_
          have BK456 := n2_
          have HB := n3_
          clear n0_ n1_ n2_ n3_
          (try clear hb)
          (try clear hb2)
          (try clear hk)
          (try clear hi)
          (try clear ho0)
          obtain ⟨Ao41, co41, eo41⟩ := Kd.R_slice HO466.out
          (first | subst eo41 | (injection eo41 with f1_ f2_ f3_; have f4_ := f1_.symm; have f5_ := f3_.symm; clear f1_ f2_ f3_; subst f4_; subst f5_))
          refine hK.out _ _ ⟨(blk_cell BK456.out 0).trans rfl, (blk_cell BK456.out 1).trans rfl, (blk_cell BK456.out 2).trans rfl, (blk_cell BK456.out 3).trans rfl, (blk_cell BK456.out 4).trans rfl⟩ (fun hHeld => ?_)
          clear hK K
          refine norm_ (a' := ?_) ?_ ?_
          rotate_left
          ·show Act.put _ (some 88) _ = _
           simp only [Act.put, List.setIfInBounds_toArray, List.set_cons_zero, List.set_cons_succ, i64_w, i32_w]
           rfl
          refine one_ (i := 17) (N := some 91) (tf 18 1) rfl rfl (one_of HT_.out (by kernel_rfl)) (by decide) (fun K hK => ?_)
          refine goes_ Tryd.func57 (by kernel_rfl) rfl #[.slice Ao41 t464.length co41, .int .i64 t454] (by rfl) rfl rfl argsA ?_
          with_reducible refine (laws_lpAmong.calls kj5 _ _ t464 t454 true _ ?side1 ?side2 A35.out).mono ?_
          (case side1 => repeat (first | exact (Kd.R_reads' HO466.out).2.2 | (with_reducible refine Kd.C_alloc ?_ _) | (with_reducible refine Kd.C_drewN ?_ _) | (with_reducible refine Kd.C_drew ?_)))
          (case side2 => exact (Kd.R_reads' HO466.out).2.1)
          rintro e w' ⟨rfl, ⟨nd, rfl⟩⟩
          refine ⟨_, rfl, ?_⟩
          refine hK.out _ _ ⟨(blk_cell BK456.out 0).trans rfl, (blk_cell BK456.out 1).trans rfl, (blk_cell BK456.out 2).trans rfl, (blk_cell BK456.out 3).trans rfl, (blk_cell BK456.out 4).trans rfl⟩ (fun hHeld => ?_)
          clear hK K
          refine norm_ (a' := ?_) ?_ ?_
          rotate_left
          ·show Act.put _ (some 91) _ = _
           simp only [Act.put, List.setIfInBounds_toArray, List.set_cons_zero, List.set_cons_succ, i64_w, i32_w]
           rfl
          refine pure_ (i := 18) (N := some 92) (tf 19 0) rfl rfl (any_of HT_.out (by kernel_rfl)) (fun _ _ _ h => h) yldA putA ?_
          refine done_ (done_of HT_.out (by kernel_rfl)) ?_
          obtain ⟨hcz42_0, hcz42_1, hcz42_2, hcz42_3, hcz42_4, hfz42_0, hfz42_1, hfz42_2, hfz42_3, hfz42_4⟩ := blk_facts5 BK456.out
          try go_wp2
          go_ret
          exact ⟨endA, belowA⟩
         ·rw [if_neg c37] at H
          have c37b0 : (t460 == t453) = false := beq_eq_false_iff_ne.mpr c37
          have c37b1 : (t460 != t453) = true := bne_iff_ne.mpr c37
          obtain rfl := Option.some.inj H
          obtain ⟨hcz43_0, hcz43_1, hcz43_2, hcz43_3, hcz43_4, hfz43_0, hfz43_1, hfz43_2, hfz43_3, hfz43_4⟩ := blk_facts5 BK456.out
          try go_wp2_with (first | ((with_reducible refine gate_callee (f := 43) rfl ?_); refine goesL_ (some 66) rfl rfl Tryd.func43 (by kernel_rfl) rfl #[.slice Ao10 t448.length co10, .int .i64 t453] rfl argsA ?_; (with_reducible refine (laws_lpAt.calls kj5 _ _ t448 t453 t463 _ ?side1 ?side2 A20.out).mono ?_); (case side1 => repeat (first | exact (Kd.Q_reads' HO_3.out).2.2 | (with_reducible refine Kd.C_alloc ?_ _) | (with_reducible refine Kd.C_drewN ?_ _) | (with_reducible refine Kd.C_drew ?_))); (case side2 => exact (Kd.Q_reads' HO_3.out).2.1); rintro e w' ⟨rfl, ⟨nd, rfl⟩⟩; refine ⟨_, rfl, ?_⟩))
          (try (rw [drewN_self wc]; generalize hq_ : World.drewN wc _ = wc; have n0_ : Aside0 (Kd.Q k47 47 wc w.heap.size (fun _ => True) (.slice Ao10 t448.length co10) t448) := ⟨by rw [← hq_]; exact (by (with_reducible repeat (first | apply Kd.Q_alloc | apply Kd.Q_drewN | apply Kd.Q_drew)); exact HO_3.out)⟩; have n1_ : Aside0 (wc.heap[gb456]? = some (.cells #[.int .i64 t451, .int .i64 t452, .int .i64 t453, .int .i64 t454, .string t455] 40 (0, 0))) := ⟨by rw [← hq_]; exact blkA⟩; have n2_ : Aside0 (Below w.heap.size w wc) := ⟨by rw [← hq_]; exact belowA⟩; clear HO_3 BK456 HB hq_; have HO_3 := n0_; have BK456 := n1_; have HB := n2_; clear n0_ n1_ n2_))
          have n0_ := Aside0.mk (Kd.Q_drew HO_3.out)
          have n1_ := Aside0.mk (blk_drew BK456.out)
          have n2_ := Aside0.mk (below_drew1 HB.out)
          clear HO_3
          clear BK456
          clear HB
          have HO_3 := n0_
          have BK456 := n1_
          have HB := n2_
          clear n0_ n1_ n2_
          refine start_ (n := 19) (S := fun w' => w'.cell? ⟨gb456, 0, none⟩ = some (.int .i64 t451) ∧ w'.cell? ⟨gb456, 1, none⟩ = some (.int .i64 t452) ∧ w'.cell? ⟨gb456, 2, none⟩ = some (.int .i64 t453) ∧ w'.cell? ⟨gb456, 3, none⟩ = some (.int .i64 t454) ∧ w'.cell? ⟨gb456, 4, none⟩ = some (.string t455)) (ds := []) (tf 0 19) (by kernel_rfl) rfl rfl ⟨(blk_cell BK456.out 0).trans rfl, (blk_cell BK456.out 1).trans rfl, (blk_cell BK456.out 2).trans rfl, (blk_cell BK456.out 3).trans rfl, (blk_cell BK456.out 4).trans rfl⟩ (fun hHeld => ?_); refine with_tabW laws_FnWhere.tab10 laws_FnWhere.bits10 (fun HT_ HW_ => ?_)
          generalize wc.drew = w44 at HO_3 BK456 HB hHeld ⊢
          refine pure_ (i := 0) (N := some 74) (tf 1 18) rfl rfl (any_of HT_.out (by kernel_rfl)) (fun _ _ _ h => h) yldA putA ?_
          refine take_ (i := 1) (N := some 75) (tf 2 17) rfl rfl (take_ofW HT_.out HW_.out (by kernel_rfl)) (fun _ _ _ h => h) (Or.inl ⟨by rfl, by rintro w' ⟨s0, s1, s2, s3, s4⟩; go_simp; with_reducible rfl⟩) hHeld putA ?_
          refine pure_ (i := 2) (N := some 76) (tf 3 16) rfl rfl (any_of HT_.out (by kernel_rfl)) (fun _ _ _ h => h) yldA putA ?_
          refine pure_ (i := 3) (N := some 77) (tf 4 15) rfl rfl (any_of HT_.out (by kernel_rfl)) (fun _ _ _ h => h) yldA putA ?_
          refine pure_ (i := 4) (N := some 78) (tf 5 14) rfl rfl (any_of HT_.out (by kernel_rfl)) (fun _ _ _ h => h) yldA putA ?_
          refine pure_ (i := 6) (N := some 80) #[true, true, true, true, true, false, true, false, false, false, false, false, false, false, false, false, false, false, false] rfl rfl (any_of HT_.out (by kernel_rfl)) (fun _ _ _ h => h) yldA putA ?_
          refine take_ (i := 5) (N := some 79) (tf 7 12) rfl rfl (take_ofW HT_.out HW_.out (by kernel_rfl)) (fun _ _ _ h => h) (Or.inl ⟨by rfl, by rintro w' ⟨s0, s1, s2, s3, s4⟩; go_simp; with_reducible rfl⟩) hHeld putA ?_
          refine take_ (i := 7) (N := some 81) (tf 8 11) rfl rfl (take_ofW HT_.out HW_.out (by kernel_rfl)) (fun _ _ _ h => h) (Or.inl ⟨by rfl, by rintro w' ⟨s0, s1, s2, s3, s4⟩; go_simp; with_reducible rfl⟩) hHeld putA ?_
          refine pure_ (i := 8) (N := some 82) (tf 9 10) rfl rfl (any_of HT_.out (by kernel_rfl)) (fun _ _ _ h => h) yldA putA ?_
          refine pure_ (i := 9) (N := some 83) (tf 10 9) rfl rfl (any_of HT_.out (by kernel_rfl)) (fun _ _ _ h => h) yldA putA ?_
          refine pure_ (i := 10) (N := some 84) (tf 11 8) rfl rfl (any_of HT_.out (by kernel_rfl)) (fun _ _ _ h => h) yldA putA ?_
          refine pure_ (i := 11) (N := some 85) (tf 12 7) rfl rfl (any_of HT_.out (by kernel_rfl)) (fun _ _ _ h => h) yldA putA ?_
          refine pure_ (i := 12) (N := some 86) (tf 13 6) rfl rfl (any_of HT_.out (by kernel_rfl)) (fun _ _ _ h => h) yldA putA ?_
          refine pure_ (i := 15) (N := some 89) #[true, true, true, true, true, true, true, true, true, true, true, true, true, false, false, true, false, false, false] rfl rfl (any_of HT_.out (by kernel_rfl)) (fun _ _ _ h => h) yldA putA ?_
          refine take_ (i := 13) (N := some 87) #[true, true, true, true, true, true, true, true, true, true, true, true, true, true, false, true, false, false, false] rfl rfl (take_ofW HT_.out HW_.out (by kernel_rfl)) (fun _ _ _ h => h) (Or.inl ⟨by rfl, by rintro w' ⟨s0, s1, s2, s3, s4⟩; go_simp; with_reducible rfl⟩) hHeld putA ?_
          refine take_ (i := 16) (N := some 90) #[true, true, true, true, true, true, true, true, true, true, true, true, true, true, false, true, true, false, false] rfl rfl (take_ofW HT_.out HW_.out (by kernel_rfl)) (fun _ _ _ h => h) (Or.inl ⟨by rfl, by rintro w' ⟨s0, s1, s2, s3, s4⟩; go_simp; with_reducible rfl⟩) hHeld putA ?_
          refine one_ (i := 14) (N := some 88) (tf 17 2) rfl rfl (one_of HT_.out (by kernel_rfl)) (by decide) (fun K hK => ?_)
          refine goes_ Tryd.func34 (by kernel_rfl) rfl #[.slice Ao10 t448.length co10, .int .i64 t453] (by rfl) rfl rfl argsA ?_
          with_reducible refine (impl_TreeKids.calls _ _ t448 t453 t464 _ ?side1 ?side2 ?side3 A34.out).mono ?_
          (case side1 => repeat (first | exact (Kd.Q_reads' HO_3.out).2.2 | (with_reducible refine Kd.C_alloc ?_ _) | (with_reducible refine Kd.C_drewN ?_ _) | (with_reducible refine Kd.C_drew ?_)))
          (case side2 => exact (Kd.Q_reads' HO_3.out).2.1)
          (case side3 => exact TabOk.below HT.out belowA)
          rintro e w45 ⟨v465, rfl, ho0, hb⟩
          refine ⟨_, rfl, ?_⟩
          have n0_ := Aside0.mk (Kd.Q_below (by (with_reducible repeat (first | apply Kd.Q_alloc | apply Kd.Q_drewN | apply Kd.Q_drew)); exact HO_3.out) hb)
          have n1_ := Aside0.mk (Kd.R_lower ho0 (below_size belowA))
          have n2_ := Aside0.mk (blk_below (g := gb456) (o := .cells #[.int .i64 t451, .int .i64 t452, .int .i64 t453, .int .i64 t454, .string t455] 40 (0, 0)) blkA hb)
          have n3_ := Aside0.mk (below_step belowA hb)
          clear HO_3
          clear BK456
          clear HB
          have HO_3 := n0_
          have HO466 := n1_
          have BK456 := n2_
          have HB := n3_
          clear n0_ n1_ n2_ n3_
          (try clear hb)
          (try clear hb2)
          (try clear hk)
          (try clear hi)
          (try clear ho0)
          obtain ⟨Ao46, co46, eo46⟩ := Kd.R_slice HO466.out
          (first | subst eo46 | (injection eo46 with f1_ f2_ f3_; have f4_ := f1_.symm; have f5_ := f3_.symm; clear f1_ f2_ f3_; subst f4_; subst f5_))
          refine hK.out _ _ ⟨(blk_cell BK456.out 0).trans rfl, (blk_cell BK456.out 1).trans rfl, (blk_cell BK456.out 2).trans rfl, (blk_cell BK456.out 3).trans rfl, (blk_cell BK456.out 4).trans rfl⟩ (fun hHeld => ?_)
          clear hK K
          refine norm_ (a' := ?_) ?_ ?_
          rotate_left
          ·show Act.put _ (some 88) _ = _
           simp only [Act.put, List.setIfInBounds_toArray, List.set_cons_zero, List.set_cons_succ, i64_w, i32_w]
           rfl
          refine one_ (i := 17) (N := some 91) (tf 18 1) rfl rfl (one_of HT_.out (by kernel_rfl)) (by decide) (fun K hK => ?_)
          refine goes_ Tryd.func57 (by kernel_rfl) rfl #[.slice Ao46 t464.length co46, .int .i64 t454] (by rfl) rfl rfl argsA ?_
          with_reducible refine (laws_lpAmong.calls kj5 _ _ t464 t454 true _ ?side1 ?side2 A35.out).mono ?_
          (case side1 => repeat (first | exact (Kd.R_reads' HO466.out).2.2 | (with_reducible refine Kd.C_alloc ?_ _) | (with_reducible refine Kd.C_drewN ?_ _) | (with_reducible refine Kd.C_drew ?_)))
          (case side2 => exact (Kd.R_reads' HO466.out).2.1)
          rintro e w' ⟨rfl, ⟨nd, rfl⟩⟩
          refine ⟨_, rfl, ?_⟩
          refine hK.out _ _ ⟨(blk_cell BK456.out 0).trans rfl, (blk_cell BK456.out 1).trans rfl, (blk_cell BK456.out 2).trans rfl, (blk_cell BK456.out 3).trans rfl, (blk_cell BK456.out 4).trans rfl⟩ (fun hHeld => ?_)
          clear hK K
          refine norm_ (a' := ?_) ?_ ?_
          rotate_left
          ·show Act.put _ (some 91) _ = _
           simp only [Act.put, List.setIfInBounds_toArray, List.set_cons_zero, List.set_cons_succ, i64_w, i32_w]
           rfl
          refine pure_ (i := 18) (N := some 92) (tf 19 0) rfl rfl (any_of HT_.out (by kernel_rfl)) (fun _ _ _ h => h) yldA putA ?_
          refine done_ (done_of HT_.out (by kernel_rfl)) ?_
          obtain ⟨hcz47_0, hcz47_1, hcz47_2, hcz47_3, hcz47_4, hfz47_0, hfz47_1, hfz47_2, hfz47_3, hfz47_4⟩ := blk_facts5 BK456.out
          try go_wp2
          go_ret
          exact ⟨endA, belowA⟩
        ·replace c36 := Bool.eq_false_iff.mpr c36
         subst c36
         have H1 : (if t460 = t453 then (some (t461 == 0)) else (some false)) = some r := by rw [if_neg (show ¬ (false = true) by decide)] at H; exact H
         clear H
         have H := H1
         clear H1
         by_cases c48 : t460 = t453
         ·rw [if_pos c48] at H
          have c48b0 : (t460 == t453) = true := beq_iff_eq.mpr c48
          have c48b1 : (t460 != t453) = false := bne_eq_false_iff_eq.mpr c48
          clear c48
          obtain rfl := Option.some.inj H
          obtain ⟨hcz49_0, hcz49_1, hcz49_2, hcz49_3, hcz49_4, hfz49_0, hfz49_1, hfz49_2, hfz49_3, hfz49_4⟩ := blk_facts5 BK456.out
          try go_wp2_with (first | ((with_reducible refine gate_callee (f := 43) rfl ?_); refine goesL_ (some 66) rfl rfl Tryd.func43 (by kernel_rfl) rfl #[.slice Ao10 t448.length co10, .int .i64 t453] rfl argsA ?_; (with_reducible refine (laws_lpAt.calls kj5 _ _ t448 t453 t463 _ ?side1 ?side2 A20.out).mono ?_); (case side1 => repeat (first | exact (Kd.Q_reads' HO_3.out).2.2 | (with_reducible refine Kd.C_alloc ?_ _) | (with_reducible refine Kd.C_drewN ?_ _) | (with_reducible refine Kd.C_drew ?_))); (case side2 => exact (Kd.Q_reads' HO_3.out).2.1); rintro e w' ⟨rfl, ⟨nd, rfl⟩⟩; refine ⟨_, rfl, ?_⟩))
          (try (rw [drewN_self wc]; generalize hq_ : World.drewN wc _ = wc; have n0_ : Aside0 (Kd.Q k47 47 wc w.heap.size (fun _ => True) (.slice Ao10 t448.length co10) t448) := ⟨by rw [← hq_]; exact (by (with_reducible repeat (first | apply Kd.Q_alloc | apply Kd.Q_drewN | apply Kd.Q_drew)); exact HO_3.out)⟩; have n1_ : Aside0 (wc.heap[gb456]? = some (.cells #[.int .i64 t451, .int .i64 t452, .int .i64 t453, .int .i64 t454, .string t455] 40 (0, 0))) := ⟨by rw [← hq_]; exact blkA⟩; have n2_ : Aside0 (Below w.heap.size w wc) := ⟨by rw [← hq_]; exact belowA⟩; clear HO_3 BK456 HB hq_; have HO_3 := n0_; have BK456 := n1_; have HB := n2_; clear n0_ n1_ n2_))
          have n0_ := Aside0.mk (Kd.Q_drew HO_3.out)
          have n1_ := Aside0.mk (blk_drew BK456.out)
          have n2_ := Aside0.mk (below_drew1 HB.out)
          clear HO_3
          clear BK456
          clear HB
          have HO_3 := n0_
          have BK456 := n1_
          have HB := n2_
          clear n0_ n1_ n2_
          refine start_ (n := 19) (S := fun w' => w'.cell? ⟨gb456, 0, none⟩ = some (.int .i64 t451) ∧ w'.cell? ⟨gb456, 1, none⟩ = some (.int .i64 t452) ∧ w'.cell? ⟨gb456, 2, none⟩ = some (.int .i64 t453) ∧ w'.cell? ⟨gb456, 3, none⟩ = some (.int .i64 t454) ∧ w'.cell? ⟨gb456, 4, none⟩ = some (.string t455)) (ds := []) (tf 0 19) (by kernel_rfl) rfl rfl ⟨(blk_cell BK456.out 0).trans rfl, (blk_cell BK456.out 1).trans rfl, (blk_cell BK456.out 2).trans rfl, (blk_cell BK456.out 3).trans rfl, (blk_cell BK456.out 4).trans rfl⟩ (fun hHeld => ?_); refine with_tabW laws_FnWhere.tab10 laws_FnWhere.bits10 (fun HT_ HW_ => ?_)
          generalize wc.drew = w50 at HO_3 BK456 HB hHeld ⊢
          refine pure_ (i := 0) (N := some 74) (tf 1 18) rfl rfl (any_of HT_.out (by kernel_rfl)) (fun _ _ _ h => h) yldA putA ?_
          refine take_ (i := 1) (N := some 75) (tf 2 17) rfl rfl (take_ofW HT_.out HW_.out (by kernel_rfl)) (fun _ _ _ h => h) (Or.inl ⟨by rfl, by rintro w' ⟨s0, s1, s2, s3, s4⟩; go_simp; with_reducible rfl⟩) hHeld putA ?_
          refine pure_ (i := 2) (N := some 76) (tf 3 16) rfl rfl (any_of HT_.out (by kernel_rfl)) (fun _ _ _ h => h) yldA putA ?_
          refine pure_ (i := 3) (N := some 77) (tf 4 15) rfl rfl (any_of HT_.out (by kernel_rfl)) (fun _ _ _ h => h) yldA putA ?_
          refine pure_ (i := 4) (N := some 78) (tf 5 14) rfl rfl (any_of HT_.out (by kernel_rfl)) (fun _ _ _ h => h) yldA putA ?_
          refine pure_ (i := 6) (N := some 80) #[true, true, true, true, true, false, true, false, false, false, false, false, false, false, false, false, false, false, false] rfl rfl (any_of HT_.out (by kernel_rfl)) (fun _ _ _ h => h) yldA putA ?_
          refine take_ (i := 5) (N := some 79) (tf 7 12) rfl rfl (take_ofW HT_.out HW_.out (by kernel_rfl)) (fun _ _ _ h => h) (Or.inl ⟨by rfl, by rintro w' ⟨s0, s1, s2, s3, s4⟩; go_simp; with_reducible rfl⟩) hHeld putA ?_
          refine take_ (i := 7) (N := some 81) (tf 8 11) rfl rfl (take_ofW HT_.out HW_.out (by kernel_rfl)) (fun _ _ _ h => h) (Or.inl ⟨by rfl, by rintro w' ⟨s0, s1, s2, s3, s4⟩; go_simp; with_reducible rfl⟩) hHeld putA ?_
          refine pure_ (i := 8) (N := some 82) (tf 9 10) rfl rfl (any_of HT_.out (by kernel_rfl)) (fun _ _ _ h => h) yldA putA ?_
          refine pure_ (i := 9) (N := some 83) (tf 10 9) rfl rfl (any_of HT_.out (by kernel_rfl)) (fun _ _ _ h => h) yldA putA ?_
          refine pure_ (i := 10) (N := some 84) (tf 11 8) rfl rfl (any_of HT_.out (by kernel_rfl)) (fun _ _ _ h => h) yldA putA ?_
          refine pure_ (i := 11) (N := some 85) (tf 12 7) rfl rfl (any_of HT_.out (by kernel_rfl)) (fun _ _ _ h => h) yldA putA ?_
          refine pure_ (i := 12) (N := some 86) (tf 13 6) rfl rfl (any_of HT_.out (by kernel_rfl)) (fun _ _ _ h => h) yldA putA ?_
          refine pure_ (i := 15) (N := some 89) #[true, true, true, true, true, true, true, true, true, true, true, true, true, false, false, true, false, false, false] rfl rfl (any_of HT_.out (by kernel_rfl)) (fun _ _ _ h => h) yldA putA ?_
          refine take_ (i := 13) (N := some 87) #[true, true, true, true, true, true, true, true, true, true, true, true, true, true, false, true, false, false, false] rfl rfl (take_ofW HT_.out HW_.out (by kernel_rfl)) (fun _ _ _ h => h) (Or.inl ⟨by rfl, by rintro w' ⟨s0, s1, s2, s3, s4⟩; go_simp; with_reducible rfl⟩) hHeld putA ?_
          refine take_ (i := 16) (N := some 90) #[true, true, true, true, true, true, true, true, true, true, true, true, true, true, false, true, true, false, false] rfl rfl (take_ofW HT_.out HW_.out (by kernel_rfl)) (fun _ _ _ h => h) (Or.inl ⟨by rfl, by rintro w' ⟨s0, s1, s2, s3, s4⟩; go_simp; with_reducible rfl⟩) hHeld putA ?_
          refine one_ (i := 14) (N := some 88) (tf 17 2) rfl rfl (one_of HT_.out (by kernel_rfl)) (by decide) (fun K hK => ?_)
          refine goes_ Tryd.func34 (by kernel_rfl) rfl #[.slice Ao10 t448.length co10, .int .i64 t453] (by rfl) rfl rfl argsA ?_
          with_reducible refine (impl_TreeKids.calls _ _ t448 t453 t464 _ ?side1 ?side2 ?side3 A34.out).mono ?_
          (case side1 => repeat (first | exact (Kd.Q_reads' HO_3.out).2.2 | (with_reducible refine Kd.C_alloc ?_ _) | (with_reducible refine Kd.C_drewN ?_ _) | (with_reducible refine Kd.C_drew ?_)))
          (case side2 => exact (Kd.Q_reads' HO_3.out).2.1)
          (case side3 => exact TabOk.below HT.out belowA)
          rintro e w51 ⟨v465, rfl, ho0, hb⟩
          refine ⟨_, rfl, ?_⟩
          have n0_ := Aside0.mk (Kd.Q_below (by (with_reducible repeat (first | apply Kd.Q_alloc | apply Kd.Q_drewN | apply Kd.Q_drew)); exact HO_3.out) hb)
          have n1_ := Aside0.mk (Kd.R_lower ho0 (below_size belowA))
          have n2_ := Aside0.mk (blk_below (g := gb456) (o := .cells #[.int .i64 t451, .int .i64 t452, .int .i64 t453, .int .i64 t454, .string t455] 40 (0, 0)) blkA hb)
          have n3_ := Aside0.mk (below_step belowA hb)
          clear HO_3
          clear BK456
          clear HB
          have HO_3 := n0_
          have HO466 := n1_
          have BK456 := n2_
          have HB := n3_
          clear n0_ n1_ n2_ n3_
          (try clear hb)
          (try clear hb2)
          (try clear hk)
          (try clear hi)
          (try clear ho0)
          obtain ⟨Ao52, co52, eo52⟩ := Kd.R_slice HO466.out
          (first | subst eo52 | (injection eo52 with f1_ f2_ f3_; have f4_ := f1_.symm; have f5_ := f3_.symm; clear f1_ f2_ f3_; subst f4_; subst f5_))
          refine hK.out _ _ ⟨(blk_cell BK456.out 0).trans rfl, (blk_cell BK456.out 1).trans rfl, (blk_cell BK456.out 2).trans rfl, (blk_cell BK456.out 3).trans rfl, (blk_cell BK456.out 4).trans rfl⟩ (fun hHeld => ?_)
          clear hK K
          refine norm_ (a' := ?_) ?_ ?_
          rotate_left
          ·show Act.put _ (some 88) _ = _
           simp only [Act.put, List.setIfInBounds_toArray, List.set_cons_zero, List.set_cons_succ, i64_w, i32_w]
           rfl
          refine one_ (i := 17) (N := some 91) (tf 18 1) rfl rfl (one_of HT_.out (by kernel_rfl)) (by decide) (fun K hK => ?_)
          refine goes_ Tryd.func57 (by kernel_rfl) rfl #[.slice Ao52 t464.length co52, .int .i64 t454] (by rfl) rfl rfl argsA ?_
          with_reducible refine (laws_lpAmong.calls kj5 _ _ t464 t454 false _ ?side1 ?side2 A35.out).mono ?_
          (case side1 => repeat (first | exact (Kd.R_reads' HO466.out).2.2 | (with_reducible refine Kd.C_alloc ?_ _) | (with_reducible refine Kd.C_drewN ?_ _) | (with_reducible refine Kd.C_drew ?_)))
          (case side2 => exact (Kd.R_reads' HO466.out).2.1)
          rintro e w' ⟨rfl, ⟨nd, rfl⟩⟩
          refine ⟨_, rfl, ?_⟩
          refine hK.out _ _ ⟨(blk_cell BK456.out 0).trans rfl, (blk_cell BK456.out 1).trans rfl, (blk_cell BK456.out 2).trans rfl, (blk_cell BK456.out 3).trans rfl, (blk_cell BK456.out 4).trans rfl⟩ (fun hHeld => ?_)
          clear hK K
          refine norm_ (a' := ?_) ?_ ?_
          rotate_left
          ·show Act.put _ (some 91) _ = _
           simp only [Act.put, List.setIfInBounds_toArray, List.set_cons_zero, List.set_cons_succ, i64_w, i32_w]
           rfl
          refine pure_ (i := 18) (N := some 92) (tf 19 0) rfl rfl (any_of HT_.out (by kernel_rfl)) (fun _ _ _ h => h) yldA putA ?_
          refine done_ (done_of HT_.out (by kernel_rfl)) ?_
          obtain ⟨hcz53_0, hcz53_1, hcz53_2, hcz53_3, hcz53_4, hfz53_0, hfz53_1, hfz53_2, hfz53_3, hfz53_4⟩ := blk_facts5 BK456.out
          try go_wp2
          go_ret
          exact ⟨endA, belowA⟩
         ·rw [if_neg c48] at H
          have c48b0 : (t460 == t453) = false := beq_eq_false_iff_ne.mpr c48
          have c48b1 : (t460 != t453) = true := bne_iff_ne.mpr c48
          obtain rfl := Option.some.inj H
          obtain ⟨hcz54_0, hcz54_1, hcz54_2, hcz54_3, hcz54_4, hfz54_0, hfz54_1, hfz54_2, hfz54_3, hfz54_4⟩ := blk_facts5 BK456.out
          try go_wp2_with (first | ((with_reducible refine gate_callee (f := 43) rfl ?_); refine goesL_ (some 66) rfl rfl Tryd.func43 (by kernel_rfl) rfl #[.slice Ao10 t448.length co10, .int .i64 t453] rfl argsA ?_; (with_reducible refine (laws_lpAt.calls kj5 _ _ t448 t453 t463 _ ?side1 ?side2 A20.out).mono ?_); (case side1 => repeat (first | exact (Kd.Q_reads' HO_3.out).2.2 | (with_reducible refine Kd.C_alloc ?_ _) | (with_reducible refine Kd.C_drewN ?_ _) | (with_reducible refine Kd.C_drew ?_))); (case side2 => exact (Kd.Q_reads' HO_3.out).2.1); rintro e w' ⟨rfl, ⟨nd, rfl⟩⟩; refine ⟨_, rfl, ?_⟩))
          (try (rw [drewN_self wc]; generalize hq_ : World.drewN wc _ = wc; have n0_ : Aside0 (Kd.Q k47 47 wc w.heap.size (fun _ => True) (.slice Ao10 t448.length co10) t448) := ⟨by rw [← hq_]; exact (by (with_reducible repeat (first | apply Kd.Q_alloc | apply Kd.Q_drewN | apply Kd.Q_drew)); exact HO_3.out)⟩; have n1_ : Aside0 (wc.heap[gb456]? = some (.cells #[.int .i64 t451, .int .i64 t452, .int .i64 t453, .int .i64 t454, .string t455] 40 (0, 0))) := ⟨by rw [← hq_]; exact blkA⟩; have n2_ : Aside0 (Below w.heap.size w wc) := ⟨by rw [← hq_]; exact belowA⟩; clear HO_3 BK456 HB hq_; have HO_3 := n0_; have BK456 := n1_; have HB := n2_; clear n0_ n1_ n2_))
          have n0_ := Aside0.mk (Kd.Q_drew HO_3.out)
          have n1_ := Aside0.mk (blk_drew BK456.out)
          have n2_ := Aside0.mk (below_drew1 HB.out)
          clear HO_3
          clear BK456
          clear HB
          have HO_3 := n0_
          have BK456 := n1_
          have HB := n2_
          clear n0_ n1_ n2_
          refine start_ (n := 19) (S := fun w' => w'.cell? ⟨gb456, 0, none⟩ = some (.int .i64 t451) ∧ w'.cell? ⟨gb456, 1, none⟩ = some (.int .i64 t452) ∧ w'.cell? ⟨gb456, 2, none⟩ = some (.int .i64 t453) ∧ w'.cell? ⟨gb456, 3, none⟩ = some (.int .i64 t454) ∧ w'.cell? ⟨gb456, 4, none⟩ = some (.string t455)) (ds := []) (tf 0 19) (by kernel_rfl) rfl rfl ⟨(blk_cell BK456.out 0).trans rfl, (blk_cell BK456.out 1).trans rfl, (blk_cell BK456.out 2).trans rfl, (blk_cell BK456.out 3).trans rfl, (blk_cell BK456.out 4).trans rfl⟩ (fun hHeld => ?_); refine with_tabW laws_FnWhere.tab10 laws_FnWhere.bits10 (fun HT_ HW_ => ?_)
          generalize wc.drew = w55 at HO_3 BK456 HB hHeld ⊢
          refine pure_ (i := 0) (N := some 74) (tf 1 18) rfl rfl (any_of HT_.out (by kernel_rfl)) (fun _ _ _ h => h) yldA putA ?_
          refine take_ (i := 1) (N := some 75) (tf 2 17) rfl rfl (take_ofW HT_.out HW_.out (by kernel_rfl)) (fun _ _ _ h => h) (Or.inl ⟨by rfl, by rintro w' ⟨s0, s1, s2, s3, s4⟩; go_simp; with_reducible rfl⟩) hHeld putA ?_
          refine pure_ (i := 2) (N := some 76) (tf 3 16) rfl rfl (any_of HT_.out (by kernel_rfl)) (fun _ _ _ h => h) yldA putA ?_
          refine pure_ (i := 3) (N := some 77) (tf 4 15) rfl rfl (any_of HT_.out (by kernel_rfl)) (fun _ _ _ h => h) yldA putA ?_
          refine pure_ (i := 4) (N := some 78) (tf 5 14) rfl rfl (any_of HT_.out (by kernel_rfl)) (fun _ _ _ h => h) yldA putA ?_
          refine pure_ (i := 6) (N := some 80) #[true, true, true, true, true, false, true, false, false, false, false, false, false, false, false, false, false, false, false] rfl rfl (any_of HT_.out (by kernel_rfl)) (fun _ _ _ h => h) yldA putA ?_
          refine take_ (i := 5) (N := some 79) (tf 7 12) rfl rfl (take_ofW HT_.out HW_.out (by kernel_rfl)) (fun _ _ _ h => h) (Or.inl ⟨by rfl, by rintro w' ⟨s0, s1, s2, s3, s4⟩; go_simp; with_reducible rfl⟩) hHeld putA ?_
          refine take_ (i := 7) (N := some 81) (tf 8 11) rfl rfl (take_ofW HT_.out HW_.out (by kernel_rfl)) (fun _ _ _ h => h) (Or.inl ⟨by rfl, by rintro w' ⟨s0, s1, s2, s3, s4⟩; go_simp; with_reducible rfl⟩) hHeld putA ?_
          refine pure_ (i := 8) (N := some 82) (tf 9 10) rfl rfl (any_of HT_.out (by kernel_rfl)) (fun _ _ _ h => h) yldA putA ?_
          refine pure_ (i := 9) (N := some 83) (tf 10 9) rfl rfl (any_of HT_.out (by kernel_rfl)) (fun _ _ _ h => h) yldA putA ?_
          refine pure_ (i := 10) (N := some 84) (tf 11 8) rfl rfl (any_of HT_.out (by kernel_rfl)) (fun _ _ _ h => h) yldA putA ?_
          refine pure_ (i := 11) (N := some 85) (tf 12 7) rfl rfl (any_of HT_.out (by kernel_rfl)) (fun _ _ _ h => h) yldA putA ?_
          refine pure_ (i := 12) (N := some 86) (tf 13 6) rfl rfl (any_of HT_.out (by kernel_rfl)) (fun _ _ _ h => h) yldA putA ?_
          refine pure_ (i := 15) (N := some 89) #[true, true, true, true, true, true, true, true, true, true, true, true, true, false, false, true, false, false, false] rfl rfl (any_of HT_.out (by kernel_rfl)) (fun _ _ _ h => h) yldA putA ?_
          refine take_ (i := 13) (N := some 87) #[true, true, true, true, true, true, true, true, true, true, true, true, true, true, false, true, false, false, false] rfl rfl (take_ofW HT_.out HW_.out (by kernel_rfl)) (fun _ _ _ h => h) (Or.inl ⟨by rfl, by rintro w' ⟨s0, s1, s2, s3, s4⟩; go_simp; with_reducible rfl⟩) hHeld putA ?_
          refine take_ (i := 16) (N := some 90) #[true, true, true, true, true, true, true, true, true, true, true, true, true, true, false, true, true, false, false] rfl rfl (take_ofW HT_.out HW_.out (by kernel_rfl)) (fun _ _ _ h => h) (Or.inl ⟨by rfl, by rintro w' ⟨s0, s1, s2, s3, s4⟩; go_simp; with_reducible rfl⟩) hHeld putA ?_
          refine one_ (i := 14) (N := some 88) (tf 17 2) rfl rfl (one_of HT_.out (by kernel_rfl)) (by decide) (fun K hK => ?_)
          refine goes_ Tryd.func34 (by kernel_rfl) rfl #[.slice Ao10 t448.length co10, .int .i64 t453] (by rfl) rfl rfl argsA ?_
          with_reducible refine (impl_TreeKids.calls _ _ t448 t453 t464 _ ?side1 ?side2 ?side3 A34.out).mono ?_
          (case side1 => repeat (first | exact (Kd.Q_reads' HO_3.out).2.2 | (with_reducible refine Kd.C_alloc ?_ _) | (with_reducible refine Kd.C_drewN ?_ _) | (with_reducible refine Kd.C_drew ?_)))
          (case side2 => exact (Kd.Q_reads' HO_3.out).2.1)
          (case side3 => exact TabOk.below HT.out belowA)
          rintro e w56 ⟨v465, rfl, ho0, hb⟩
          refine ⟨_, rfl, ?_⟩
          have n0_ := Aside0.mk (Kd.Q_below (by (with_reducible repeat (first | apply Kd.Q_alloc | apply Kd.Q_drewN | apply Kd.Q_drew)); exact HO_3.out) hb)
          have n1_ := Aside0.mk (Kd.R_lower ho0 (below_size belowA))
          have n2_ := Aside0.mk (blk_below (g := gb456) (o := .cells #[.int .i64 t451, .int .i64 t452, .int .i64 t453, .int .i64 t454, .string t455] 40 (0, 0)) blkA hb)
          have n3_ := Aside0.mk (below_step belowA hb)
          clear HO_3
          clear BK456
          clear HB
          have HO_3 := n0_
          have HO466 := n1_
          have BK456 := n2_
          have HB := n3_
          clear n0_ n1_ n2_ n3_
          (try clear hb)
          (try clear hb2)
          (try clear hk)
          (try clear hi)
          (try clear ho0)
          obtain ⟨Ao57, co57, eo57⟩ := Kd.R_slice HO466.out
          (first | subst eo57 | (injection eo57 with f1_ f2_ f3_; have f4_ := f1_.symm; have f5_ := f3_.symm; clear f1_ f2_ f3_; subst f4_; subst f5_))
          refine hK.out _ _ ⟨(blk_cell BK456.out 0).trans rfl, (blk_cell BK456.out 1).trans rfl, (blk_cell BK456.out 2).trans rfl, (blk_cell BK456.out 3).trans rfl, (blk_cell BK456.out 4).trans rfl⟩ (fun hHeld => ?_)
          clear hK K
          refine norm_ (a' := ?_) ?_ ?_
          rotate_left
          ·show Act.put _ (some 88) _ = _
           simp only [Act.put, List.setIfInBounds_toArray, List.set_cons_zero, List.set_cons_succ, i64_w, i32_w]
           rfl
          refine one_ (i := 17) (N := some 91) (tf 18 1) rfl rfl (one_of HT_.out (by kernel_rfl)) (by decide) (fun K hK => ?_)
          refine goes_ Tryd.func57 (by kernel_rfl) rfl #[.slice Ao57 t464.length co57, .int .i64 t454] (by rfl) rfl rfl argsA ?_
          with_reducible refine (laws_lpAmong.calls kj5 _ _ t464 t454 false _ ?side1 ?side2 A35.out).mono ?_
          (case side1 => repeat (first | exact (Kd.R_reads' HO466.out).2.2 | (with_reducible refine Kd.C_alloc ?_ _) | (with_reducible refine Kd.C_drewN ?_ _) | (with_reducible refine Kd.C_drew ?_)))
          (case side2 => exact (Kd.R_reads' HO466.out).2.1)
          rintro e w' ⟨rfl, ⟨nd, rfl⟩⟩
          refine ⟨_, rfl, ?_⟩
          refine hK.out _ _ ⟨(blk_cell BK456.out 0).trans rfl, (blk_cell BK456.out 1).trans rfl, (blk_cell BK456.out 2).trans rfl, (blk_cell BK456.out 3).trans rfl, (blk_cell BK456.out 4).trans rfl⟩ (fun hHeld => ?_)
          clear hK K
          refine norm_ (a' := ?_) ?_ ?_
          rotate_left
          ·show Act.put _ (some 91) _ = _
           simp only [Act.put, List.setIfInBounds_toArray, List.set_cons_zero, List.set_cons_succ, i64_w, i32_w]
           rfl
          refine pure_ (i := 18) (N := some 92) (tf 19 0) rfl rfl (any_of HT_.out (by kernel_rfl)) (fun _ _ _ h => h) yldA putA ?_
          refine done_ (done_of HT_.out (by kernel_rfl)) ?_
          obtain ⟨hcz58_0, hcz58_1, hcz58_2, hcz58_3, hcz58_4, hfz58_0, hfz58_1, hfz58_2, hfz58_3, hfz58_4⟩ := blk_facts5 BK456.out
          try go_wp2
          go_ret
          exact ⟨endA, belowA⟩
      ·rw [if_neg c25] at H
       have c25b0 : decide (0 < t454) = false := decide_eq_false c25
       clear c25
       by_cases c59 : t460 = t453
       ·rw [if_pos c59] at H
        have c59b0 : (t460 == t453) = true := beq_iff_eq.mpr c59
        have c59b1 : (t460 != t453) = false := bne_eq_false_iff_eq.mpr c59
        clear c59
        obtain rfl := Option.some.inj H
        obtain ⟨hcz60_0, hcz60_1, hcz60_2, hcz60_3, hcz60_4, hfz60_0, hfz60_1, hfz60_2, hfz60_3, hfz60_4⟩ := blk_facts5 BK456.out
        try go_wp2_with (first | ((with_reducible refine gate_callee (f := 43) rfl ?_); refine goesL_ (some 66) rfl rfl Tryd.func43 (by kernel_rfl) rfl #[.slice Ao10 t448.length co10, .int .i64 t453] rfl argsA ?_; (with_reducible refine (laws_lpAt.calls kj5 _ _ t448 t453 t463 _ ?side1 ?side2 A20.out).mono ?_); (case side1 => repeat (first | exact (Kd.Q_reads' HO_3.out).2.2 | (with_reducible refine Kd.C_alloc ?_ _) | (with_reducible refine Kd.C_drewN ?_ _) | (with_reducible refine Kd.C_drew ?_))); (case side2 => exact (Kd.Q_reads' HO_3.out).2.1); rintro e w' ⟨rfl, ⟨nd, rfl⟩⟩; refine ⟨_, rfl, ?_⟩))
        (try (rw [drewN_self wc]; generalize hq_ : World.drewN wc _ = wc; have n0_ : Aside0 (Kd.Q k47 47 wc w.heap.size (fun _ => True) (.slice Ao10 t448.length co10) t448) := ⟨by rw [← hq_]; exact (by (with_reducible repeat (first | apply Kd.Q_alloc | apply Kd.Q_drewN | apply Kd.Q_drew)); exact HO_3.out)⟩; have n1_ : Aside0 (wc.heap[gb456]? = some (.cells #[.int .i64 t451, .int .i64 t452, .int .i64 t453, .int .i64 t454, .string t455] 40 (0, 0))) := ⟨by rw [← hq_]; exact blkA⟩; have n2_ : Aside0 (Below w.heap.size w wc) := ⟨by rw [← hq_]; exact belowA⟩; clear HO_3 BK456 HB hq_; have HO_3 := n0_; have BK456 := n1_; have HB := n2_; clear n0_ n1_ n2_))
        have n0_ := Aside0.mk (Kd.Q_drew HO_3.out)
        have n1_ := Aside0.mk (blk_drew BK456.out)
        have n2_ := Aside0.mk (below_drew1 HB.out)
        clear HO_3
        clear BK456
        clear HB
        have HO_3 := n0_
        have BK456 := n1_
        have HB := n2_
        clear n0_ n1_ n2_
        refine start_ (n := 19) (S := fun w' => w'.cell? ⟨gb456, 0, none⟩ = some (.int .i64 t451) ∧ w'.cell? ⟨gb456, 1, none⟩ = some (.int .i64 t452) ∧ w'.cell? ⟨gb456, 2, none⟩ = some (.int .i64 t453) ∧ w'.cell? ⟨gb456, 3, none⟩ = some (.int .i64 t454) ∧ w'.cell? ⟨gb456, 4, none⟩ = some (.string t455)) (ds := []) (tf 0 19) (by kernel_rfl) rfl rfl ⟨(blk_cell BK456.out 0).trans rfl, (blk_cell BK456.out 1).trans rfl, (blk_cell BK456.out 2).trans rfl, (blk_cell BK456.out 3).trans rfl, (blk_cell BK456.out 4).trans rfl⟩ (fun hHeld => ?_); refine with_tabW laws_FnWhere.tab10 laws_FnWhere.bits10 (fun HT_ HW_ => ?_)
        generalize wc.drew = w61 at HO_3 BK456 HB hHeld ⊢
        refine pure_ (i := 0) (N := some 74) (tf 1 18) rfl rfl (any_of HT_.out (by kernel_rfl)) (fun _ _ _ h => h) yldA putA ?_
        refine take_ (i := 1) (N := some 75) (tf 2 17) rfl rfl (take_ofW HT_.out HW_.out (by kernel_rfl)) (fun _ _ _ h => h) (Or.inl ⟨by rfl, by rintro w' ⟨s0, s1, s2, s3, s4⟩; go_simp; with_reducible rfl⟩) hHeld putA ?_
        refine pure_ (i := 2) (N := some 76) (tf 3 16) rfl rfl (any_of HT_.out (by kernel_rfl)) (fun _ _ _ h => h) yldA putA ?_
        refine pure_ (i := 3) (N := some 77) (tf 4 15) rfl rfl (any_of HT_.out (by kernel_rfl)) (fun _ _ _ h => h) yldA putA ?_
        refine pure_ (i := 4) (N := some 78) (tf 5 14) rfl rfl (any_of HT_.out (by kernel_rfl)) (fun _ _ _ h => h) yldU putA ?_
        refine pure_ (i := 5) (N := some 79) (tf 6 13) rfl rfl (any_of HT_.out (by kernel_rfl)) (fun _ _ _ h => h) yldU putA ?_
        refine pure_ (i := 6) (N := some 80) (tf 7 12) rfl rfl (any_of HT_.out (by kernel_rfl)) (fun _ _ _ h => h) yldU putA ?_
        refine pure_ (i := 7) (N := some 81) (tf 8 11) rfl rfl (any_of HT_.out (by kernel_rfl)) (fun _ _ _ h => h) yldU putA ?_
        refine pure_ (i := 8) (N := some 82) (tf 9 10) rfl rfl (any_of HT_.out (by kernel_rfl)) (fun _ _ _ h => h) yldU putA ?_
        refine pure_ (i := 9) (N := some 83) (tf 10 9) rfl rfl (any_of HT_.out (by kernel_rfl)) (fun _ _ _ h => h) yldA putA ?_
        refine pure_ (i := 10) (N := some 84) (tf 11 8) rfl rfl (any_of HT_.out (by kernel_rfl)) (fun _ _ _ h => h) yldA putA ?_
        refine pure_ (i := 11) (N := some 85) (tf 12 7) rfl rfl (any_of HT_.out (by kernel_rfl)) (fun _ _ _ h => h) yldU putA ?_
        refine pure_ (i := 12) (N := some 86) (tf 13 6) rfl rfl (any_of HT_.out (by kernel_rfl)) (fun _ _ _ h => h) yldU putA ?_
        refine pure_ (i := 13) (N := some 87) (tf 14 5) rfl rfl (any_of HT_.out (by kernel_rfl)) (fun _ _ _ h => h) yldU putA ?_
        refine pure_ (i := 14) (N := some 88) (tf 15 4) rfl rfl (any_of HT_.out (by kernel_rfl)) (fun _ _ _ h => h) yldU putA ?_
        refine pure_ (i := 15) (N := some 89) (tf 16 3) rfl rfl (any_of HT_.out (by kernel_rfl)) (fun _ _ _ h => h) yldU putA ?_
        refine pure_ (i := 16) (N := some 90) (tf 17 2) rfl rfl (any_of HT_.out (by kernel_rfl)) (fun _ _ _ h => h) yldU putA ?_
        refine pure_ (i := 17) (N := some 91) (tf 18 1) rfl rfl (any_of HT_.out (by kernel_rfl)) (fun _ _ _ h => h) yldU putA ?_
        refine pure_ (i := 18) (N := some 92) (tf 19 0) rfl rfl (any_of HT_.out (by kernel_rfl)) (fun _ _ _ h => h) yldA putA ?_
        refine done_ (done_of HT_.out (by kernel_rfl)) ?_
        obtain ⟨hcz62_0, hcz62_1, hcz62_2, hcz62_3, hcz62_4, hfz62_0, hfz62_1, hfz62_2, hfz62_3, hfz62_4⟩ := blk_facts5 BK456.out
        try go_wp2
        go_ret
        exact ⟨endA, belowA⟩
       ·rw [if_neg c59] at H
        have c59b0 : (t460 == t453) = false := beq_eq_false_iff_ne.mpr c59
        have c59b1 : (t460 != t453) = true := bne_iff_ne.mpr c59
        obtain rfl := Option.some.inj H
        obtain ⟨hcz63_0, hcz63_1, hcz63_2, hcz63_3, hcz63_4, hfz63_0, hfz63_1, hfz63_2, hfz63_3, hfz63_4⟩ := blk_facts5 BK456.out
        try go_wp2_with (first | ((with_reducible refine gate_callee (f := 43) rfl ?_); refine goesL_ (some 66) rfl rfl Tryd.func43 (by kernel_rfl) rfl #[.slice Ao10 t448.length co10, .int .i64 t453] rfl argsA ?_; (with_reducible refine (laws_lpAt.calls kj5 _ _ t448 t453 t463 _ ?side1 ?side2 A20.out).mono ?_); (case side1 => repeat (first | exact (Kd.Q_reads' HO_3.out).2.2 | (with_reducible refine Kd.C_alloc ?_ _) | (with_reducible refine Kd.C_drewN ?_ _) | (with_reducible refine Kd.C_drew ?_))); (case side2 => exact (Kd.Q_reads' HO_3.out).2.1); rintro e w' ⟨rfl, ⟨nd, rfl⟩⟩; refine ⟨_, rfl, ?_⟩))
        (try (rw [drewN_self wc]; generalize hq_ : World.drewN wc _ = wc; have n0_ : Aside0 (Kd.Q k47 47 wc w.heap.size (fun _ => True) (.slice Ao10 t448.length co10) t448) := ⟨by rw [← hq_]; exact (by (with_reducible repeat (first | apply Kd.Q_alloc | apply Kd.Q_drewN | apply Kd.Q_drew)); exact HO_3.out)⟩; have n1_ : Aside0 (wc.heap[gb456]? = some (.cells #[.int .i64 t451, .int .i64 t452, .int .i64 t453, .int .i64 t454, .string t455] 40 (0, 0))) := ⟨by rw [← hq_]; exact blkA⟩; have n2_ : Aside0 (Below w.heap.size w wc) := ⟨by rw [← hq_]; exact belowA⟩; clear HO_3 BK456 HB hq_; have HO_3 := n0_; have BK456 := n1_; have HB := n2_; clear n0_ n1_ n2_))
        have n0_ := Aside0.mk (Kd.Q_drew HO_3.out)
        have n1_ := Aside0.mk (blk_drew BK456.out)
        have n2_ := Aside0.mk (below_drew1 HB.out)
        clear HO_3
        clear BK456
        clear HB
        have HO_3 := n0_
        have BK456 := n1_
        have HB := n2_
        clear n0_ n1_ n2_
        refine start_ (n := 19) (S := fun w' => w'.cell? ⟨gb456, 0, none⟩ = some (.int .i64 t451) ∧ w'.cell? ⟨gb456, 1, none⟩ = some (.int .i64 t452) ∧ w'.cell? ⟨gb456, 2, none⟩ = some (.int .i64 t453) ∧ w'.cell? ⟨gb456, 3, none⟩ = some (.int .i64 t454) ∧ w'.cell? ⟨gb456, 4, none⟩ = some (.string t455)) (ds := []) (tf 0 19) (by kernel_rfl) rfl rfl ⟨(blk_cell BK456.out 0).trans rfl, (blk_cell BK456.out 1).trans rfl, (blk_cell BK456.out 2).trans rfl, (blk_cell BK456.out 3).trans rfl, (blk_cell BK456.out 4).trans rfl⟩ (fun hHeld => ?_); refine with_tabW laws_FnWhere.tab10 laws_FnWhere.bits10 (fun HT_ HW_ => ?_)
        generalize wc.drew = w64 at HO_3 BK456 HB hHeld ⊢
        refine pure_ (i := 0) (N := some 74) (tf 1 18) rfl rfl (any_of HT_.out (by kernel_rfl)) (fun _ _ _ h => h) yldA putA ?_
        refine take_ (i := 1) (N := some 75) (tf 2 17) rfl rfl (take_ofW HT_.out HW_.out (by kernel_rfl)) (fun _ _ _ h => h) (Or.inl ⟨by rfl, by rintro w' ⟨s0, s1, s2, s3, s4⟩; go_simp; with_reducible rfl⟩) hHeld putA ?_
        refine pure_ (i := 2) (N := some 76) (tf 3 16) rfl rfl (any_of HT_.out (by kernel_rfl)) (fun _ _ _ h => h) yldA putA ?_
        refine pure_ (i := 3) (N := some 77) (tf 4 15) rfl rfl (any_of HT_.out (by kernel_rfl)) (fun _ _ _ h => h) yldA putA ?_
        refine pure_ (i := 4) (N := some 78) (tf 5 14) rfl rfl (any_of HT_.out (by kernel_rfl)) (fun _ _ _ h => h) yldU putA ?_
        refine pure_ (i := 5) (N := some 79) (tf 6 13) rfl rfl (any_of HT_.out (by kernel_rfl)) (fun _ _ _ h => h) yldU putA ?_
        refine pure_ (i := 6) (N := some 80) (tf 7 12) rfl rfl (any_of HT_.out (by kernel_rfl)) (fun _ _ _ h => h) yldU putA ?_
        refine pure_ (i := 7) (N := some 81) (tf 8 11) rfl rfl (any_of HT_.out (by kernel_rfl)) (fun _ _ _ h => h) yldU putA ?_
        refine pure_ (i := 8) (N := some 82) (tf 9 10) rfl rfl (any_of HT_.out (by kernel_rfl)) (fun _ _ _ h => h) yldU putA ?_
        refine pure_ (i := 9) (N := some 83) (tf 10 9) rfl rfl (any_of HT_.out (by kernel_rfl)) (fun _ _ _ h => h) yldA putA ?_
        refine pure_ (i := 10) (N := some 84) (tf 11 8) rfl rfl (any_of HT_.out (by kernel_rfl)) (fun _ _ _ h => h) yldA putA ?_
        refine pure_ (i := 11) (N := some 85) (tf 12 7) rfl rfl (any_of HT_.out (by kernel_rfl)) (fun _ _ _ h => h) yldU putA ?_
        refine pure_ (i := 12) (N := some 86) (tf 13 6) rfl rfl (any_of HT_.out (by kernel_rfl)) (fun _ _ _ h => h) yldU putA ?_
        refine pure_ (i := 13) (N := some 87) (tf 14 5) rfl rfl (any_of HT_.out (by kernel_rfl)) (fun _ _ _ h => h) yldU putA ?_
        refine pure_ (i := 14) (N := some 88) (tf 15 4) rfl rfl (any_of HT_.out (by kernel_rfl)) (fun _ _ _ h => h) yldU putA ?_
        refine pure_ (i := 15) (N := some 89) (tf 16 3) rfl rfl (any_of HT_.out (by kernel_rfl)) (fun _ _ _ h => h) yldU putA ?_
        refine pure_ (i := 16) (N := some 90) (tf 17 2) rfl rfl (any_of HT_.out (by kernel_rfl)) (fun _ _ _ h => h) yldU putA ?_
        refine pure_ (i := 17) (N := some 91) (tf 18 1) rfl rfl (any_of HT_.out (by kernel_rfl)) (fun _ _ _ h => h) yldU putA ?_
        refine pure_ (i := 18) (N := some 92) (tf 19 0) rfl rfl (any_of HT_.out (by kernel_rfl)) (fun _ _ _ h => h) yldA putA ?_
        refine done_ (done_of HT_.out (by kernel_rfl)) ?_
        obtain ⟨hcz65_0, hcz65_1, hcz65_2, hcz65_3, hcz65_4, hfz65_0, hfz65_1, hfz65_2, hfz65_3, hfz65_4⟩ := blk_facts5 BK456.out
        try go_wp2
        go_ret
        exact ⟨endA, belowA⟩
def laws_FnWhere.Pure : Prop := ∀ (l0 : List Int), (l0.length * 1 ≤ 140737488351232) → (∀ x_ ∈ l0, (Lit.int .u8 x_).wf = true) → ∃ k, laws_FnWhere.f k l0 = some true
theorem laws_FnWhere.walk (P : laws_FnWhere.Pure) (A0 : Option Addr) (c0 : Nat) (l0 : List Int) (w : World) (hr0 : Kd.C (Kd.int .u8) w A0 l0.length l0) (hc0 : l0.length ≤ c0) (ht : TabOk w) (w0_0 : l0.length * 1 ≤ 140737488351232) (w0_1 : ∀ x_ ∈ l0, (Lit.int .u8 x_).wf = true) :
  Calls Tryd.prog 21 #[.slice A0 l0.length c0] w fun e w' => e = .returned (.bool true) ∧ Below w.heap.size w w' := by
 obtain ⟨k, h⟩ := P l0 w0_0 w0_1
 refine (laws_FnWhere.calls k A0 c0 l0 true w hr0 hc0 ht h).mono ?_
 rintro e w' ⟨rfl, hd⟩
 exact ⟨rfl, hd⟩
end Go.Proofs.YtaajcbbbmpdcnaaDoor.P
