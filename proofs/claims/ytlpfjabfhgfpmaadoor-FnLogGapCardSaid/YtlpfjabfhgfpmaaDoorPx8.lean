
-- Written by wip/tools/pprint.py (a program of this session) over the kit's printer; not trusted: Lean checks it.
import Derived.Test.YtlpfjabfhgfpmaaDoorPx0
import Derived.Test.YtlpfjabfhgfpmaaDoorPx2
import Derived.Test.YtlpfjabfhgfpmaaDoorPx5
import Derived.Test.YtlpfjabfhgfpmaaDoorPx6
import Derived.Test.YtlpfjabfhgfpmaaDoorPx7
import Derived.Test.YtlpfjabfhgfpmaaDoorV
namespace Go.Proofs.YtlpfjabfhgfpmaaDoor.P
open Go.RowKit Go.Proofs.YtlpfjabfhgfpmaaDoorW.PrintWords Go.Proofs.YtlpfjabfhgfpmaaDoorW.PrintLast Go.Proofs.YtlpfjabfhgfpmaaDoorW.PrintMore
attribute [local go_sem] cell_set_set cell_set_far_set max2_int min2_int max_two min_two max_three min_three max_four min_four   -- for this text's walks alone
set_option linter.unusedVariables false
set_option linter.unusedSimpArgs false
mutual
def spec_l72Op.j0 : Nat → Int → Int → Int → Int → List Int → Int → Bool → List Int → Int → Option (Int × Int × Int × Int × ByteArray × Int)
 | 0, _, _, _, _, _, _, _, _, _ => none
 | k + 1, x2, x3, x9, x10, x11, x12, x40, x1000, x1001 => if x40 = true then ((spec_l6Rd_pick.f k x1000 x1001 (x11.length : Int)).bind fun bt298 => (if 0 ≤ bt298.1 then (if bt298.1 < (x11.length : Int) then (spec_l72Op.j1 k x2 x3 x9 x10 (rd x11 bt298.1) x1000 bt298.2) else (none)) else (none))) else (spec_l72Op.j1 k x2 x3 x9 x10 x12 x1000 x1001)
def spec_l72Op.j1 : Nat → Int → Int → Int → Int → Int → List Int → Int → Option (Int × Int × Int × Int × ByteArray × Int)
 | 0, _, _, _, _, _, _, _ => none
 | k + 1, x2, x3, x9, x10, x12, x1000, x1001 => (spec_l71Text.f k x1000 x1001).bind fun bt301 => ((spec_l1Text.f k bt301.1).bind fun t303 => (if t303 = true then (spec_l72Op.j2 k x2 x3 x9 x10 x12 bt301.1 x1000 bt301.2) else (spec_l72Op.j2 k x2 x3 x9 x10 x12 (⟨#[97]⟩ : ByteArray) x1000 bt301.2)))
def spec_l72Op.j2 : Nat → Int → Int → Int → Int → Int → ByteArray → List Int → Int → Option (Int × Int × Int × Int × ByteArray × Int)
 | 0, _, _, _, _, _, _, _, _ => none
 | k + 1, x2, x3, x9, x10, x12, x13, x1000, x1001 => (spec_l6Rd_pick.f k x1000 x1001 6).bind fun bt304 => (if bt304.1 = 0 then ((spec_l71Id.f k x1000 bt304.2).bind fun bt306 => (spec_l72Op.j3 k x2 x3 x9 bt306.1 x12 x13 x1000 bt306.2)) else (spec_l72Op.j3 k x2 x3 x9 x10 x12 x13 x1000 bt304.2))
def spec_l72Op.j3 : Nat → Int → Int → Int → Int → Int → ByteArray → List Int → Int → Option (Int × Int × Int × Int × ByteArray × Int)
 | 0, _, _, _, _, _, _, _, _ => none
 | k + 1, x2, x3, x9, x10, x12, x13, x1000, x1001 => if x3 < 6 then ((spec_l6Rd_pick.f k x1000 x1001 3).bind fun bt308 => (if bt308.1 = 0 then (spec_l72Op.j4 k x2 x3 x9 x10 x12 x13 true x1000 bt308.2) else ((spec_l1Made.f x9).bind fun t310 => (spec_l72Op.j4 k x2 x3 x9 x10 x12 x13 (!t310) x1000 bt308.2)))) else (spec_l72Op.j4 k x2 x3 x9 x10 x12 x13 false x1000 x1001)
def spec_l72Op.j4 : Nat → Int → Int → Int → Int → Int → ByteArray → Bool → List Int → Int → Option (Int × Int × Int × Int × ByteArray × Int)
 | 0, _, _, _, _, _, _, _, _, _ => none
 | k + 1, x2, x3, x9, x10, x12, x13, x69, x1000, x1001 => if x69 = true then ((spec_RowMade.f x2 (wrap64 (x3 + 1))).bind fun t311 => (some (1, t311, x10, x12, x13, x1001))) else ((spec_l1Made.f x9).bind fun t312 => (if t312 = true then ((spec_l6Rd_pick.f k x1000 x1001 3).bind fun bt313 => (if bt313.1 = 0 then (some (2, x9, 0, 0, x13, bt313.2)) else (some (3, x9, x10, x12, (⟨#[]⟩ : ByteArray), bt313.2)))) else ((spec_l71Id.f k x1000 x1001).bind fun bt315 => ((spec_l6Rd_pick.f k x1000 bt315.2 3).bind fun bt317 => (if bt317.1 = 0 then (some (2, bt315.1, 0, 0, x13, bt317.2)) else (some (3, bt315.1, x10, x12, (⟨#[]⟩ : ByteArray), bt317.2)))))))
end
def spec_l72Op.f (k : Nat) (s0_0 : List Int) (s0_1 : Int) (l1 : List (S105)) (a2 : Int) (a3 : Int) : Option (Int × Int × Int × Int × ByteArray × Int) := (spec_l6Rd_pick.f k s0_0 s0_1 (l1.length : Int)).bind fun bt287 => (if 0 ≤ bt287.1 then (if bt287.1 < (l1.length : Int) then ((spec_l6Rd_pick.f k s0_0 bt287.2 (l1.length : Int)).bind fun bt290 => (if 0 ≤ bt290.1 then (if bt290.1 < (l1.length : Int) then ((spec_l2Kids.f k l1 ((rd_T105 l1 bt290.1).f0)).bind fun t293 => (if (t293.length : Int) > 0 then ((spec_l6Rd_pick.f k s0_0 bt290.2 2).bind fun bt296 => (spec_l72Op.j0 k a2 a3 ((rd_T105 l1 bt287.1).f0) ((rd_T105 l1 bt290.1).f0) t293 0 (bt296.1 == 0) s0_0 bt296.2)) else (spec_l72Op.j0 k a2 a3 ((rd_T105 l1 bt287.1).f0) ((rd_T105 l1 bt290.1).f0) t293 0 false s0_0 bt290.2))) else (none)) else (none))) else (none)) else (none))
theorem spec_l72Op.mono_l : ∀ k, (∀ y0 y1 y2 y3 y4 y5 y6 y7 y8, LeO (spec_l72Op.j0 k y0 y1 y2 y3 y4 y5 y6 y7 y8) (spec_l72Op.j0 (k + 1) y0 y1 y2 y3 y4 y5 y6 y7 y8)) ∧ (∀ y0 y1 y2 y3 y4 y5 y6, LeO (spec_l72Op.j1 k y0 y1 y2 y3 y4 y5 y6) (spec_l72Op.j1 (k + 1) y0 y1 y2 y3 y4 y5 y6)) ∧ (∀ y0 y1 y2 y3 y4 y5 y6 y7, LeO (spec_l72Op.j2 k y0 y1 y2 y3 y4 y5 y6 y7) (spec_l72Op.j2 (k + 1) y0 y1 y2 y3 y4 y5 y6 y7)) ∧ (∀ y0 y1 y2 y3 y4 y5 y6 y7, LeO (spec_l72Op.j3 k y0 y1 y2 y3 y4 y5 y6 y7) (spec_l72Op.j3 (k + 1) y0 y1 y2 y3 y4 y5 y6 y7)) ∧ (∀ y0 y1 y2 y3 y4 y5 y6 y7 y8, LeO (spec_l72Op.j4 k y0 y1 y2 y3 y4 y5 y6 y7 y8) (spec_l72Op.j4 (k + 1) y0 y1 y2 y3 y4 y5 y6 y7 y8))
 | 0 => ⟨fun _ _ _ _ _ _ _ _ _ r h => by simp [spec_l72Op.j0] at h, fun _ _ _ _ _ _ _ r h => by simp [spec_l72Op.j1] at h, fun _ _ _ _ _ _ _ _ r h => by simp [spec_l72Op.j2] at h, fun _ _ _ _ _ _ _ _ r h => by simp [spec_l72Op.j3] at h, fun _ _ _ _ _ _ _ _ _ r h => by simp [spec_l72Op.j4] at h⟩
 | k + 1 => by
  obtain ⟨ih0, ih1, ih2, ih3, ih4⟩ := spec_l72Op.mono_l k
  refine ⟨?_, ?_, ?_, ?_, ?_⟩
  ·intro y0 y1 y2 y3 y4 y5 y6 y7 y8
   unfold spec_l72Op.j0
   repeat' first
   | (with_reducible exact ih0 _ _ _ _ _ _ _ _ _)
   | (with_reducible exact ih1 _ _ _ _ _ _ _)
   | (with_reducible exact ih2 _ _ _ _ _ _ _ _)
   | (with_reducible exact ih3 _ _ _ _ _ _ _ _)
   | (with_reducible exact ih4 _ _ _ _ _ _ _ _ _)
   | (with_reducible exact spec_l1Text.mono _ _)
   | (with_reducible exact spec_l2Kids.mono _ _ _)
   | (with_reducible exact spec_l6Rd_pick.mono _ _ _ _)
   | (with_reducible exact spec_l71Id.mono _ _ _)
   | (with_reducible exact spec_l71Text.mono _ _ _)
   | (with_reducible exact LeO.refl _)
   | (with_reducible exact LeO.none _)
   | (with_reducible refine LeO.ite ?_ ?_)
   | (with_reducible refine LeO.bind ?_ (fun _ => ?_))
   | exact ih0 _ _ _ _ _ _ _ _ _
   | exact ih1 _ _ _ _ _ _ _
   | exact ih2 _ _ _ _ _ _ _ _
   | exact ih3 _ _ _ _ _ _ _ _
   | exact ih4 _ _ _ _ _ _ _ _ _
   | exact spec_l1Text.mono _ _
   | exact spec_l2Kids.mono _ _ _
   | exact spec_l6Rd_pick.mono _ _ _ _
   | exact spec_l71Id.mono _ _ _
   | exact spec_l71Text.mono _ _ _
   | exact LeO.none _
   | refine LeO.ite ?_ ?_
   | refine LeO.bind ?_ (fun _ => ?_)
  ·intro y0 y1 y2 y3 y4 y5 y6
   unfold spec_l72Op.j1
   repeat' first
   | (with_reducible exact ih0 _ _ _ _ _ _ _ _ _)
   | (with_reducible exact ih1 _ _ _ _ _ _ _)
   | (with_reducible exact ih2 _ _ _ _ _ _ _ _)
   | (with_reducible exact ih3 _ _ _ _ _ _ _ _)
   | (with_reducible exact ih4 _ _ _ _ _ _ _ _ _)
   | (with_reducible exact spec_l1Text.mono _ _)
   | (with_reducible exact spec_l2Kids.mono _ _ _)
   | (with_reducible exact spec_l6Rd_pick.mono _ _ _ _)
   | (with_reducible exact spec_l71Id.mono _ _ _)
   | (with_reducible exact spec_l71Text.mono _ _ _)
   | (with_reducible exact LeO.refl _)
   | (with_reducible exact LeO.none _)
   | (with_reducible refine LeO.ite ?_ ?_)
   | (with_reducible refine LeO.bind ?_ (fun _ => ?_))
   | exact ih0 _ _ _ _ _ _ _ _ _
   | exact ih1 _ _ _ _ _ _ _
   | exact ih2 _ _ _ _ _ _ _ _
   | exact ih3 _ _ _ _ _ _ _ _
   | exact ih4 _ _ _ _ _ _ _ _ _
   | exact spec_l1Text.mono _ _
   | exact spec_l2Kids.mono _ _ _
   | exact spec_l6Rd_pick.mono _ _ _ _
   | exact spec_l71Id.mono _ _ _
   | exact spec_l71Text.mono _ _ _
   | exact LeO.none _
   | refine LeO.ite ?_ ?_
   | refine LeO.bind ?_ (fun _ => ?_)
  ·intro y0 y1 y2 y3 y4 y5 y6 y7
   unfold spec_l72Op.j2
   repeat' first
   | (with_reducible exact ih0 _ _ _ _ _ _ _ _ _)
   | (with_reducible exact ih1 _ _ _ _ _ _ _)
   | (with_reducible exact ih2 _ _ _ _ _ _ _ _)
   | (with_reducible exact ih3 _ _ _ _ _ _ _ _)
   | (with_reducible exact ih4 _ _ _ _ _ _ _ _ _)
   | (with_reducible exact spec_l1Text.mono _ _)
   | (with_reducible exact spec_l2Kids.mono _ _ _)
   | (with_reducible exact spec_l6Rd_pick.mono _ _ _ _)
   | (with_reducible exact spec_l71Id.mono _ _ _)
   | (with_reducible exact spec_l71Text.mono _ _ _)
   | (with_reducible exact LeO.refl _)
   | (with_reducible exact LeO.none _)
   | (with_reducible refine LeO.ite ?_ ?_)
   | (with_reducible refine LeO.bind ?_ (fun _ => ?_))
   | exact ih0 _ _ _ _ _ _ _ _ _
   | exact ih1 _ _ _ _ _ _ _
   | exact ih2 _ _ _ _ _ _ _ _
   | exact ih3 _ _ _ _ _ _ _ _
   | exact ih4 _ _ _ _ _ _ _ _ _
   | exact spec_l1Text.mono _ _
   | exact spec_l2Kids.mono _ _ _
   | exact spec_l6Rd_pick.mono _ _ _ _
   | exact spec_l71Id.mono _ _ _
   | exact spec_l71Text.mono _ _ _
   | exact LeO.none _
   | refine LeO.ite ?_ ?_
   | refine LeO.bind ?_ (fun _ => ?_)
  ·intro y0 y1 y2 y3 y4 y5 y6 y7
   unfold spec_l72Op.j3
   repeat' first
   | (with_reducible exact ih0 _ _ _ _ _ _ _ _ _)
   | (with_reducible exact ih1 _ _ _ _ _ _ _)
   | (with_reducible exact ih2 _ _ _ _ _ _ _ _)
   | (with_reducible exact ih3 _ _ _ _ _ _ _ _)
   | (with_reducible exact ih4 _ _ _ _ _ _ _ _ _)
   | (with_reducible exact spec_l1Text.mono _ _)
   | (with_reducible exact spec_l2Kids.mono _ _ _)
   | (with_reducible exact spec_l6Rd_pick.mono _ _ _ _)
   | (with_reducible exact spec_l71Id.mono _ _ _)
   | (with_reducible exact spec_l71Text.mono _ _ _)
   | (with_reducible exact LeO.refl _)
   | (with_reducible exact LeO.none _)
   | (with_reducible refine LeO.ite ?_ ?_)
   | (with_reducible refine LeO.bind ?_ (fun _ => ?_))
   | exact ih0 _ _ _ _ _ _ _ _ _
   | exact ih1 _ _ _ _ _ _ _
   | exact ih2 _ _ _ _ _ _ _ _
   | exact ih3 _ _ _ _ _ _ _ _
   | exact ih4 _ _ _ _ _ _ _ _ _
   | exact spec_l1Text.mono _ _
   | exact spec_l2Kids.mono _ _ _
   | exact spec_l6Rd_pick.mono _ _ _ _
   | exact spec_l71Id.mono _ _ _
   | exact spec_l71Text.mono _ _ _
   | exact LeO.none _
   | refine LeO.ite ?_ ?_
   | refine LeO.bind ?_ (fun _ => ?_)
  ·intro y0 y1 y2 y3 y4 y5 y6 y7 y8
   unfold spec_l72Op.j4
   repeat' first
   | (with_reducible exact ih0 _ _ _ _ _ _ _ _ _)
   | (with_reducible exact ih1 _ _ _ _ _ _ _)
   | (with_reducible exact ih2 _ _ _ _ _ _ _ _)
   | (with_reducible exact ih3 _ _ _ _ _ _ _ _)
   | (with_reducible exact ih4 _ _ _ _ _ _ _ _ _)
   | (with_reducible exact spec_l1Text.mono _ _)
   | (with_reducible exact spec_l2Kids.mono _ _ _)
   | (with_reducible exact spec_l6Rd_pick.mono _ _ _ _)
   | (with_reducible exact spec_l71Id.mono _ _ _)
   | (with_reducible exact spec_l71Text.mono _ _ _)
   | (with_reducible exact LeO.refl _)
   | (with_reducible exact LeO.none _)
   | (with_reducible refine LeO.ite ?_ ?_)
   | (with_reducible refine LeO.bind ?_ (fun _ => ?_))
   | exact ih0 _ _ _ _ _ _ _ _ _
   | exact ih1 _ _ _ _ _ _ _
   | exact ih2 _ _ _ _ _ _ _ _
   | exact ih3 _ _ _ _ _ _ _ _
   | exact ih4 _ _ _ _ _ _ _ _ _
   | exact spec_l1Text.mono _ _
   | exact spec_l2Kids.mono _ _ _
   | exact spec_l6Rd_pick.mono _ _ _ _
   | exact spec_l71Id.mono _ _ _
   | exact spec_l71Text.mono _ _ _
   | exact LeO.none _
   | refine LeO.ite ?_ ?_
   | refine LeO.bind ?_ (fun _ => ?_)
theorem spec_l72Op.mono : ∀ a0 a1 a2 a3 a4 k, LeO (spec_l72Op.f k a0 a1 a2 a3 a4) (spec_l72Op.f (k + 1) a0 a1 a2 a3 a4) := by
 intro a0 a1 a2 a3 a4 k
 obtain ⟨ih0, ih1, ih2, ih3, ih4⟩ := spec_l72Op.mono_l k
 unfold spec_l72Op.f
 repeat' first
   | (with_reducible exact ih0 _ _ _ _ _ _ _ _ _)
   | (with_reducible exact ih1 _ _ _ _ _ _ _)
   | (with_reducible exact ih2 _ _ _ _ _ _ _ _)
   | (with_reducible exact ih3 _ _ _ _ _ _ _ _)
   | (with_reducible exact ih4 _ _ _ _ _ _ _ _ _)
   | (with_reducible exact spec_l1Text.mono _ _)
   | (with_reducible exact spec_l2Kids.mono _ _ _)
   | (with_reducible exact spec_l6Rd_pick.mono _ _ _ _)
   | (with_reducible exact spec_l71Id.mono _ _ _)
   | (with_reducible exact spec_l71Text.mono _ _ _)
   | (with_reducible exact LeO.refl _)
   | (with_reducible exact LeO.none _)
   | (with_reducible refine LeO.ite ?_ ?_)
   | (with_reducible refine LeO.bind ?_ (fun _ => ?_))
   | exact ih0 _ _ _ _ _ _ _ _ _
   | exact ih1 _ _ _ _ _ _ _
   | exact ih2 _ _ _ _ _ _ _ _
   | exact ih3 _ _ _ _ _ _ _ _
   | exact ih4 _ _ _ _ _ _ _ _ _
   | exact spec_l1Text.mono _ _
   | exact spec_l2Kids.mono _ _ _
   | exact spec_l6Rd_pick.mono _ _ _ _
   | exact spec_l71Id.mono _ _ _
   | exact spec_l71Text.mono _ _ _
   | exact LeO.none _
   | refine LeO.ite ?_ ?_
   | refine LeO.bind ?_ (fun _ => ?_)
set_option maxHeartbeats 8000000 in
set_option maxRecDepth 100000 in
theorem spec_l72Op.calls (k : Nat) (g : Nat) (s0_0 : List Int) (s0_1 : Int) (A1 : Option Addr) (c1 : Nat) (l1 : List (S105)) (a2 : Int) (a3 : Int) (r1 : Int) (r2 : Int) (r3 : Int) (r4 : Int) (r5 : ByteArray) (r6 : Int) (w0 w : World) (hI : IsS80 w0 w g s0_0 s0_1) (hB : Below w0.heap.size w0 w) (hr1 : ∀ W_, KeepBut w W_ g none → Kd.C k105 W_ A1 l1.length l1) (hc1 : l1.length ≤ c1) (h : spec_l72Op.f k s0_0 s0_1 l1 a2 a3 = some (r1, r2, r3, r4, r5, r6)) :
  Calls Tryd.prog 65 #[.pointer (some ⟨g, 0, none⟩), .slice A1 l1.length c1, .int .i64 a2, .int .i64 a3] w fun e w' => e = .returned (.agg #[.int .i64 r1, .int .i64 r2, .int .i64 r3, .int .i64 r4, .string r5]) ∧ IsS80 w0 w' g s0_0 r6 ∧ Below w0.heap.size w0 w' ∧ KeepBut w w' g none := by
 have hu24 := Tryd.underlying24
 have HR1 := Aside0.mk hr1
 have HC1 := Aside0.mk hc1
 clear hr1 hc1
 have HI0 := Aside0.mk hI
 have HK := Aside0.mk (KeepBut.refl w g none)
 have HL := Aside0.mk hB.size
 clear hI
 have HW0 := Aside0.mk hB.size
 have HB := Aside0.mk hB
 clear hB
 have H : ((spec_l6Rd_pick.f k s0_0 s0_1 (l1.length : Int)).bind fun bt287 => (if 0 ≤ bt287.1 then (if bt287.1 < (l1.length : Int) then ((spec_l6Rd_pick.f k s0_0 bt287.2 (l1.length : Int)).bind fun bt290 => (if 0 ≤ bt290.1 then (if bt290.1 < (l1.length : Int) then ((spec_l2Kids.f k l1 ((rd_T105 l1 bt290.1).f0)).bind fun t293 => (if (t293.length : Int) > 0 then ((spec_l6Rd_pick.f k s0_0 bt290.2 2).bind fun bt296 => (spec_l72Op.j0 k a2 a3 ((rd_T105 l1 bt287.1).f0) ((rd_T105 l1 bt290.1).f0) t293 0 (bt296.1 == 0) s0_0 bt296.2)) else (spec_l72Op.j0 k a2 a3 ((rd_T105 l1 bt287.1).f0) ((rd_T105 l1 bt290.1).f0) t293 0 false s0_0 bt290.2))) else (none)) else (none))) else (none)) else (none))) = some (r1, r2, r3, r4, r5, r6) := h
 clear h
 replace H := Option.bind_eq_some_iff.mp H
 obtain ⟨⟨t287, t288⟩, A50, H⟩ := H
 (try dsimp only at H)
 have A5 := Aside0.mk A50
 clear A50
 by_cases c6 : 0 ≤ t287
 ·rw [if_pos c6] at H
  have c6b0 : decide (0 ≤ t287) = true := decide_eq_true c6
  clear c6
  by_cases c7 : t287 < (l1.length : Int)
  ·rw [if_pos c7] at H
   have c7b0 : decide (t287 < (l1.length : Int)) = true := decide_eq_true c7
   clear c7
   replace H := Option.bind_eq_some_iff.mp H
   obtain ⟨⟨t290, t291⟩, A80, H⟩ := H
   (try dsimp only at H)
   have A8 := Aside0.mk A80
   clear A80
   by_cases c9 : 0 ≤ t290
   ·rw [if_pos c9] at H
    have c9b0 : decide (0 ≤ t290) = true := decide_eq_true c9
    clear c9
    by_cases c10 : t290 < (l1.length : Int)
    ·rw [if_pos c10] at H
     have c10b0 : decide (t290 < (l1.length : Int)) = true := decide_eq_true c10
     clear c10
     replace H := Option.bind_eq_some_iff.mp H
     obtain ⟨t293, A110, H⟩ := H
     (try dsimp only at H)
     have A11 := Aside0.mk A110
     clear A110
     have HC12 := Aside0.mk H
     clear H
     go_enter Tryd.func65, Tryd.ntmps65
     go_upto_region 5 with (first | ((with_reducible refine gate_dst (N := 8) rfl ?_); refine box_event ?hg (N := 8) ?hd (cs := #[.int .i64 0, .int .i64 0, .int .i64 0, .int .i64 0, .string (⟨#[]⟩ : ByteArray)]) (t := 24) ?hr ?_; (case hd => rfl); (case hg => rfl); (case hr => first | (go_simp; done) | (go_simp; rfl)); intro gb286 hg w13 hbox hb; have n0_ := Aside0.mk (IsS80.below stA hb); have n1_ := Aside0.mk (KeepBut.trans keepA (KeepBut.of_below hb g none) (.inl rfl)); have n2_ := Aside0.mk (below_step belowA hb); have n3_ := Aside0.mk (hbox); have n4_ := Aside0.mk ((by rw [hg]; exact (keep_size (w := w) (g := g) (row := none) keepA) : w.heap.size ≤ gb286)); have n5_ := Aside0.mk ((Nat.le_trans HW0.out (by rw [hg]; exact (keep_size (w := w) (g := g) (row := none) keepA) : w.heap.size ≤ gb286) : w0.heap.size ≤ gb286)); have n6_ := Aside0.mk ((by rw [hg]; exact Nat.ne_of_lt (IsS80.lt (show IsS80 w0 _ g s0_0 s0_1 from stA)) : g ≠ gb286)); have n7_ := Aside0.mk ((by rw [hg]; exact Nat.ne_of_gt (IsS80.lt (show IsS80 w0 _ g s0_0 s0_1 from stA)) : gb286 ≠ g)); clear HI0; clear HK; clear HB; have HI0 := n0_; have HK := n1_; have HB := n2_; have BK286 := n3_; have GW286 := n4_; have GE286 := n5_; have NB0_286 := n6_; have NB286_0 := n7_; clear n0_ n1_ n2_ n3_ n4_ n5_ n6_ n7_; clear hb hbox hg) | ((with_reducible refine gate_callee (f := 38) rfl ?_); refine goesL_ (some 18) rfl rfl Tryd.func38 (by kernel_rfl) rfl #[.pointer (some ⟨g, 0, none⟩), .int .i64 (l1.length : Int)] rfl argsA ?_; (with_reducible refine (spec_l6Rd_pick.calls k g s0_0 s0_1 (l1.length : Int) t287 t288 w0 _ ?side1 ?side2 A5.out).mono ?_); (case side1 => exact stA); (case side2 => exact belowA); rintro e w14 ⟨rfl, hi, hb, hk⟩; refine ⟨_, rfl, ?_⟩; have n0_ := Aside0.mk (KeepBut.blk hk (g' := gb286) (o := .cells #[.int .i64 0, .int .i64 0, .int .i64 0, .int .i64 0, .string (⟨#[]⟩ : ByteArray)] 24 (0, 0)) blkA NB286_0.out (by simp)); have n1_ := Aside0.mk (KeepBut.trans keepA hk (.inl rfl)); have n2_ := Aside0.mk (hb); have n3_ := Aside0.mk (hi); clear BK286; clear HK; clear HB; clear HI0; have BK286 := n0_; have HK := n1_; have HB := n2_; have HI0 := n3_; clear n0_ n1_ n2_ n3_; (try clear hb); (try clear hb2); (try clear hk); (try clear hi); have p289 : 0 ≤ (t287 : Int) := of_decide_eq_true (by first | (with_reducible assumption) | assumption); have q289 : t287 < (l1.length : Int) := of_decide_eq_true (by first | (with_reducible assumption) | assumption); obtain ⟨ad289, e289, hx289_0, hx289_1, hx289_2⟩ := at_T105 (Kd.C_foot_now HR1.out HK.out) t287 p289 q289; cases e289; replace p289 := eq_true p289; replace q289 := eq_true q289) | ((with_reducible refine gate_callee (f := 38) rfl ?_); refine goesL_ (some 26) rfl rfl Tryd.func38 (by kernel_rfl) rfl #[.pointer (some ⟨g, 0, none⟩), .int .i64 (l1.length : Int)] rfl argsA ?_; (with_reducible refine (spec_l6Rd_pick.calls k g s0_0 t288 (l1.length : Int) t290 t291 w0 _ ?side1 ?side2 A8.out).mono ?_); (case side1 => exact stA); (case side2 => exact belowA); rintro e w15 ⟨rfl, hi, hb, hk⟩; refine ⟨_, rfl, ?_⟩; have n0_ := Aside0.mk (KeepBut.blk hk (g' := gb286) (o := .cells #[.int .i64 0, .int .i64 0, .int .i64 0, .int .i64 0, .string (⟨#[]⟩ : ByteArray)] 24 (0, 0)) blkA NB286_0.out (by simp)); have n1_ := Aside0.mk (KeepBut.trans keepA hk (.inl rfl)); have n2_ := Aside0.mk (hb); have n3_ := Aside0.mk (hi); clear BK286; clear HK; clear HB; clear HI0; have BK286 := n0_; have HK := n1_; have HB := n2_; have HI0 := n3_; clear n0_ n1_ n2_ n3_; (try clear hb); (try clear hb2); (try clear hk); (try clear hi); have p292 : 0 ≤ (t290 : Int) := of_decide_eq_true (by first | (with_reducible assumption) | assumption); have q292 : t290 < (l1.length : Int) := of_decide_eq_true (by first | (with_reducible assumption) | assumption); obtain ⟨ad292, e292, hx292_0, hx292_1, hx292_2⟩ := at_T105 (Kd.C_foot_now HR1.out HK.out) t290 p292 q292; obtain rfl : ad289 = ad292 := (by injection e292); replace p292 := eq_true p292; replace q292 := eq_true q292) | ((with_reducible refine gate_callee (f := 72) rfl ?_); refine goesL_ (some 32) rfl rfl Tryd.func72 (by kernel_rfl) rfl #[.slice (some ad289) l1.length c1, .int .i64 ((rd_T105 l1 t290).f0)] rfl argsA ?_; (with_reducible refine (spec_l2Kids.calls k _ _ l1 ((rd_T105 l1 t290).f0) t293 _ ?side1 ?side2 A11.out).mono ?_); (case side1 => exact Kd.C_foot_now HR1.out keepA); (case side2 => exact HC1.out); rintro e w16 ⟨v294, rfl, ho0, hb⟩; refine ⟨_, rfl, ?_⟩; have n0_ := Aside0.mk (Kd.R_lower ho0 (keep_size (w := w) (g := g) (row := none) keepA)); have n1_ := Aside0.mk (IsS80.below stA hb); have n2_ := Aside0.mk (blk_below (g := gb286) (o := .cells #[.int .i64 0, .int .i64 0, .int .i64 0, .int .i64 0, .string (⟨#[]⟩ : ByteArray)] 24 (0, 0)) blkA hb); have n3_ := Aside0.mk (KeepBut.trans keepA (KeepBut.of_below hb g none) (.inl rfl)); have n4_ := Aside0.mk (below_step belowA hb); clear HI0; clear BK286; clear HK; clear HB; have HO295 := n0_; have HI0 := n1_; have BK286 := n2_; have HK := n3_; have HB := n4_; clear n0_ n1_ n2_ n3_ n4_; (try clear hb); (try clear hb2); (try clear hk); (try clear hi); (try clear ho0)))
     (try simp only [Act.put, List.setIfInBounds_toArray, List.set_cons_zero, List.set_cons_succ])
     go_cut [40] (fun v40 wc => ∃ (kq : Nat) (x40_11 : Bool) (x1001_11 : Int), v40 = .bool x40_11 ∧ Aside0 (spec_l72Op.j0 kq a2 a3 ((rd_T105 l1 t287).f0) ((rd_T105 l1 t290).f0) t293 0 x40_11 s0_0 x1001_11 = some (r1, r2, r3, r4, r5, r6)) ∧ Aside0 (kq ≤ k) ∧ Aside0 (Kd.R (Kd.int .i64) 3 wc w.heap.size (fun _ => True) v294 t293) ∧ Aside0 (wc.heap[gb286]? = some (.cells #[.int .i64 0, .int .i64 0, .int .i64 0, .int .i64 0, .string (⟨#[]⟩ : ByteArray)] 24 (0, 0))) ∧ Aside0 (IsS80 w0 wc g s0_0 x1001_11) ∧ Aside0 (KeepBut w wc g none) ∧ Aside0 (Below w0.heap.size w0 wc))
     case first =>
      have H := HC12.out
      clear HC12
      by_cases c17 : (t293.length : Int) > 0
      ·rw [if_pos c17] at H
       have c17b0 : decide (0 < (t293.length : Int)) = true := decide_eq_true c17
       have c17b1 : decide (0 < t293.length) = true := decide_eq_true (by omega)
       clear c17
       (first | rw [c17b0] | (simp only [i64_w, i32_w]; rw [c17b0]) | skip)
       replace H := Option.bind_eq_some_iff.mp H
       obtain ⟨⟨t296, t297⟩, A180, H⟩ := H
       (try dsimp only at H)
       have A18 := Aside0.mk A180
       clear A180
       have H' := Aside0.mk H
       clear H
       obtain ⟨Ao19, co19, eo19⟩ := Kd.R_slice HO295.out
       subst eo19
       go_wp2_with (first | (go_at_call 38; (with_reducible refine (spec_l6Rd_pick.calls k g s0_0 t291 2 t296 t297 w0 _ ?side1 ?side2 A18.out).mono ?_); (case side1 => exact stA); (case side2 => exact belowA); rintro e w20 ⟨rfl, hi, hb, hk⟩; have n0_ := Aside0.mk (KeepBut.blk hk (g' := gb286) (o := .cells #[.int .i64 0, .int .i64 0, .int .i64 0, .int .i64 0, .string (⟨#[]⟩ : ByteArray)] 24 (0, 0)) blkA NB286_0.out (by simp)); have n1_ := Aside0.mk (Kd.R_mono (Kd.R_keep (IsS80.apart (show IsS80 w0 _ g s0_0 t291 from stA) (RA HO295) (by decide)) hk (fun _ h => h.2)) (fun _ h => h.1)); have n2_ := Aside0.mk (KeepBut.trans keepA hk (.inl rfl)); have n3_ := Aside0.mk (hb); have n4_ := Aside0.mk (hi); clear BK286; clear HO295; clear HK; clear HB; clear HI0; have BK286 := n0_; have HO295 := n1_; have HK := n2_; have HB := n3_; have HI0 := n4_; clear n0_ n1_ n2_ n3_ n4_; (try clear hb); (try clear hb2); (try clear hk); (try clear hi)))
       go_meet
       case rel => exact ⟨_, ((t296 == 0)), (t297), (by first | rfl | (simp; done) | (simp [*]; done)), H', ⟨by first | omega | exact Nat.le_refl _⟩, ⟨RA HO295⟩, ⟨by (with_reducible repeat (first | refine blk_drewN ?_ _ | refine blk_drew ?_ | refine blk_alloc ?_ _)); exact BK286.out⟩, ⟨stA⟩, ⟨keepA⟩, ⟨belowA⟩⟩
      ·rw [if_neg c17] at H
       have c17b0 : decide (0 < (t293.length : Int)) = false := decide_eq_false c17
       have c17b1 : decide (0 < t293.length) = false := decide_eq_false (by omega)
       clear c17
       (first | rw [c17b0] | (simp only [i64_w, i32_w]; rw [c17b0]) | skip)
       have H' := Aside0.mk H
       clear H
       obtain ⟨Ao21, co21, eo21⟩ := Kd.R_slice HO295.out
       subst eo21
       go_wp2
       go_meet
       case rel => exact ⟨_, (false), (t291), (by first | rfl | (simp; done) | (simp [*]; done)), H', ⟨by first | omega | exact Nat.le_refl _⟩, ⟨RA HO295⟩, ⟨by (with_reducible repeat (first | refine blk_drewN ?_ _ | refine blk_drew ?_ | refine blk_alloc ?_ _)); exact BK286.out⟩, ⟨stA⟩, ⟨keepA⟩, ⟨belowA⟩⟩
     case rest =>
      clear HC12
      try clear c1
      try clear p2
      try clear q2
      try clear hx2
      try clear c3
      try clear c6
      try clear c6b0
      try clear c7
      try clear c7b0
      try clear c9
      try clear c9b0
      try clear c10
      try clear c10b0
      try clear c17
      try clear c17b0
      try clear c17b1
      try clear hx289_0
      try clear hx289_1
      try clear hx289_2
      try clear hx292_0
      try clear hx292_1
      try clear hx292_2
      try clear p289
      try clear p292
      try clear q289
      try clear q292
      obtain ⟨kq, x40_11, x1001_11, rfl, HA, HJ11, HO_11, BK286, HI0, HK, HB⟩ := hcut
      cases kq with
      | zero => exact absurd HA.out (by simp [spec_l72Op.j0])
      | succ kj11 =>
       have H := HA.out
       clear HA
       simp only [spec_l72Op.j0] at H
       have HC22 := Aside0.mk H
       clear H
       go_upto_if 40 with (fail)
       go_cut [12] (fun v12 wc => ∃ (kq : Nat) (x12_21 : Int) (x1001_21 : Int), v12 = .int .i64 x12_21 ∧ Aside0 (spec_l72Op.j1 kq a2 a3 ((rd_T105 l1 t287).f0) ((rd_T105 l1 t290).f0) x12_21 s0_0 x1001_21 = some (r1, r2, r3, r4, r5, r6)) ∧ Aside0 (kq ≤ kj11) ∧ Aside0 (wc.heap[gb286]? = some (.cells #[.int .i64 0, .int .i64 0, .int .i64 0, .int .i64 0, .string (⟨#[]⟩ : ByteArray)] 24 (0, 0))) ∧ Aside0 (IsS80 w0 wc g s0_0 x1001_21) ∧ Aside0 (KeepBut w wc g none) ∧ Aside0 (Below w0.heap.size w0 wc))
       case first =>
        have H := HC22.out
        clear HC22
        by_cases c23 : x40_11 = true
        ·subst c23
         have H1 : ((spec_l6Rd_pick.f kj11 s0_0 x1001_11 (t293.length : Int)).bind fun bt298 => (if 0 ≤ bt298.1 then (if bt298.1 < (t293.length : Int) then (spec_l72Op.j1 kj11 a2 a3 ((rd_T105 l1 t287).f0) ((rd_T105 l1 t290).f0) (rd t293 bt298.1) s0_0 bt298.2) else (none)) else (none))) = some (r1, r2, r3, r4, r5, r6) := by rw [if_pos rfl] at H; exact H
         clear H
         have H := H1
         clear H1
         replace H := Option.bind_eq_some_iff.mp H
         obtain ⟨⟨t298, t299⟩, A240, H⟩ := H
         (try dsimp only at H)
         have A24 := Aside0.mk A240
         clear A240
         by_cases c25 : 0 ≤ t298
         ·rw [if_pos c25] at H
          have c25b0 : decide (0 ≤ t298) = true := decide_eq_true c25
          clear c25
          (first | rw [c25b0] | (simp only [i64_w, i32_w]; rw [c25b0]) | skip)
          by_cases c26 : t298 < (t293.length : Int)
          ·rw [if_pos c26] at H
           have c26b0 : decide (t298 < (t293.length : Int)) = true := decide_eq_true c26
           clear c26
           have H' := Aside0.mk H
           clear H
           obtain ⟨Ao27, co27, eo27⟩ := Kd.R_slice HO_11.out
           subst eo27
           go_wp2_with (first | ((with_reducible refine gate_callee (f := 38) rfl ?_); refine goesL_ (some 45) rfl rfl Tryd.func38 (by kernel_rfl) rfl #[.pointer (some ⟨g, 0, none⟩), .int .i64 (t293.length : Int)] rfl argsA ?_; (with_reducible refine (spec_l6Rd_pick.calls kj11 g s0_0 x1001_11 (t293.length : Int) t298 t299 w0 _ ?side1 ?side2 A24.out).mono ?_); (case side1 => exact stA); (case side2 => exact belowA); rintro e w28 ⟨rfl, hi, hb, hk⟩; refine ⟨_, rfl, ?_⟩; have n0_ := Aside0.mk (Kd.R_mono (Kd.R_keep (IsS80.apart (show IsS80 w0 _ g s0_0 x1001_11 from stA) (RA HO_11) (by decide)) hk (fun _ h => h.2)) (fun _ h => h.1)); have n1_ := Aside0.mk (KeepBut.blk hk (g' := gb286) (o := .cells #[.int .i64 0, .int .i64 0, .int .i64 0, .int .i64 0, .string (⟨#[]⟩ : ByteArray)] 24 (0, 0)) blkA NB286_0.out (by simp)); have n2_ := Aside0.mk (KeepBut.trans keepA hk (.inl rfl)); have n3_ := Aside0.mk (hb); have n4_ := Aside0.mk (hi); clear HO_11; clear BK286; clear HK; clear HB; clear HI0; have HO_11 := n0_; have BK286 := n1_; have HK := n2_; have HB := n3_; have HI0 := n4_; clear n0_ n1_ n2_ n3_ n4_; (try clear hb); (try clear hb2); (try clear hk); (try clear hi); have p300 : 0 ≤ (t298 : Int) := of_decide_eq_true (by first | (with_reducible assumption) | assumption); have q300 : t298 < (t293.length : Int) := of_decide_eq_true (by first | (with_reducible assumption) | assumption); obtain ⟨ad300, e300, hx300_0⟩ := Kd.at_int (Kd.R_reads' HO_11.out).2.2 t298 p300 q300; cases e300; replace p300 := eq_true p300; replace q300 := eq_true q300))
           go_meet
           case rel => exact ⟨_, (rd t293 t298), (t299), (by first | rfl | (simp; done) | (simp [*]; done)), H', ⟨by have := HJ11.out; first | omega | exact Nat.le_refl _⟩, ⟨by (with_reducible repeat (first | refine blk_drewN ?_ _ | refine blk_drew ?_ | refine blk_alloc ?_ _)); exact BK286.out⟩, ⟨stA⟩, ⟨keepA⟩, ⟨belowA⟩⟩
          ·rw [if_neg c26] at H
           exact absurd H (by simp)
         ·rw [if_neg c25] at H
          exact absurd H (by simp)
        ·replace c23 := Bool.eq_false_iff.mpr c23
         subst c23
         have H1 : (spec_l72Op.j1 kj11 a2 a3 ((rd_T105 l1 t287).f0) ((rd_T105 l1 t290).f0) 0 s0_0 x1001_11) = some (r1, r2, r3, r4, r5, r6) := by rw [if_neg (show ¬ (false = true) by decide)] at H; exact H
         clear H
         have H := H1
         clear H1
         have H' := Aside0.mk H
         clear H
         go_wp2
         go_meet
         case rel => exact ⟨_, (0), (x1001_11), (by first | rfl | (simp; done) | (simp [*]; done)), H', ⟨by have := HJ11.out; first | omega | exact Nat.le_refl _⟩, ⟨by (with_reducible repeat (first | refine blk_drewN ?_ _ | refine blk_drew ?_ | refine blk_alloc ?_ _)); exact BK286.out⟩, ⟨stA⟩, ⟨keepA⟩, ⟨belowA⟩⟩
       case rest =>
        clear HC22
        try clear c1
        try clear c2
        try clear p2
        try clear q2
        try clear hx2
        try clear c3
        try clear p3
        try clear q3
        try clear hx3
        try clear c6
        try clear c6b0
        try clear c7
        try clear c7b0
        try clear c9
        try clear c9b0
        try clear c10
        try clear c10b0
        try clear c17
        try clear c17b0
        try clear c17b1
        try clear c23
        try clear c25
        try clear c25b0
        try clear c26
        try clear c26b0
        try clear p28
        try clear q28
        try clear hx28
        try clear hx289_0
        try clear hx289_1
        try clear hx289_2
        try clear hx292_0
        try clear hx292_1
        try clear hx292_2
        try clear hx300_0
        try clear p2
        try clear p289
        try clear p292
        try clear p300
        try clear q2
        try clear q289
        try clear q292
        try clear q300
        obtain ⟨kq, x12_21, x1001_21, rfl, HA, HJ21, BK286, HI0, HK, HB⟩ := hcut
        cases kq with
        | zero => exact absurd HA.out (by simp [spec_l72Op.j1])
        | succ kj21 =>
         have H := HA.out
         clear HA
         simp only [spec_l72Op.j1] at H
         replace H := Option.bind_eq_some_iff.mp H
         obtain ⟨⟨t301, t302⟩, A290, H⟩ := H
         (try dsimp only at H)
         have A29 := Aside0.mk A290
         clear A290
         replace H := Option.bind_eq_some_iff.mp H
         obtain ⟨t303, A300, H⟩ := H
         (try dsimp only at H)
         have A30 := Aside0.mk A300
         clear A300
         have HC31 := Aside0.mk H
         clear H
         go_upto_if 52 with (first | ((with_reducible refine gate_callee (f := 56) rfl ?_); refine goesL_ (some 49) rfl rfl Tryd.func56 (by kernel_rfl) rfl #[.pointer (some ⟨g, 0, none⟩)] rfl argsA ?_; (with_reducible refine (spec_l71Text.calls kj21 g s0_0 x1001_21 t301 t302 w0 _ ?side1 ?side2 A29.out).mono ?_); (case side1 => exact stA); (case side2 => exact belowA); rintro e w32 ⟨rfl, hi, hb, hk⟩; refine ⟨_, rfl, ?_⟩; have n0_ := Aside0.mk (KeepBut.blk hk (g' := gb286) (o := .cells #[.int .i64 0, .int .i64 0, .int .i64 0, .int .i64 0, .string (⟨#[]⟩ : ByteArray)] 24 (0, 0)) blkA NB286_0.out (by simp)); have n1_ := Aside0.mk (KeepBut.trans keepA hk (.inl rfl)); have n2_ := Aside0.mk (hb); have n3_ := Aside0.mk (hi); clear BK286; clear HK; clear HB; clear HI0; have BK286 := n0_; have HK := n1_; have HB := n2_; have HI0 := n3_; clear n0_ n1_ n2_ n3_; (try clear hb); (try clear hb2); (try clear hk); (try clear hi)) | ((with_reducible refine gate_callee (f := 59) rfl ?_); refine goesL_ (some 51) rfl rfl Tryd.func59 (by kernel_rfl) rfl #[.string t301] rfl argsA ?_; (with_reducible refine (spec_l1Text.calls kj21 t301 t303 _ A30.out).mono ?_); rintro e w' ⟨rfl, ⟨nd, rfl⟩⟩; refine ⟨_, rfl, ?_⟩))
         (try simp only [Act.put, List.setIfInBounds_toArray, List.set_cons_zero, List.set_cons_succ])
         go_cut [13] (fun v13 wc => ∃ (kq : Nat) (x13_30 : ByteArray), v13 = .string x13_30 ∧ Aside0 (spec_l72Op.j2 kq a2 a3 ((rd_T105 l1 t287).f0) ((rd_T105 l1 t290).f0) x12_21 x13_30 s0_0 t302 = some (r1, r2, r3, r4, r5, r6)) ∧ Aside0 (kq ≤ kj21) ∧ Aside0 (wc.heap[gb286]? = some (.cells #[.int .i64 0, .int .i64 0, .int .i64 0, .int .i64 0, .string (⟨#[]⟩ : ByteArray)] 24 (0, 0))) ∧ Aside0 (IsS80 w0 wc g s0_0 t302) ∧ Aside0 (KeepBut w wc g none) ∧ Aside0 (Below w0.heap.size w0 wc))
         case first =>
          have H := HC31.out
          clear HC31
          by_cases c33 : t303 = true
          ·subst c33
           have H1 : (spec_l72Op.j2 kj21 a2 a3 ((rd_T105 l1 t287).f0) ((rd_T105 l1 t290).f0) x12_21 t301 s0_0 t302) = some (r1, r2, r3, r4, r5, r6) := by rw [if_pos rfl] at H; exact H
           clear H
           have H := H1
           clear H1
           have H' := Aside0.mk H
           clear H
           go_wp2
           go_meet
           case rel => exact ⟨_, (t301), (by first | rfl | (simp; done) | (simp [*]; done)), H', ⟨by have := HJ11.out; have := HJ21.out; first | omega | exact Nat.le_refl _⟩, ⟨by (with_reducible repeat (first | refine blk_drewN ?_ _ | refine blk_drew ?_ | refine blk_alloc ?_ _)); exact BK286.out⟩, ⟨stA⟩, ⟨keepA⟩, ⟨belowA⟩⟩
          ·replace c33 := Bool.eq_false_iff.mpr c33
           subst c33
           have H1 : (spec_l72Op.j2 kj21 a2 a3 ((rd_T105 l1 t287).f0) ((rd_T105 l1 t290).f0) x12_21 (⟨#[97]⟩ : ByteArray) s0_0 t302) = some (r1, r2, r3, r4, r5, r6) := by rw [if_neg (show ¬ (false = true) by decide)] at H; exact H
           clear H
           have H := H1
           clear H1
           have H' := Aside0.mk H
           clear H
           go_wp2
           go_meet
           case rel => exact ⟨_, ((⟨#[97]⟩ : ByteArray)), (by first | rfl | (simp; done) | (simp [*]; done)), H', ⟨by have := HJ11.out; have := HJ21.out; first | omega | exact Nat.le_refl _⟩, ⟨by (with_reducible repeat (first | refine blk_drewN ?_ _ | refine blk_drew ?_ | refine blk_alloc ?_ _)); exact BK286.out⟩, ⟨stA⟩, ⟨keepA⟩, ⟨belowA⟩⟩
         case rest =>
          clear HC31
          try clear c1
          try clear c2
          try clear p2
          try clear q2
          try clear hx2
          try clear c3
          try clear p3
          try clear q3
          try clear hx3
          try clear c5
          try clear c6
          try clear c6b0
          try clear c7
          try clear c7b0
          try clear c9
          try clear c9b0
          try clear c10
          try clear c10b0
          try clear c17
          try clear c17b0
          try clear c17b1
          try clear c23
          try clear c25
          try clear c25b0
          try clear c26
          try clear c26b0
          try clear p28
          try clear q28
          try clear hx28
          try clear p29
          try clear q29
          try clear hx29
          try clear p30
          try clear q30
          try clear hx30
          try clear c33
          try clear hx289_0
          try clear hx289_1
          try clear hx289_2
          try clear hx292_0
          try clear hx292_1
          try clear hx292_2
          try clear hx300_0
          try clear p2
          try clear p28
          try clear p289
          try clear p292
          try clear p3
          try clear p300
          try clear q2
          try clear q28
          try clear q289
          try clear q292
          try clear q3
          try clear q300
          obtain ⟨kq, x13_30, rfl, HA, HJ30, BK286, HI0, HK, HB⟩ := hcut
          cases kq with
          | zero => exact absurd HA.out (by simp [spec_l72Op.j2])
          | succ kj30 =>
           have H := HA.out
           clear HA
           simp only [spec_l72Op.j2] at H
           replace H := Option.bind_eq_some_iff.mp H
           obtain ⟨⟨t304, t305⟩, A340, H⟩ := H
           (try dsimp only at H)
           have A34 := Aside0.mk A340
           clear A340
           have HC35 := Aside0.mk H
           clear H
           go_upto_if 55 with (first | ((with_reducible refine gate_callee (f := 38) rfl ?_); refine goesL_ (some 54) rfl rfl Tryd.func38 (by kernel_rfl) rfl #[.pointer (some ⟨g, 0, none⟩), .int .i64 6] rfl argsA ?_; (with_reducible refine (spec_l6Rd_pick.calls kj30 g s0_0 t302 6 t304 t305 w0 _ ?side1 ?side2 A34.out).mono ?_); (case side1 => exact stA); (case side2 => exact belowA); rintro e w36 ⟨rfl, hi, hb, hk⟩; refine ⟨_, rfl, ?_⟩; have n0_ := Aside0.mk (KeepBut.blk hk (g' := gb286) (o := .cells #[.int .i64 0, .int .i64 0, .int .i64 0, .int .i64 0, .string (⟨#[]⟩ : ByteArray)] 24 (0, 0)) blkA NB286_0.out (by simp)); have n1_ := Aside0.mk (KeepBut.trans keepA hk (.inl rfl)); have n2_ := Aside0.mk (hb); have n3_ := Aside0.mk (hi); clear BK286; clear HK; clear HB; clear HI0; have BK286 := n0_; have HK := n1_; have HB := n2_; have HI0 := n3_; clear n0_ n1_ n2_ n3_; (try clear hb); (try clear hb2); (try clear hk); (try clear hi)))
           (try simp only [Act.put, List.setIfInBounds_toArray, List.set_cons_zero, List.set_cons_succ])
           go_cut [10] (fun v10 wc => ∃ (kq : Nat) (x10_34 : Int) (x1001_34 : Int), v10 = .int .i64 x10_34 ∧ Aside0 (spec_l72Op.j3 kq a2 a3 ((rd_T105 l1 t287).f0) x10_34 x12_21 x13_30 s0_0 x1001_34 = some (r1, r2, r3, r4, r5, r6)) ∧ Aside0 (kq ≤ kj30) ∧ Aside0 (wc.heap[gb286]? = some (.cells #[.int .i64 0, .int .i64 0, .int .i64 0, .int .i64 0, .string (⟨#[]⟩ : ByteArray)] 24 (0, 0))) ∧ Aside0 (IsS80 w0 wc g s0_0 x1001_34) ∧ Aside0 (KeepBut w wc g none) ∧ Aside0 (Below w0.heap.size w0 wc))
           case first =>
            have H := HC35.out
            clear HC35
            by_cases c37 : t304 = 0
            ·rw [if_pos c37] at H
             have c37b0 : (t304 == 0) = true := beq_iff_eq.mpr c37
             have c37b1 : (t304 != 0) = false := bne_eq_false_iff_eq.mpr c37
             clear c37
             (first | rw [c37b0] | (simp only [i64_w, i32_w]; rw [c37b0]) | skip)
             replace H := Option.bind_eq_some_iff.mp H
             obtain ⟨⟨t306, t307⟩, A380, H⟩ := H
             (try dsimp only at H)
             have A38 := Aside0.mk A380
             clear A380
             have H' := Aside0.mk H
             clear H
             go_wp2_with (first | ((with_reducible refine gate_callee (f := 55) rfl ?_); refine goesL_ (some 57) rfl rfl Tryd.func55 (by kernel_rfl) rfl #[.pointer (some ⟨g, 0, none⟩)] rfl argsA ?_; (with_reducible refine (spec_l71Id.calls kj30 g s0_0 t305 t306 t307 w0 _ ?side1 ?side2 A38.out).mono ?_); (case side1 => exact stA); (case side2 => exact belowA); rintro e w39 ⟨rfl, hi, hb, hk⟩; refine ⟨_, rfl, ?_⟩; have n0_ := Aside0.mk (KeepBut.blk hk (g' := gb286) (o := .cells #[.int .i64 0, .int .i64 0, .int .i64 0, .int .i64 0, .string (⟨#[]⟩ : ByteArray)] 24 (0, 0)) blkA NB286_0.out (by simp)); have n1_ := Aside0.mk (KeepBut.trans keepA hk (.inl rfl)); have n2_ := Aside0.mk (hb); have n3_ := Aside0.mk (hi); clear BK286; clear HK; clear HB; clear HI0; have BK286 := n0_; have HK := n1_; have HB := n2_; have HI0 := n3_; clear n0_ n1_ n2_ n3_; (try clear hb); (try clear hb2); (try clear hk); (try clear hi)))
             go_meet
             case rel => exact ⟨_, (t306), (t307), (by first | rfl | (simp; done) | (simp [*]; done)), H', ⟨by have := HJ11.out; have := HJ21.out; have := HJ30.out; first | omega | exact Nat.le_refl _⟩, ⟨by (with_reducible repeat (first | refine blk_drewN ?_ _ | refine blk_drew ?_ | refine blk_alloc ?_ _)); exact BK286.out⟩, ⟨stA⟩, ⟨keepA⟩, ⟨belowA⟩⟩
            ·rw [if_neg c37] at H
             have c37b0 : (t304 == 0) = false := beq_eq_false_iff_ne.mpr c37
             have c37b1 : (t304 != 0) = true := bne_iff_ne.mpr c37
             (first | rw [c37b0] | (simp only [i64_w, i32_w]; rw [c37b0]) | skip)
             have H' := Aside0.mk H
             clear H
             go_wp2
             go_meet
             case rel => exact ⟨_, (((rd_T105 l1 t290).f0)), (t305), (by first | rfl | (simp; done) | (simp [*]; done)), H', ⟨by have := HJ11.out; have := HJ21.out; have := HJ30.out; first | omega | exact Nat.le_refl _⟩, ⟨by (with_reducible repeat (first | refine blk_drewN ?_ _ | refine blk_drew ?_ | refine blk_alloc ?_ _)); exact BK286.out⟩, ⟨stA⟩, ⟨keepA⟩, ⟨belowA⟩⟩
           case rest =>
            clear HC35
            try clear c1
            try clear c2
            try clear p2
            try clear q2
            try clear hx2
            try clear c3
            try clear p3
            try clear q3
            try clear hx3
            try clear c5
            try clear c6
            try clear c6b0
            try clear c7
            try clear c7b0
            try clear c9
            try clear c9b0
            try clear c10
            try clear c10b0
            try clear c17
            try clear c17b0
            try clear c17b1
            try clear c23
            try clear c25
            try clear c25b0
            try clear c26
            try clear c26b0
            try clear p28
            try clear q28
            try clear hx28
            try clear p29
            try clear q29
            try clear hx29
            try clear p30
            try clear q30
            try clear hx30
            try clear c33
            try clear c37
            try clear c37b0
            try clear c37b1
            try clear c38
            try clear hx289_0
            try clear hx289_1
            try clear hx289_2
            try clear hx292_0
            try clear hx292_1
            try clear hx292_2
            try clear hx300_0
            try clear p2
            try clear p28
            try clear p289
            try clear p29
            try clear p292
            try clear p3
            try clear p30
            try clear p300
            try clear q2
            try clear q28
            try clear q289
            try clear q29
            try clear q292
            try clear q3
            try clear q30
            try clear q300
            obtain ⟨kq, x10_34, x1001_34, rfl, HA, HJ34, BK286, HI0, HK, HB⟩ := hcut
            cases kq with
            | zero => exact absurd HA.out (by simp [spec_l72Op.j3])
            | succ kj34 =>
             have H := HA.out
             clear HA
             simp only [spec_l72Op.j3] at H
             have HC40 := Aside0.mk H
             clear H
             go_upto_region 12 with (fail)
             go_cut [69] (fun v69 wc => ∃ (kq : Nat) (x69_39 : Bool) (x1001_39 : Int), v69 = .bool x69_39 ∧ Aside0 (spec_l72Op.j4 kq a2 a3 ((rd_T105 l1 t287).f0) x10_34 x12_21 x13_30 x69_39 s0_0 x1001_39 = some (r1, r2, r3, r4, r5, r6)) ∧ Aside0 (kq ≤ kj34) ∧ Aside0 (wc.heap[gb286]? = some (.cells #[.int .i64 0, .int .i64 0, .int .i64 0, .int .i64 0, .string (⟨#[]⟩ : ByteArray)] 24 (0, 0))) ∧ Aside0 (IsS80 w0 wc g s0_0 x1001_39) ∧ Aside0 (KeepBut w wc g none) ∧ Aside0 (Below w0.heap.size w0 wc))
             case first =>
              have H := HC40.out
              clear HC40
              by_cases c41 : a3 < 6
              ·rw [if_pos c41] at H
               have c41b0 : decide (a3 < 6) = true := decide_eq_true c41
               clear c41
               (first | rw [c41b0] | (simp only [i64_w, i32_w]; rw [c41b0]) | skip)
               replace H := Option.bind_eq_some_iff.mp H
               obtain ⟨⟨t308, t309⟩, A420, H⟩ := H
               (try dsimp only at H)
               have A42 := Aside0.mk A420
               clear A420
               by_cases c43 : t308 = 0
               ·rw [if_pos c43] at H
                have c43b0 : (t308 == 0) = true := beq_iff_eq.mpr c43
                have c43b1 : (t308 != 0) = false := bne_eq_false_iff_eq.mpr c43
                clear c43
                have H' := Aside0.mk H
                clear H
                go_wp2_with (first | (go_at_call 38; (with_reducible refine (spec_l6Rd_pick.calls kj34 g s0_0 x1001_34 3 t308 t309 w0 _ ?side1 ?side2 A42.out).mono ?_); (case side1 => exact stA); (case side2 => exact belowA); rintro e w44 ⟨rfl, hi, hb, hk⟩; have n0_ := Aside0.mk (KeepBut.blk hk (g' := gb286) (o := .cells #[.int .i64 0, .int .i64 0, .int .i64 0, .int .i64 0, .string (⟨#[]⟩ : ByteArray)] 24 (0, 0)) blkA NB286_0.out (by simp)); have n1_ := Aside0.mk (KeepBut.trans keepA hk (.inl rfl)); have n2_ := Aside0.mk (hb); have n3_ := Aside0.mk (hi); clear BK286; clear HK; clear HB; clear HI0; have BK286 := n0_; have HK := n1_; have HB := n2_; have HI0 := n3_; clear n0_ n1_ n2_ n3_; (try clear hb); (try clear hb2); (try clear hk); (try clear hi)))
                go_meet
                case rel => exact ⟨_, (true), (t309), (by first | rfl | (simp; done) | (simp [*]; done)), H', ⟨by have := HJ11.out; have := HJ21.out; have := HJ30.out; have := HJ34.out; first | omega | exact Nat.le_refl _⟩, ⟨by (with_reducible repeat (first | refine blk_drewN ?_ _ | refine blk_drew ?_ | refine blk_alloc ?_ _)); exact BK286.out⟩, ⟨stA⟩, ⟨keepA⟩, ⟨belowA⟩⟩
               ·rw [if_neg c43] at H
                have c43b0 : (t308 == 0) = false := beq_eq_false_iff_ne.mpr c43
                have c43b1 : (t308 != 0) = true := bne_iff_ne.mpr c43
                replace H := Option.bind_eq_some_iff.mp H
                obtain ⟨t310, A450, H⟩ := H
                (try dsimp only at H)
                have A45 := Aside0.mk A450
                clear A450
                have H' := Aside0.mk H
                clear H
                go_wp2_with (first | (go_at_call 38; (with_reducible refine (spec_l6Rd_pick.calls kj34 g s0_0 x1001_34 3 t308 t309 w0 _ ?side1 ?side2 A42.out).mono ?_); (case side1 => exact stA); (case side2 => exact belowA); rintro e w46 ⟨rfl, hi, hb, hk⟩; have n0_ := Aside0.mk (KeepBut.blk hk (g' := gb286) (o := .cells #[.int .i64 0, .int .i64 0, .int .i64 0, .int .i64 0, .string (⟨#[]⟩ : ByteArray)] 24 (0, 0)) blkA NB286_0.out (by simp)); have n1_ := Aside0.mk (KeepBut.trans keepA hk (.inl rfl)); have n2_ := Aside0.mk (hb); have n3_ := Aside0.mk (hi); clear BK286; clear HK; clear HB; clear HI0; have BK286 := n0_; have HK := n1_; have HB := n2_; have HI0 := n3_; clear n0_ n1_ n2_ n3_; (try clear hb); (try clear hb2); (try clear hk); (try clear hi)) | (go_at_call 58; (with_reducible refine (spec_l1Made.calls ((rd_T105 l1 t287).f0) t310 _ A45.out).mono ?_); rintro e w' ⟨rfl, ⟨nd, rfl⟩⟩))
                go_meet
                case rel => exact ⟨_, (!t310), (t309), (by first | rfl | (simp; done) | (simp [*]; done)), H', ⟨by have := HJ11.out; have := HJ21.out; have := HJ30.out; have := HJ34.out; first | omega | exact Nat.le_refl _⟩, ⟨by (with_reducible repeat (first | refine blk_drewN ?_ _ | refine blk_drew ?_ | refine blk_alloc ?_ _)); exact BK286.out⟩, ⟨stA⟩, ⟨keepA⟩, ⟨belowA⟩⟩
              ·rw [if_neg c41] at H
               have c41b0 : decide (a3 < 6) = false := decide_eq_false c41
               clear c41
               (first | rw [c41b0] | (simp only [i64_w, i32_w]; rw [c41b0]) | skip)
               have H' := Aside0.mk H
               clear H
               go_wp2
               go_meet
               case rel => exact ⟨_, (false), (x1001_34), (by first | rfl | (simp; done) | (simp [*]; done)), H', ⟨by have := HJ11.out; have := HJ21.out; have := HJ30.out; have := HJ34.out; first | omega | exact Nat.le_refl _⟩, ⟨by (with_reducible repeat (first | refine blk_drewN ?_ _ | refine blk_drew ?_ | refine blk_alloc ?_ _)); exact BK286.out⟩, ⟨stA⟩, ⟨keepA⟩, ⟨belowA⟩⟩
             case rest =>
              clear HC40
              try clear c1
              try clear c2
              try clear p2
              try clear q2
              try clear hx2
              try clear c3
              try clear p3
              try clear q3
              try clear hx3
              try clear c4
              try clear c5
              try clear c6
              try clear c6b0
              try clear c7
              try clear c7b0
              try clear c9
              try clear c9b0
              try clear c10
              try clear c10b0
              try clear c17
              try clear c17b0
              try clear c17b1
              try clear c23
              try clear c25
              try clear c25b0
              try clear c26
              try clear c26b0
              try clear p28
              try clear q28
              try clear hx28
              try clear p29
              try clear q29
              try clear hx29
              try clear p30
              try clear q30
              try clear hx30
              try clear c33
              try clear c37
              try clear c37b0
              try clear c37b1
              try clear c38
              try clear c41
              try clear c41b0
              try clear c43
              try clear c43b0
              try clear c43b1
              try clear hx289_0
              try clear hx289_1
              try clear hx289_2
              try clear hx292_0
              try clear hx292_1
              try clear hx292_2
              try clear hx300_0
              try clear p2
              try clear p28
              try clear p289
              try clear p29
              try clear p292
              try clear p3
              try clear p30
              try clear p300
              try clear q2
              try clear q28
              try clear q289
              try clear q29
              try clear q292
              try clear q3
              try clear q30
              try clear q300
              obtain ⟨kq, x69_39, x1001_39, rfl, HA, HJ39, BK286, HI0, HK, HB⟩ := hcut
              cases kq with
              | zero => exact absurd HA.out (by simp [spec_l72Op.j4])
              | succ kj39 =>
               have H := HA.out
               clear HA
               simp only [spec_l72Op.j4] at H
               by_cases c47 : x69_39 = true
               ·subst c47
                have H1 : ((spec_RowMade.f a2 (wrap64 (a3 + 1))).bind fun t311 => (some (1, t311, x10_34, x12_21, x13_30, x1001_39))) = some (r1, r2, r3, r4, r5, r6) := by rw [if_pos rfl] at H; exact H
                clear H
                have H := H1
                clear H1
                replace H := Option.bind_eq_some_iff.mp H
                obtain ⟨t311, A480, H⟩ := H
                (try dsimp only at H)
                have A48 := Aside0.mk A480
                clear A480
                simp only [Option.some.injEq, Prod.mk.injEq] at H
                obtain ⟨rfl, rfl, rfl, rfl, rfl, rfl⟩ := H
                go_wp2_with (first | ((with_reducible refine gate_callee (f := 73) rfl ?_); refine goesL_ (some 73) rfl rfl Tryd.func73 (by kernel_rfl) rfl #[.int .i64 a2, .int .i64 (wrap64 (a3 + 1))] rfl argsA ?_; (with_reducible refine (spec_RowMade.calls a2 (wrap64 (a3 + 1)) t311 _ A48.out).mono ?_); rintro e w' ⟨rfl, ⟨nd, rfl⟩⟩; refine ⟨_, rfl, ?_⟩; (try (rw [drewN_self wc]; generalize hq_ : World.drewN wc _ = wc; have n0_ : Aside0 (wc.heap[gb286]? = some (.cells #[.int .i64 0, .int .i64 0, .int .i64 0, .int .i64 0, .string (⟨#[]⟩ : ByteArray)] 24 (0, 0))) := ⟨by rw [← hq_]; exact blkA⟩; have n1_ : Aside0 (IsS80 w0 wc g s0_0 x1001_39) := ⟨by rw [← hq_]; exact stA⟩; have n2_ : Aside0 (KeepBut w wc g none) := ⟨by rw [← hq_]; exact keepA⟩; have n3_ : Aside0 (Below w0.heap.size w0 wc) := ⟨by rw [← hq_]; exact belowA⟩; clear BK286 HI0 HK HB hq_; have BK286 := n0_; have HI0 := n1_; have HK := n2_; have HB := n3_; clear n0_ n1_ n2_ n3_)); have hnb49 := NB286_0.out; have hnc49 := NB0_286.out; obtain ⟨hcz50_0, hcz50_1, hcz50_2, hcz50_3, hcz50_4, hfz50_0, hfz50_1, hfz50_2, hfz50_3, hfz50_4⟩ := blk_facts5 BK286.out))
                refine bodyPost_ret (results_cell_row rfl _ _ gb286 24 #[.int .i64 1, .int .i64 t311, .int .i64 x10_34, .int .i64 x12_21, .string x13_30] (0, 0) _ rfl (blk_put (blk_put (blk_put (blk_put (blk_put (blkC #[.int .i64 0, .int .i64 0, .int .i64 0, .int .i64 0, .string (⟨#[]⟩ : ByteArray)]) 0 _ rfl) 1 _ rfl) 2 _ rfl) 3 _ rfl) 4 _ rfl) Tryd.underlying24 rfl (by kernel_rfl)) rfl ?_
                exact ⟨endA, stA, belowA, keepA⟩
               ·replace c47 := Bool.eq_false_iff.mpr c47
                subst c47
                have H1 : ((spec_l1Made.f ((rd_T105 l1 t287).f0)).bind fun t312 => (if t312 = true then ((spec_l6Rd_pick.f kj39 s0_0 x1001_39 3).bind fun bt313 => (if bt313.1 = 0 then (some (2, ((rd_T105 l1 t287).f0), 0, 0, x13_30, bt313.2)) else (some (3, ((rd_T105 l1 t287).f0), x10_34, x12_21, (⟨#[]⟩ : ByteArray), bt313.2)))) else ((spec_l71Id.f kj39 s0_0 x1001_39).bind fun bt315 => ((spec_l6Rd_pick.f kj39 s0_0 bt315.2 3).bind fun bt317 => (if bt317.1 = 0 then (some (2, bt315.1, 0, 0, x13_30, bt317.2)) else (some (3, bt315.1, x10_34, x12_21, (⟨#[]⟩ : ByteArray), bt317.2))))))) = some (r1, r2, r3, r4, r5, r6) := by rw [if_neg (show ¬ (false = true) by decide)] at H; exact H
                clear H
                have H := H1
                clear H1
                replace H := Option.bind_eq_some_iff.mp H
                obtain ⟨t312, A510, H⟩ := H
                (try dsimp only at H)
                have A51 := Aside0.mk A510
                clear A510
                by_cases c52 : t312 = true
                ·subst c52
                 have H1 : ((spec_l6Rd_pick.f kj39 s0_0 x1001_39 3).bind fun bt313 => (if bt313.1 = 0 then (some (2, ((rd_T105 l1 t287).f0), 0, 0, x13_30, bt313.2)) else (some (3, ((rd_T105 l1 t287).f0), x10_34, x12_21, (⟨#[]⟩ : ByteArray), bt313.2)))) = some (r1, r2, r3, r4, r5, r6) := by rw [if_pos rfl] at H; exact H
                 clear H
                 have H := H1
                 clear H1
                 replace H := Option.bind_eq_some_iff.mp H
                 obtain ⟨⟨t313, t314⟩, A530, H⟩ := H
                 (try dsimp only at H)
                 have A53 := Aside0.mk A530
                 clear A530
                 by_cases c54 : t313 = 0
                 ·rw [if_pos c54] at H
                  have c54b0 : (t313 == 0) = true := beq_iff_eq.mpr c54
                  have c54b1 : (t313 != 0) = false := bne_eq_false_iff_eq.mpr c54
                  clear c54
                  simp only [Option.some.injEq, Prod.mk.injEq] at H
                  obtain ⟨rfl, rfl, rfl, rfl, rfl, rfl⟩ := H
                  go_wp2_with (first | ((with_reducible refine gate_callee (f := 58) rfl ?_); refine goesL_ (some 79) rfl rfl Tryd.func58 (by kernel_rfl) rfl #[.int .i64 ((rd_T105 l1 t287).f0)] rfl argsA ?_; (with_reducible refine (spec_l1Made.calls ((rd_T105 l1 t287).f0) true _ A51.out).mono ?_); rintro e w' ⟨rfl, ⟨nd, rfl⟩⟩; refine ⟨_, rfl, ?_⟩; (try (rw [drewN_self wc]; generalize hq_ : World.drewN wc _ = wc; have n0_ : Aside0 (wc.heap[gb286]? = some (.cells #[.int .i64 0, .int .i64 0, .int .i64 0, .int .i64 0, .string (⟨#[]⟩ : ByteArray)] 24 (0, 0))) := ⟨by rw [← hq_]; exact blkA⟩; have n1_ : Aside0 (IsS80 w0 wc g s0_0 x1001_39) := ⟨by rw [← hq_]; exact stA⟩; have n2_ : Aside0 (KeepBut w wc g none) := ⟨by rw [← hq_]; exact keepA⟩; have n3_ : Aside0 (Below w0.heap.size w0 wc) := ⟨by rw [← hq_]; exact belowA⟩; clear BK286 HI0 HK HB hq_; have BK286 := n0_; have HI0 := n1_; have HK := n2_; have HB := n3_; clear n0_ n1_ n2_ n3_))) | ((with_reducible refine gate_callee (f := 38) rfl ?_); refine goesL_ (some 84) rfl rfl Tryd.func38 (by kernel_rfl) rfl #[.pointer (some ⟨g, 0, none⟩), .int .i64 3] rfl argsA ?_; (with_reducible refine (spec_l6Rd_pick.calls kj39 g s0_0 x1001_39 3 t313 t314 w0 _ ?side1 ?side2 A53.out).mono ?_); (case side1 => exact stA); (case side2 => exact belowA); rintro e w55 ⟨rfl, hi, hb, hk⟩; refine ⟨_, rfl, ?_⟩; have n0_ := Aside0.mk (KeepBut.blk hk (g' := gb286) (o := .cells #[.int .i64 0, .int .i64 0, .int .i64 0, .int .i64 0, .string (⟨#[]⟩ : ByteArray)] 24 (0, 0)) blkA NB286_0.out (by simp)); have n1_ := Aside0.mk (KeepBut.trans keepA hk (.inl rfl)); have n2_ := Aside0.mk (hb); have n3_ := Aside0.mk (hi); clear BK286; clear HK; clear HB; clear HI0; have BK286 := n0_; have HK := n1_; have HB := n2_; have HI0 := n3_; clear n0_ n1_ n2_ n3_; (try clear hb); (try clear hb2); (try clear hk); (try clear hi); have hnb56 := NB286_0.out; have hnc56 := NB0_286.out; obtain ⟨hcz57_0, hcz57_1, hcz57_2, hcz57_3, hcz57_4, hfz57_0, hfz57_1, hfz57_2, hfz57_3, hfz57_4⟩ := blk_facts5 BK286.out))
                  refine bodyPost_ret (results_cell_row rfl _ _ gb286 24 #[.int .i64 2, .int .i64 ((rd_T105 l1 t287).f0), .int .i64 0, .int .i64 0, .string x13_30] (0, 0) _ rfl (blk_put (blk_put (blk_put (blk_put (blk_put (blkC #[.int .i64 0, .int .i64 0, .int .i64 0, .int .i64 0, .string (⟨#[]⟩ : ByteArray)]) 0 _ rfl) 1 _ rfl) 2 _ rfl) 3 _ rfl) 4 _ rfl) Tryd.underlying24 rfl (by kernel_rfl)) rfl ?_
                  exact ⟨endA, stA, belowA, keepA⟩
                 ·rw [if_neg c54] at H
                  have c54b0 : (t313 == 0) = false := beq_eq_false_iff_ne.mpr c54
                  have c54b1 : (t313 != 0) = true := bne_iff_ne.mpr c54
                  simp only [Option.some.injEq, Prod.mk.injEq] at H
                  obtain ⟨rfl, rfl, rfl, rfl, rfl, rfl⟩ := H
                  go_wp2_with (first | ((with_reducible refine gate_callee (f := 58) rfl ?_); refine goesL_ (some 79) rfl rfl Tryd.func58 (by kernel_rfl) rfl #[.int .i64 ((rd_T105 l1 t287).f0)] rfl argsA ?_; (with_reducible refine (spec_l1Made.calls ((rd_T105 l1 t287).f0) true _ A51.out).mono ?_); rintro e w' ⟨rfl, ⟨nd, rfl⟩⟩; refine ⟨_, rfl, ?_⟩; (try (rw [drewN_self wc]; generalize hq_ : World.drewN wc _ = wc; have n0_ : Aside0 (wc.heap[gb286]? = some (.cells #[.int .i64 0, .int .i64 0, .int .i64 0, .int .i64 0, .string (⟨#[]⟩ : ByteArray)] 24 (0, 0))) := ⟨by rw [← hq_]; exact blkA⟩; have n1_ : Aside0 (IsS80 w0 wc g s0_0 x1001_39) := ⟨by rw [← hq_]; exact stA⟩; have n2_ : Aside0 (KeepBut w wc g none) := ⟨by rw [← hq_]; exact keepA⟩; have n3_ : Aside0 (Below w0.heap.size w0 wc) := ⟨by rw [← hq_]; exact belowA⟩; clear BK286 HI0 HK HB hq_; have BK286 := n0_; have HI0 := n1_; have HK := n2_; have HB := n3_; clear n0_ n1_ n2_ n3_))) | ((with_reducible refine gate_callee (f := 38) rfl ?_); refine goesL_ (some 84) rfl rfl Tryd.func38 (by kernel_rfl) rfl #[.pointer (some ⟨g, 0, none⟩), .int .i64 3] rfl argsA ?_; (with_reducible refine (spec_l6Rd_pick.calls kj39 g s0_0 x1001_39 3 t313 t314 w0 _ ?side1 ?side2 A53.out).mono ?_); (case side1 => exact stA); (case side2 => exact belowA); rintro e w58 ⟨rfl, hi, hb, hk⟩; refine ⟨_, rfl, ?_⟩; have n0_ := Aside0.mk (KeepBut.blk hk (g' := gb286) (o := .cells #[.int .i64 0, .int .i64 0, .int .i64 0, .int .i64 0, .string (⟨#[]⟩ : ByteArray)] 24 (0, 0)) blkA NB286_0.out (by simp)); have n1_ := Aside0.mk (KeepBut.trans keepA hk (.inl rfl)); have n2_ := Aside0.mk (hb); have n3_ := Aside0.mk (hi); clear BK286; clear HK; clear HB; clear HI0; have BK286 := n0_; have HK := n1_; have HB := n2_; have HI0 := n3_; clear n0_ n1_ n2_ n3_; (try clear hb); (try clear hb2); (try clear hk); (try clear hi); have hnb59 := NB286_0.out; have hnc59 := NB0_286.out; obtain ⟨hcz60_0, hcz60_1, hcz60_2, hcz60_3, hcz60_4, hfz60_0, hfz60_1, hfz60_2, hfz60_3, hfz60_4⟩ := blk_facts5 BK286.out))
                  refine bodyPost_ret (results_cell_row rfl _ _ gb286 24 #[.int .i64 3, .int .i64 ((rd_T105 l1 t287).f0), .int .i64 x10_34, .int .i64 x12_21, .string (⟨#[]⟩ : ByteArray)] (0, 0) _ rfl (blk_put (blk_put (blk_put (blk_put (blk_put (blkC #[.int .i64 0, .int .i64 0, .int .i64 0, .int .i64 0, .string (⟨#[]⟩ : ByteArray)]) 0 _ rfl) 1 _ rfl) 2 _ rfl) 3 _ rfl) 4 _ rfl) Tryd.underlying24 rfl (by kernel_rfl)) rfl ?_
                  exact ⟨endA, stA, belowA, keepA⟩
                ·replace c52 := Bool.eq_false_iff.mpr c52
                 subst c52
                 have H1 : ((spec_l71Id.f kj39 s0_0 x1001_39).bind fun bt315 => ((spec_l6Rd_pick.f kj39 s0_0 bt315.2 3).bind fun bt317 => (if bt317.1 = 0 then (some (2, bt315.1, 0, 0, x13_30, bt317.2)) else (some (3, bt315.1, x10_34, x12_21, (⟨#[]⟩ : ByteArray), bt317.2))))) = some (r1, r2, r3, r4, r5, r6) := by rw [if_neg (show ¬ (false = true) by decide)] at H; exact H
                 clear H
                 have H := H1
                 clear H1
                 replace H := Option.bind_eq_some_iff.mp H
                 obtain ⟨⟨t315, t316⟩, A610, H⟩ := H
                 (try dsimp only at H)
                 have A61 := Aside0.mk A610
                 clear A610
                 replace H := Option.bind_eq_some_iff.mp H
                 obtain ⟨⟨t317, t318⟩, A620, H⟩ := H
                 (try dsimp only at H)
                 have A62 := Aside0.mk A620
                 clear A620
                 by_cases c63 : t317 = 0
                 ·rw [if_pos c63] at H
                  have c63b0 : (t317 == 0) = true := beq_iff_eq.mpr c63
                  have c63b1 : (t317 != 0) = false := bne_eq_false_iff_eq.mpr c63
                  clear c63
                  simp only [Option.some.injEq, Prod.mk.injEq] at H
                  obtain ⟨rfl, rfl, rfl, rfl, rfl, rfl⟩ := H
                  go_wp2_with (first | ((with_reducible refine gate_callee (f := 58) rfl ?_); refine goesL_ (some 79) rfl rfl Tryd.func58 (by kernel_rfl) rfl #[.int .i64 ((rd_T105 l1 t287).f0)] rfl argsA ?_; (with_reducible refine (spec_l1Made.calls ((rd_T105 l1 t287).f0) false _ A51.out).mono ?_); rintro e w' ⟨rfl, ⟨nd, rfl⟩⟩; refine ⟨_, rfl, ?_⟩; (try (rw [drewN_self wc]; generalize hq_ : World.drewN wc _ = wc; have n0_ : Aside0 (wc.heap[gb286]? = some (.cells #[.int .i64 0, .int .i64 0, .int .i64 0, .int .i64 0, .string (⟨#[]⟩ : ByteArray)] 24 (0, 0))) := ⟨by rw [← hq_]; exact blkA⟩; have n1_ : Aside0 (IsS80 w0 wc g s0_0 x1001_39) := ⟨by rw [← hq_]; exact stA⟩; have n2_ : Aside0 (KeepBut w wc g none) := ⟨by rw [← hq_]; exact keepA⟩; have n3_ : Aside0 (Below w0.heap.size w0 wc) := ⟨by rw [← hq_]; exact belowA⟩; clear BK286 HI0 HK HB hq_; have BK286 := n0_; have HI0 := n1_; have HK := n2_; have HB := n3_; clear n0_ n1_ n2_ n3_))) | ((with_reducible refine gate_callee (f := 55) rfl ?_); refine goesL_ (some 82) rfl rfl Tryd.func55 (by kernel_rfl) rfl #[.pointer (some ⟨g, 0, none⟩)] rfl argsA ?_; (with_reducible refine (spec_l71Id.calls kj39 g s0_0 x1001_39 t315 t316 w0 _ ?side1 ?side2 A61.out).mono ?_); (case side1 => exact stA); (case side2 => exact belowA); rintro e w64 ⟨rfl, hi, hb, hk⟩; refine ⟨_, rfl, ?_⟩; have n0_ := Aside0.mk (KeepBut.blk hk (g' := gb286) (o := .cells #[.int .i64 0, .int .i64 0, .int .i64 0, .int .i64 0, .string (⟨#[]⟩ : ByteArray)] 24 (0, 0)) blkA NB286_0.out (by simp)); have n1_ := Aside0.mk (KeepBut.trans keepA hk (.inl rfl)); have n2_ := Aside0.mk (hb); have n3_ := Aside0.mk (hi); clear BK286; clear HK; clear HB; clear HI0; have BK286 := n0_; have HK := n1_; have HB := n2_; have HI0 := n3_; clear n0_ n1_ n2_ n3_; (try clear hb); (try clear hb2); (try clear hk); (try clear hi)) | ((with_reducible refine gate_callee (f := 38) rfl ?_); refine goesL_ (some 84) rfl rfl Tryd.func38 (by kernel_rfl) rfl #[.pointer (some ⟨g, 0, none⟩), .int .i64 3] rfl argsA ?_; (with_reducible refine (spec_l6Rd_pick.calls kj39 g s0_0 t316 3 t317 t318 w0 _ ?side1 ?side2 A62.out).mono ?_); (case side1 => exact stA); (case side2 => exact belowA); rintro e w65 ⟨rfl, hi, hb, hk⟩; refine ⟨_, rfl, ?_⟩; have n0_ := Aside0.mk (KeepBut.blk hk (g' := gb286) (o := .cells #[.int .i64 0, .int .i64 0, .int .i64 0, .int .i64 0, .string (⟨#[]⟩ : ByteArray)] 24 (0, 0)) blkA NB286_0.out (by simp)); have n1_ := Aside0.mk (KeepBut.trans keepA hk (.inl rfl)); have n2_ := Aside0.mk (hb); have n3_ := Aside0.mk (hi); clear BK286; clear HK; clear HB; clear HI0; have BK286 := n0_; have HK := n1_; have HB := n2_; have HI0 := n3_; clear n0_ n1_ n2_ n3_; (try clear hb); (try clear hb2); (try clear hk); (try clear hi); have hnb66 := NB286_0.out; have hnc66 := NB0_286.out; obtain ⟨hcz67_0, hcz67_1, hcz67_2, hcz67_3, hcz67_4, hfz67_0, hfz67_1, hfz67_2, hfz67_3, hfz67_4⟩ := blk_facts5 BK286.out))
                  refine bodyPost_ret (results_cell_row rfl _ _ gb286 24 #[.int .i64 2, .int .i64 t315, .int .i64 0, .int .i64 0, .string x13_30] (0, 0) _ rfl (blk_put (blk_put (blk_put (blk_put (blk_put (blkC #[.int .i64 0, .int .i64 0, .int .i64 0, .int .i64 0, .string (⟨#[]⟩ : ByteArray)]) 0 _ rfl) 1 _ rfl) 2 _ rfl) 3 _ rfl) 4 _ rfl) Tryd.underlying24 rfl (by kernel_rfl)) rfl ?_
                  exact ⟨endA, stA, belowA, keepA⟩
                 ·rw [if_neg c63] at H
                  have c63b0 : (t317 == 0) = false := beq_eq_false_iff_ne.mpr c63
                  have c63b1 : (t317 != 0) = true := bne_iff_ne.mpr c63
                  simp only [Option.some.injEq, Prod.mk.injEq] at H
                  obtain ⟨rfl, rfl, rfl, rfl, rfl, rfl⟩ := H
                  go_wp2_with (first | ((with_reducible refine gate_callee (f := 58) rfl ?_); refine goesL_ (some 79) rfl rfl Tryd.func58 (by kernel_rfl) rfl #[.int .i64 ((rd_T105 l1 t287).f0)] rfl argsA ?_; (with_reducible refine (spec_l1Made.calls ((rd_T105 l1 t287).f0) false _ A51.out).mono ?_); rintro e w' ⟨rfl, ⟨nd, rfl⟩⟩; refine ⟨_, rfl, ?_⟩; (try (rw [drewN_self wc]; generalize hq_ : World.drewN wc _ = wc; have n0_ : Aside0 (wc.heap[gb286]? = some (.cells #[.int .i64 0, .int .i64 0, .int .i64 0, .int .i64 0, .string (⟨#[]⟩ : ByteArray)] 24 (0, 0))) := ⟨by rw [← hq_]; exact blkA⟩; have n1_ : Aside0 (IsS80 w0 wc g s0_0 x1001_39) := ⟨by rw [← hq_]; exact stA⟩; have n2_ : Aside0 (KeepBut w wc g none) := ⟨by rw [← hq_]; exact keepA⟩; have n3_ : Aside0 (Below w0.heap.size w0 wc) := ⟨by rw [← hq_]; exact belowA⟩; clear BK286 HI0 HK HB hq_; have BK286 := n0_; have HI0 := n1_; have HK := n2_; have HB := n3_; clear n0_ n1_ n2_ n3_))) | ((with_reducible refine gate_callee (f := 55) rfl ?_); refine goesL_ (some 82) rfl rfl Tryd.func55 (by kernel_rfl) rfl #[.pointer (some ⟨g, 0, none⟩)] rfl argsA ?_; (with_reducible refine (spec_l71Id.calls kj39 g s0_0 x1001_39 t315 t316 w0 _ ?side1 ?side2 A61.out).mono ?_); (case side1 => exact stA); (case side2 => exact belowA); rintro e w68 ⟨rfl, hi, hb, hk⟩; refine ⟨_, rfl, ?_⟩; have n0_ := Aside0.mk (KeepBut.blk hk (g' := gb286) (o := .cells #[.int .i64 0, .int .i64 0, .int .i64 0, .int .i64 0, .string (⟨#[]⟩ : ByteArray)] 24 (0, 0)) blkA NB286_0.out (by simp)); have n1_ := Aside0.mk (KeepBut.trans keepA hk (.inl rfl)); have n2_ := Aside0.mk (hb); have n3_ := Aside0.mk (hi); clear BK286; clear HK; clear HB; clear HI0; have BK286 := n0_; have HK := n1_; have HB := n2_; have HI0 := n3_; clear n0_ n1_ n2_ n3_; (try clear hb); (try clear hb2); (try clear hk); (try clear hi)) | ((with_reducible refine gate_callee (f := 38) rfl ?_); refine goesL_ (some 84) rfl rfl Tryd.func38 (by kernel_rfl) rfl #[.pointer (some ⟨g, 0, none⟩), .int .i64 3] rfl argsA ?_; (with_reducible refine (spec_l6Rd_pick.calls kj39 g s0_0 t316 3 t317 t318 w0 _ ?side1 ?side2 A62.out).mono ?_); (case side1 => exact stA); (case side2 => exact belowA); rintro e w69 ⟨rfl, hi, hb, hk⟩; refine ⟨_, rfl, ?_⟩; have n0_ := Aside0.mk (KeepBut.blk hk (g' := gb286) (o := .cells #[.int .i64 0, .int .i64 0, .int .i64 0, .int .i64 0, .string (⟨#[]⟩ : ByteArray)] 24 (0, 0)) blkA NB286_0.out (by simp)); have n1_ := Aside0.mk (KeepBut.trans keepA hk (.inl rfl)); have n2_ := Aside0.mk (hb); have n3_ := Aside0.mk (hi); clear BK286; clear HK; clear HB; clear HI0; have BK286 := n0_; have HK := n1_; have HB := n2_; have HI0 := n3_; clear n0_ n1_ n2_ n3_; (try clear hb); (try clear hb2); (try clear hk); (try clear hi); have hnb70 := NB286_0.out; have hnc70 := NB0_286.out; obtain ⟨hcz71_0, hcz71_1, hcz71_2, hcz71_3, hcz71_4, hfz71_0, hfz71_1, hfz71_2, hfz71_3, hfz71_4⟩ := blk_facts5 BK286.out))
                  refine bodyPost_ret (results_cell_row rfl _ _ gb286 24 #[.int .i64 3, .int .i64 t315, .int .i64 x10_34, .int .i64 x12_21, .string (⟨#[]⟩ : ByteArray)] (0, 0) _ rfl (blk_put (blk_put (blk_put (blk_put (blk_put (blkC #[.int .i64 0, .int .i64 0, .int .i64 0, .int .i64 0, .string (⟨#[]⟩ : ByteArray)]) 0 _ rfl) 1 _ rfl) 2 _ rfl) 3 _ rfl) 4 _ rfl) Tryd.underlying24 rfl (by kernel_rfl)) rfl ?_
                  exact ⟨endA, stA, belowA, keepA⟩
    ·rw [if_neg c10] at H
     exact absurd H (by simp)
   ·rw [if_neg c9] at H
    exact absurd H (by simp)
  ·rw [if_neg c7] at H
   exact absurd H (by simp)
 ·rw [if_neg c6] at H
  exact absurd H (by simp)
end Go.Proofs.YtlpfjabfhgfpmaaDoor.P
