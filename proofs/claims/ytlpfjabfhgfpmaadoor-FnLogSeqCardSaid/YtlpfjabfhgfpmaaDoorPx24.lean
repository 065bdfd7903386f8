-- Written by wip/tools/pprint.py (a program of this session) over the kit's printer; not trusted: Lean checks it.
import Derived.Test.YtlpfjabfhgfpmaaDoorPx0
import Derived.Test.YtlpfjabfhgfpmaaDoorPx7
import Derived.Test.YtlpfjabfhgfpmaaDoorPx8
import Derived.Test.YtlpfjabfhgfpmaaDoorPx10
import Derived.Test.YtlpfjabfhgfpmaaDoorV2
namespace Go.Proofs.YtlpfjabfhgfpmaaDoor.P
open Go.RowKit Go.Proofs.YtlpfjabfhgfpmaaDoorW.PrintWords Go.Proofs.YtlpfjabfhgfpmaaDoorW.PrintLast Go.Proofs.YtlpfjabfhgfpmaaDoorW.PrintMore
attribute [local go_sem] cell_set_set cell_set_far_set max2_int min2_int max_two min_two max_three min_three max_four min_four   -- for this text's walks alone
set_option linter.unusedVariables false
set_option linter.unusedSimpArgs false

/-! ### spec_DrawEntryOk: function 12 -/
mutual
def spec_DrawEntryOk.j0 : Nat → Bool → List Int → Int → Int → Int → Int → Int → Int → Int → ByteArray → Option (Int × Int × Int × Int × Int × Int × ByteArray)
  | 0, _, _, _, _, _, _, _, _, _, _ => none
  | k + 1, x24, x486000, x486001, x497000, x497001, x497002, x497003, x497004, x497005, x497006 => if x24 = true then (spec_DrawEntryOk.j1 k x486000 x486001 (wrap64 (Int.tdiv x497003 10)) x497001 x497002 x497003 x497004 x497005 x497006) else (spec_DrawEntryOk.j1 k x486000 x486001 x497000 x497001 x497002 x497003 x497004 x497005 x497006)
def spec_DrawEntryOk.j1 : Nat → List Int → Int → Int → Int → Int → Int → Int → Int → ByteArray → Option (Int × Int × Int × Int × Int × Int × ByteArray)
  | 0, _, _, _, _, _, _, _, _, _ => none
  | k + 1, x486000, x486001, x497000, x497001, x497002, x497003, x497004, x497005, x497006 => (spec_l6Rd_pick.f k x486000 x486001 12).bind fun bt499 => (if bt499.1 = 0 then ((spec_l6Rd_pick.f k x486000 bt499.2 6).bind fun bt501 => (some (wrap64 (bt501.1 - 1), x497001, x497002, x497003, x497004, x497005, x497006))) else (if bt499.1 = 1 then ((some (([0, 40, 41] : List Int) : List Int)).bind fun y503 => ((spec_l6Rd_pick.f k x486000 bt499.2 3).bind fun bt506 => (if 0 ≤ bt506.1 then (if bt506.1 < (y503.length : Int) then (some (x497000, rd y503 bt506.1, x497002, x497003, x497004, x497005, x497006)) else (none)) else (none)))) else (some (x497000, x497001, x497002, x497003, x497004, x497005, x497006))))
end
def spec_DrawEntryOk.f (k : Nat) (l0 : List Int) : Option (Int × Int × Int × Int × Int × Int × ByteArray) := (spec_l6Open.f l0).bind fun bt483 => ((spec_l6Rd_pick.f k bt483.1 bt483.2 3).bind fun bt486 => ((spec_l6Rd_pick.f k bt483.1 bt486.2 9).bind fun bt488 => ((spec_l71Op.f k bt483.1 bt488.2).bind fun bt490 => (if bt490.1 = 1 then ((spec_l6Rd_pick.f k bt483.1 bt490.2.2.2.2.2 4).bind fun bt497 => (spec_DrawEntryOk.j0 k (decide (bt497.1 > 0)) bt483.1 bt497.2 (wrap64 (1 + bt486.1)) (wrap64 (1 + bt488.1)) bt490.1 bt490.2.1 bt490.2.2.1 bt490.2.2.2.1 bt490.2.2.2.2.1)) else (spec_DrawEntryOk.j0 k false bt483.1 bt490.2.2.2.2.2 (wrap64 (1 + bt486.1)) (wrap64 (1 + bt488.1)) bt490.1 bt490.2.1 bt490.2.2.1 bt490.2.2.2.1 bt490.2.2.2.2.1)))))
theorem spec_DrawEntryOk.mono_l : ∀ k, (∀ y0 y1 y2 y3 y4 y5 y6 y7 y8 y9, LeO (spec_DrawEntryOk.j0 k y0 y1 y2 y3 y4 y5 y6 y7 y8 y9) (spec_DrawEntryOk.j0 (k + 1) y0 y1 y2 y3 y4 y5 y6 y7 y8 y9)) ∧ (∀ y0 y1 y2 y3 y4 y5 y6 y7 y8, LeO (spec_DrawEntryOk.j1 k y0 y1 y2 y3 y4 y5 y6 y7 y8) (spec_DrawEntryOk.j1 (k + 1) y0 y1 y2 y3 y4 y5 y6 y7 y8))
  | 0 => ⟨fun _ _ _ _ _ _ _ _ _ _ r h => by simp [spec_DrawEntryOk.j0] at h, fun _ _ _ _ _ _ _ _ _ r h => by simp [spec_DrawEntryOk.j1] at h⟩
  | k + 1 => by
    obtain ⟨ih0, ih1⟩ := spec_DrawEntryOk.mono_l k
    refine ⟨?_, ?_⟩
    · intro y0 y1 y2 y3 y4 y5 y6 y7 y8 y9
      unfold spec_DrawEntryOk.j0
      repeat' first
      | (with_reducible exact ih0 _ _ _ _ _ _ _ _ _ _)
      | (with_reducible exact ih1 _ _ _ _ _ _ _ _ _)
      | (with_reducible exact spec_l6Rd_pick.mono _ _ _ _)
      | (with_reducible exact spec_l71Op.mono _ _ _)
      | (with_reducible exact LeO.refl _)
      | (with_reducible exact LeO.none _)
      | (with_reducible refine LeO.ite ?_ ?_)
      | (with_reducible refine LeO.bind ?_ (fun _ => ?_))
      | exact ih0 _ _ _ _ _ _ _ _ _ _
      | exact ih1 _ _ _ _ _ _ _ _ _
      | exact spec_l6Rd_pick.mono _ _ _ _
      | exact spec_l71Op.mono _ _ _
      | exact LeO.none _
      | refine LeO.ite ?_ ?_
      | refine LeO.bind ?_ (fun _ => ?_)
    · intro y0 y1 y2 y3 y4 y5 y6 y7 y8
      unfold spec_DrawEntryOk.j1
      repeat' first
      | (with_reducible exact ih0 _ _ _ _ _ _ _ _ _ _)
      | (with_reducible exact ih1 _ _ _ _ _ _ _ _ _)
      | (with_reducible exact spec_l6Rd_pick.mono _ _ _ _)
      | (with_reducible exact spec_l71Op.mono _ _ _)
      | (with_reducible exact LeO.refl _)
      | (with_reducible exact LeO.none _)
      | (with_reducible refine LeO.ite ?_ ?_)
      | (with_reducible refine LeO.bind ?_ (fun _ => ?_))
      | exact ih0 _ _ _ _ _ _ _ _ _ _
      | exact ih1 _ _ _ _ _ _ _ _ _
      | exact spec_l6Rd_pick.mono _ _ _ _
      | exact spec_l71Op.mono _ _ _
      | exact LeO.none _
      | refine LeO.ite ?_ ?_
      | refine LeO.bind ?_ (fun _ => ?_)
theorem spec_DrawEntryOk.mono : ∀ a0 k, LeO (spec_DrawEntryOk.f k a0) (spec_DrawEntryOk.f (k + 1) a0) := by
  intro a0 k
  obtain ⟨ih0, ih1⟩ := spec_DrawEntryOk.mono_l k
  unfold spec_DrawEntryOk.f
  repeat' first
      | (with_reducible exact ih0 _ _ _ _ _ _ _ _ _ _)
      | (with_reducible exact ih1 _ _ _ _ _ _ _ _ _)
      | (with_reducible exact spec_l6Rd_pick.mono _ _ _ _)
      | (with_reducible exact spec_l71Op.mono _ _ _)
      | (with_reducible exact LeO.refl _)
      | (with_reducible exact LeO.none _)
      | (with_reducible refine LeO.ite ?_ ?_)
      | (with_reducible refine LeO.bind ?_ (fun _ => ?_))
      | exact ih0 _ _ _ _ _ _ _ _ _ _
      | exact ih1 _ _ _ _ _ _ _ _ _
      | exact spec_l6Rd_pick.mono _ _ _ _
      | exact spec_l71Op.mono _ _ _
      | exact LeO.none _
      | refine LeO.ite ?_ ?_
      | refine LeO.bind ?_ (fun _ => ?_)
set_option maxHeartbeats 8000000 in
set_option maxRecDepth 100000 in
theorem spec_DrawEntryOk.calls (k : Nat) (A0 : Option Addr) (c0 : Nat) (l0 : List Int) (r1 : Int) (r2 : Int) (r3 : Int) (r4 : Int) (r5 : Int) (r6 : Int) (r7 : ByteArray) (w : World) (hr0 : Kd.C (Kd.int .u8) w A0 l0.length l0) (hc0 : l0.length ≤ c0) (h : spec_DrawEntryOk.f k l0 = some (r1, r2, r3, r4, r5, r6, r7)) :
    Calls Tryd.prog 12 #[.slice A0 l0.length c0] w fun e w' => e = .returned (.agg #[.int .i64 r1, .int .i64 r2, .int .i64 r3, .int .i64 r4, .int .i64 r5, .int .i64 r6, .string r7]) ∧ Below w.heap.size w w' := by
  have hu26 := Tryd.underlying26
  have HR0 := Aside0.mk hr0
  have HC0 := Aside0.mk hc0
  clear hr0 hc0
  have HB := Aside0.mk (Below.refl w.heap.size w)
  have H : ((spec_l6Open.f l0).bind fun bt483 => ((spec_l6Rd_pick.f k bt483.1 bt483.2 3).bind fun bt486 => ((spec_l6Rd_pick.f k bt483.1 bt486.2 9).bind fun bt488 => ((spec_l71Op.f k bt483.1 bt488.2).bind fun bt490 => (if bt490.1 = 1 then ((spec_l6Rd_pick.f k bt483.1 bt490.2.2.2.2.2 4).bind fun bt497 => (spec_DrawEntryOk.j0 k (decide (bt497.1 > 0)) bt483.1 bt497.2 (wrap64 (1 + bt486.1)) (wrap64 (1 + bt488.1)) bt490.1 bt490.2.1 bt490.2.2.1 bt490.2.2.2.1 bt490.2.2.2.2.1)) else (spec_DrawEntryOk.j0 k false bt483.1 bt490.2.2.2.2.2 (wrap64 (1 + bt486.1)) (wrap64 (1 + bt488.1)) bt490.1 bt490.2.1 bt490.2.2.1 bt490.2.2.2.1 bt490.2.2.2.2.1)))))) = some (r1, r2, r3, r4, r5, r6, r7) := h
  clear h
  replace H := Option.bind_eq_some_iff.mp H
  obtain ⟨⟨t483, t484⟩, A20, H⟩ := H
  (try dsimp only at H)
  have A2 := Aside0.mk A20
  clear A20
  replace H := Option.bind_eq_some_iff.mp H
  obtain ⟨⟨t486, t487⟩, A30, H⟩ := H
  (try dsimp only at H)
  have A3 := Aside0.mk A30
  clear A30
  replace H := Option.bind_eq_some_iff.mp H
  obtain ⟨⟨t488, t489⟩, A40, H⟩ := H
  (try dsimp only at H)
  have A4 := Aside0.mk A40
  clear A40
  replace H := Option.bind_eq_some_iff.mp H
  obtain ⟨⟨t490, t491, t492, t493, t494, t495⟩, A50, H⟩ := H
  (try dsimp only at H)
  have A5 := Aside0.mk A50
  clear A50
  have HC6 := Aside0.mk H
  clear H
  go_enter Tryd.func12, Tryd.ntmps12
  go_upto_region 3 with (first | ((with_reducible refine gate_dst (N := 2) rfl ?_); refine box_event ?hg (N := 2) ?hd (cs := #[.int .i64 0, .int .i64 0, .int .i64 0, .int .i64 0, .int .i64 0, .int .i64 0, .string (⟨#[]⟩ : ByteArray)]) (t := 26) ?hr ?_; (case hd => rfl); (case hg => rfl); (case hr => first | (go_simp; done) | (go_simp; rfl)); intro gb482 hg w7 hbox hb; have n0_ := Aside0.mk (below_step belowA hb); have n1_ := Aside0.mk (hbox); have n2_ := Aside0.mk ((by rw [hg]; exact (below_size belowA) : w.heap.size ≤ gb482)); have n3_ := Aside0.mk ((by rw [hg]; exact (below_size belowA) : w.heap.size ≤ gb482)); clear HB; have HB := n0_; have BK482 := n1_; have GW482 := n2_; have GE482 := n3_; clear n0_ n1_ n2_ n3_; clear hb hbox hg) | ((with_reducible refine gate_callee (f := 37) rfl ?_); refine goesL_ (some 6) rfl rfl Tryd.func37 (by kernel_rfl) rfl #[.slice A0 l0.length c0] rfl argsA ?_; (with_reducible refine (spec_l6Open.calls _ _ l0 t483 t484 w _ ?side1 ?side2 ?side3 A2.out).mono ?_); (case side1 => exact belowA); (case side2 => exact HR0.out); (case side3 => exact HC0.out); rintro e w8 ⟨g485, rfl, hi, hb, hb2⟩; refine ⟨_, rfl, ?_⟩; have n0_ := Aside0.mk (blk_below (g := gb482) (o := .cells #[.int .i64 0, .int .i64 0, .int .i64 0, .int .i64 0, .int .i64 0, .int .i64 0, .string (⟨#[]⟩ : ByteArray)] 26 (0, 0)) blkA hb2); have n1_ := Aside0.mk (hb); have n2_ := Aside0.mk (hi); have n3_ := Aside0.mk (IsS80.ne_blk hi (blk_below (g := gb482) (o := .cells #[.int .i64 0, .int .i64 0, .int .i64 0, .int .i64 0, .int .i64 0, .int .i64 0, .string (⟨#[]⟩ : ByteArray)] 26 (0, 0)) blkA hb2) (by decide)); have n4_ := Aside0.mk (Ne.symm (IsS80.ne_blk hi (blk_below (g := gb482) (o := .cells #[.int .i64 0, .int .i64 0, .int .i64 0, .int .i64 0, .int .i64 0, .int .i64 0, .string (⟨#[]⟩ : ByteArray)] 26 (0, 0)) blkA hb2) (by decide))); clear BK482; clear HB; have BK482 := n0_; have HB := n1_; have HI485 := n2_; have NB485_482 := n3_; have NB482_485 := n4_; clear n0_ n1_ n2_ n3_ n4_; (try clear hb); (try clear hb2); (try clear hk); (try clear hi)) | ((with_reducible refine gate_callee (f := 38) rfl ?_); refine goesL_ (some 8) rfl rfl Tryd.func38 (by kernel_rfl) rfl #[.pointer (some ⟨g485, 0, none⟩), .int .i64 3] rfl argsA ?_; (with_reducible refine (spec_l6Rd_pick.calls k g485 t483 t484 3 t486 t487 w _ ?side1 ?side2 A3.out).mono ?_); (case side1 => exact stA); (case side2 => exact belowA); rintro e w9 ⟨rfl, hi, hb, hk⟩; refine ⟨_, rfl, ?_⟩; have n0_ := Aside0.mk (KeepBut.blk hk (g' := gb482) (o := .cells #[.int .i64 0, .int .i64 0, .int .i64 0, .int .i64 0, .int .i64 0, .int .i64 0, .string (⟨#[]⟩ : ByteArray)] 26 (0, 0)) blkA NB482_485.out (by simp)); have n1_ := Aside0.mk (hb); have n2_ := Aside0.mk (hi); clear BK482; clear HB; clear HI485; have BK482 := n0_; have HB := n1_; have HI485 := n2_; clear n0_ n1_ n2_; (try clear hb); (try clear hb2); (try clear hk); (try clear hi)) | ((with_reducible refine gate_callee (f := 38) rfl ?_); refine goesL_ (some 11) rfl rfl Tryd.func38 (by kernel_rfl) rfl #[.pointer (some ⟨g485, 0, none⟩), .int .i64 9] rfl argsA ?_; (with_reducible refine (spec_l6Rd_pick.calls k g485 t483 t487 9 t488 t489 w _ ?side1 ?side2 A4.out).mono ?_); (case side1 => exact stA); (case side2 => exact belowA); rintro e w10 ⟨rfl, hi, hb, hk⟩; refine ⟨_, rfl, ?_⟩; have n0_ := Aside0.mk (KeepBut.blk hk (g' := gb482) (o := .cells #[.int .i64 0, .int .i64 0, .int .i64 0, .int .i64 0, .int .i64 0, .int .i64 0, .string (⟨#[]⟩ : ByteArray)] 26 (0, 0)) blkA NB482_485.out (by simp)); have n1_ := Aside0.mk (hb); have n2_ := Aside0.mk (hi); clear BK482; clear HB; clear HI485; have BK482 := n0_; have HB := n1_; have HI485 := n2_; clear n0_ n1_ n2_; (try clear hb); (try clear hb2); (try clear hk); (try clear hi)) | ((with_reducible refine gate_callee (f := 39) rfl ?_); refine goesL_ (some 14) rfl rfl Tryd.func39 (by kernel_rfl) rfl #[.pointer (some ⟨g485, 0, none⟩)] rfl argsA ?_; (with_reducible refine (spec_l71Op.calls k g485 t483 t489 t490 t491 t492 t493 t494 t495 w _ ?side1 ?side2 A5.out).mono ?_); (case side1 => exact stA); (case side2 => exact belowA); rintro e w11 ⟨rfl, hi, hb, hk⟩; refine ⟨_, rfl, ?_⟩; have n0_ := Aside0.mk (KeepBut.blk hk (g' := gb482) (o := .cells #[.int .i64 0, .int .i64 0, .int .i64 0, .int .i64 0, .int .i64 0, .int .i64 0, .string (⟨#[]⟩ : ByteArray)] 26 (0, 0)) blkA NB482_485.out (by simp)); have n1_ := Aside0.mk (hb); have n2_ := Aside0.mk (hi); clear BK482; clear HB; clear HI485; have BK482 := n0_; have HB := n1_; have HI485 := n2_; clear n0_ n1_ n2_; (try clear hb); (try clear hb2); (try clear hk); (try clear hi)) | ((with_reducible refine gate_dst (N := 4) rfl ?_); refine box_event ?hg (N := 4) ?hd (cs := #[.int .i64 0, .int .i64 0, .int .i64 0, .int .i64 0, .int .i64 0, .int .i64 0, .string (⟨#[]⟩ : ByteArray)]) (t := 26) ?hr ?_; (case hd => rfl); (case hg => rfl); (case hr => first | (go_simp; done) | (go_simp; rfl)); intro gb496 hg w12 hbox hb; have n0_ := Aside0.mk (blk_below (g := gb482) (o := .cells #[.int .i64 0, .int .i64 0, .int .i64 0, .int .i64 0, .int .i64 0, .int .i64 0, .string (⟨#[]⟩ : ByteArray)] 26 (0, 0)) blkA hb); have n1_ := Aside0.mk (IsS80.below stA hb); have n2_ := Aside0.mk (below_step belowA hb); have n3_ := Aside0.mk (hbox); have n4_ := Aside0.mk ((by rw [hg]; exact (below_size belowA) : w.heap.size ≤ gb496)); have n5_ := Aside0.mk ((by rw [hg]; exact (below_size belowA) : w.heap.size ≤ gb496)); have n6_ := Aside0.mk ((by rw [hg]; exact Nat.ne_of_lt (blk_lt (g := gb482) (o := .cells #[.int .i64 0, .int .i64 0, .int .i64 0, .int .i64 0, .int .i64 0, .int .i64 0, .string (⟨#[]⟩ : ByteArray)] 26 (0, 0)) blkA) : gb482 ≠ gb496)); have n7_ := Aside0.mk ((by rw [hg]; exact Nat.ne_of_gt (blk_lt (g := gb482) (o := .cells #[.int .i64 0, .int .i64 0, .int .i64 0, .int .i64 0, .int .i64 0, .int .i64 0, .string (⟨#[]⟩ : ByteArray)] 26 (0, 0)) blkA) : gb496 ≠ gb482)); have n8_ := Aside0.mk ((by rw [hg]; exact Nat.ne_of_lt (IsS80.lt (show IsS80 w _ g485 t483 t495 from stA)) : g485 ≠ gb496)); have n9_ := Aside0.mk ((by rw [hg]; exact Nat.ne_of_gt (IsS80.lt (show IsS80 w _ g485 t483 t495 from stA)) : gb496 ≠ g485)); clear BK482; clear HI485; clear HB; have BK482 := n0_; have HI485 := n1_; have HB := n2_; have BK496 := n3_; have GW496 := n4_; have GE496 := n5_; have NB482_496 := n6_; have NB496_482 := n7_; have NB485_496 := n8_; have NB496_485 := n9_; clear n0_ n1_ n2_ n3_ n4_ n5_ n6_ n7_ n8_ n9_; clear hb hbox hg; have hnb13 := NB496_482.out; have hnc13 := NB482_496.out; have hnb14 := NB496_485.out; have hnc14 := NB485_496.out; obtain ⟨hcz15_0, hcz15_1, hcz15_2, hcz15_3, hcz15_4, hcz15_5, hcz15_6, hfz15_0, hfz15_1, hfz15_2, hfz15_3, hfz15_4, hfz15_5, hfz15_6⟩ := blk_facts7 BK496.out))
  (try simp only [Act.put, List.setIfInBounds_toArray, List.set_cons_zero, List.set_cons_succ])
  go_cut [24] (fun v24 wc => ∃ (kq : Nat) (x24_5 : Bool) (x486001_5 : Int), v24 = .bool x24_5 ∧ Aside0 (spec_DrawEntryOk.j0 kq x24_5 t483 x486001_5 (wrap64 (1 + t486)) (wrap64 (1 + t488)) t490 t491 t492 t493 t494 = some (r1, r2, r3, r4, r5, r6, r7)) ∧ Aside0 (kq ≤ k) ∧ Aside0 (wc.heap[gb482]? = some (.cells #[.int .i64 0, .int .i64 0, .int .i64 0, .int .i64 0, .int .i64 0, .int .i64 0, .string (⟨#[]⟩ : ByteArray)] 26 (0, 0))) ∧ Aside0 (wc.heap[gb496]? = some (.cells #[.int .i64 (wrap64 (1 + t486)), .int .i64 (wrap64 (1 + t488)), .int .i64 t490, .int .i64 t491, .int .i64 t492, .int .i64 t493, .string t494] 26 (0, 0))) ∧ Aside0 (IsS80 w wc g485 t483 x486001_5) ∧ Aside0 (Below w.heap.size w wc))
  case first =>
    have H := HC6.out
    clear HC6
    by_cases c16 : t490 = 1
    · rw [if_pos c16] at H
      have c16b0 : (t490 == 1) = true := beq_iff_eq.mpr c16
      have c16b1 : (t490 != 1) = false := bne_eq_false_iff_eq.mpr c16
      clear c16
      (first | rw [c16b0] | (simp only [i64_w, i32_w]; rw [c16b0]) | skip)
      replace H := Option.bind_eq_some_iff.mp H
      obtain ⟨⟨t497, t498⟩, A170, H⟩ := H
      (try dsimp only at H)
      have A17 := Aside0.mk A170
      clear A170
      have H' := Aside0.mk H
      clear H
      have hnb18 := NB496_482.out
      have hnc18 := NB482_496.out
      have hnb19 := NB496_485.out
      have hnc19 := NB485_496.out
      obtain ⟨hcz20_0, hcz20_1, hcz20_2, hcz20_3, hcz20_4, hcz20_5, hcz20_6, hfz20_0, hfz20_1, hfz20_2, hfz20_3, hfz20_4, hfz20_5, hfz20_6⟩ := blk_facts7 BK496.out
      go_wp2_with (first | (go_at_call 38; (with_reducible refine (spec_l6Rd_pick.calls k g485 t483 t495 4 t497 t498 w _ ?side1 ?side2 A17.out).mono ?_); (case side1 => exact stA); (case side2 => exact belowA); rintro e w21 ⟨rfl, hi, hb, hk⟩; have n0_ := Aside0.mk (KeepBut.blk hk (g' := gb482) (o := .cells #[.int .i64 0, .int .i64 0, .int .i64 0, .int .i64 0, .int .i64 0, .int .i64 0, .string (⟨#[]⟩ : ByteArray)] 26 (0, 0)) blkA NB482_485.out (by simp)); have n1_ := Aside0.mk (KeepBut.blk hk (g' := gb496) (o := .cells #[.int .i64 (wrap64 (1 + t486)), .int .i64 (wrap64 (1 + t488)), .int .i64 t490, .int .i64 t491, .int .i64 t492, .int .i64 t493, .string t494] 26 (0, 0)) (blk_put (blk_put (blk_put (blk_put (blk_put (blk_put (blk_put (blkC #[.int .i64 0, .int .i64 0, .int .i64 0, .int .i64 0, .int .i64 0, .int .i64 0, .string (⟨#[]⟩ : ByteArray)]) 0 _ rfl) 1 _ rfl) 2 _ rfl) 3 _ rfl) 4 _ rfl) 5 _ rfl) 6 _ rfl) NB496_485.out (by simp)); have n2_ := Aside0.mk (hb); have n3_ := Aside0.mk (hi); clear BK482; clear BK496; clear HB; clear HI485; have BK482 := n0_; have BK496 := n1_; have HB := n2_; have HI485 := n3_; clear n0_ n1_ n2_ n3_; (try clear hb); (try clear hb2); (try clear hk); (try clear hi)))
      go_meet
      case rel => exact ⟨_, (decide (t497 > 0)), (t498), (by first | rfl | (simp; done) | (simp [*]; done)), H', ⟨by first | omega | exact Nat.le_refl _⟩, ⟨by (with_reducible repeat (first | refine blk_drewN ?_ _ | refine blk_drew ?_ | refine blk_alloc ?_ _)); exact BK482.out⟩, ⟨by (with_reducible repeat (first | refine blk_drewN ?_ _ | refine blk_drew ?_ | refine blk_alloc ?_ _)); exact BK496.out⟩, ⟨stA⟩, ⟨belowA⟩⟩
    · rw [if_neg c16] at H
      have c16b0 : (t490 == 1) = false := beq_eq_false_iff_ne.mpr c16
      have c16b1 : (t490 != 1) = true := bne_iff_ne.mpr c16
      (first | rw [c16b0] | (simp only [i64_w, i32_w]; rw [c16b0]) | skip)
      have H' := Aside0.mk H
      clear H
      have hnb22 := NB496_482.out
      have hnc22 := NB482_496.out
      have hnb23 := NB496_485.out
      have hnc23 := NB485_496.out
      obtain ⟨hcz24_0, hcz24_1, hcz24_2, hcz24_3, hcz24_4, hcz24_5, hcz24_6, hfz24_0, hfz24_1, hfz24_2, hfz24_3, hfz24_4, hfz24_5, hfz24_6⟩ := blk_facts7 BK496.out
      go_wp2
      go_meet
      case rel => exact ⟨_, (false), (t495), (by first | rfl | (simp; done) | (simp [*]; done)), H', ⟨by first | omega | exact Nat.le_refl _⟩, ⟨by (with_reducible repeat (first | refine blk_drewN ?_ _ | refine blk_drew ?_ | refine blk_alloc ?_ _)); refine blk_far ?_ NB482_496.out _; (with_reducible repeat (first | refine blk_drewN ?_ _ | refine blk_drew ?_ | refine blk_alloc ?_ _)); refine blk_far ?_ NB482_496.out _; (with_reducible repeat (first | refine blk_drewN ?_ _ | refine blk_drew ?_ | refine blk_alloc ?_ _)); refine blk_far ?_ NB482_496.out _; (with_reducible repeat (first | refine blk_drewN ?_ _ | refine blk_drew ?_ | refine blk_alloc ?_ _)); refine blk_far ?_ NB482_496.out _; (with_reducible repeat (first | refine blk_drewN ?_ _ | refine blk_drew ?_ | refine blk_alloc ?_ _)); refine blk_far ?_ NB482_496.out _; (with_reducible repeat (first | refine blk_drewN ?_ _ | refine blk_drew ?_ | refine blk_alloc ?_ _)); refine blk_far ?_ NB482_496.out _; (with_reducible repeat (first | refine blk_drewN ?_ _ | refine blk_drew ?_ | refine blk_alloc ?_ _)); refine blk_far ?_ NB482_496.out _; (with_reducible repeat (first | refine blk_drewN ?_ _ | refine blk_drew ?_ | refine blk_alloc ?_ _)); exact BK482.out⟩, ⟨by (with_reducible repeat (first | refine blk_drewN ?_ _ | refine blk_drew ?_ | refine blk_alloc ?_ _)); refine blk_put (cs := #[.int .i64 (wrap64 (1 + t486)), .int .i64 (wrap64 (1 + t488)), .int .i64 t490, .int .i64 t491, .int .i64 t492, .int .i64 t493, .string (⟨#[]⟩ : ByteArray)]) ?_ 6 _ rfl; (with_reducible repeat (first | refine blk_drewN ?_ _ | refine blk_drew ?_ | refine blk_alloc ?_ _)); refine blk_put (cs := #[.int .i64 (wrap64 (1 + t486)), .int .i64 (wrap64 (1 + t488)), .int .i64 t490, .int .i64 t491, .int .i64 t492, .int .i64 0, .string (⟨#[]⟩ : ByteArray)]) ?_ 5 _ rfl; (with_reducible repeat (first | refine blk_drewN ?_ _ | refine blk_drew ?_ | refine blk_alloc ?_ _)); refine blk_put (cs := #[.int .i64 (wrap64 (1 + t486)), .int .i64 (wrap64 (1 + t488)), .int .i64 t490, .int .i64 t491, .int .i64 0, .int .i64 0, .string (⟨#[]⟩ : ByteArray)]) ?_ 4 _ rfl; (with_reducible repeat (first | refine blk_drewN ?_ _ | refine blk_drew ?_ | refine blk_alloc ?_ _)); refine blk_put (cs := #[.int .i64 (wrap64 (1 + t486)), .int .i64 (wrap64 (1 + t488)), .int .i64 t490, .int .i64 0, .int .i64 0, .int .i64 0, .string (⟨#[]⟩ : ByteArray)]) ?_ 3 _ rfl; (with_reducible repeat (first | refine blk_drewN ?_ _ | refine blk_drew ?_ | refine blk_alloc ?_ _)); refine blk_put (cs := #[.int .i64 (wrap64 (1 + t486)), .int .i64 (wrap64 (1 + t488)), .int .i64 0, .int .i64 0, .int .i64 0, .int .i64 0, .string (⟨#[]⟩ : ByteArray)]) ?_ 2 _ rfl; (with_reducible repeat (first | refine blk_drewN ?_ _ | refine blk_drew ?_ | refine blk_alloc ?_ _)); refine blk_put (cs := #[.int .i64 (wrap64 (1 + t486)), .int .i64 0, .int .i64 0, .int .i64 0, .int .i64 0, .int .i64 0, .string (⟨#[]⟩ : ByteArray)]) ?_ 1 _ rfl; (with_reducible repeat (first | refine blk_drewN ?_ _ | refine blk_drew ?_ | refine blk_alloc ?_ _)); refine blk_put (cs := #[.int .i64 0, .int .i64 0, .int .i64 0, .int .i64 0, .int .i64 0, .int .i64 0, .string (⟨#[]⟩ : ByteArray)]) ?_ 0 _ rfl; (with_reducible repeat (first | refine blk_drewN ?_ _ | refine blk_drew ?_ | refine blk_alloc ?_ _)); exact BK496.out⟩, ⟨stA⟩, ⟨belowA⟩⟩
  case rest =>
    clear HC6
    try clear c1
    try clear c2
    try clear p2
    try clear c3
    try clear p6
    try clear c12
    try clear c13
    try clear c14
    try clear c16
    try clear c16b0
    try clear c16b1
    try clear c18
    try clear c19
    try clear c22
    try clear c23
    try clear hcz15_0
    try clear hcz15_1
    try clear hcz15_2
    try clear hcz15_3
    try clear hcz15_4
    try clear hcz15_5
    try clear hcz15_6
    try clear hcz20_0
    try clear hcz20_1
    try clear hcz20_2
    try clear hcz20_3
    try clear hcz20_4
    try clear hcz20_5
    try clear hcz20_6
    try clear hcz24_0
    try clear hcz24_1
    try clear hcz24_2
    try clear hcz24_3
    try clear hcz24_4
    try clear hcz24_5
    try clear hcz24_6
    try clear hfz15_0
    try clear hfz15_1
    try clear hfz15_2
    try clear hfz15_3
    try clear hfz15_4
    try clear hfz15_5
    try clear hfz15_6
    try clear hfz20_0
    try clear hfz20_1
    try clear hfz20_2
    try clear hfz20_3
    try clear hfz20_4
    try clear hfz20_5
    try clear hfz20_6
    try clear hfz24_0
    try clear hfz24_1
    try clear hfz24_2
    try clear hfz24_3
    try clear hfz24_4
    try clear hfz24_5
    try clear hfz24_6
    obtain ⟨kq, x24_5, x486001_5, rfl, HA, HJ5, BK482, BK496, HI485, HB⟩ := hcut
    cases kq with
    | zero => exact absurd HA.out (by simp [spec_DrawEntryOk.j0])
    | succ kj5 =>
      have H := HA.out
      clear HA
      simp only [spec_DrawEntryOk.j0] at H
      have HC25 := Aside0.mk H
      clear H
      go_upto_if 24 with (fail)
      go_cut [] (fun wc => ∃ (kq : Nat) (x497000_24 : Int), Aside0 (spec_DrawEntryOk.j1 kq t483 x486001_5 x497000_24 (wrap64 (1 + t488)) t490 t491 t492 t493 t494 = some (r1, r2, r3, r4, r5, r6, r7)) ∧ Aside0 (kq ≤ kj5) ∧ Aside0 (wc.heap[gb482]? = some (.cells #[.int .i64 0, .int .i64 0, .int .i64 0, .int .i64 0, .int .i64 0, .int .i64 0, .string (⟨#[]⟩ : ByteArray)] 26 (0, 0))) ∧ Aside0 (wc.heap[gb496]? = some (.cells #[.int .i64 x497000_24, .int .i64 (wrap64 (1 + t488)), .int .i64 t490, .int .i64 t491, .int .i64 t492, .int .i64 t493, .string t494] 26 (0, 0))) ∧ Aside0 (IsS80 w wc g485 t483 x486001_5) ∧ Aside0 (Below w.heap.size w wc))
      case first =>
        have H := HC25.out
        clear HC25
        by_cases c26 : x24_5 = true
        · subst c26
          have H1 : (spec_DrawEntryOk.j1 kj5 t483 x486001_5 (wrap64 (Int.tdiv t491 10)) (wrap64 (1 + t488)) t490 t491 t492 t493 t494) = some (r1, r2, r3, r4, r5, r6, r7) := by rw [if_pos rfl] at H; exact H
          clear H
          have H := H1
          clear H1
          have H' := Aside0.mk H
          clear H
          have hnb27 := NB496_482.out
          have hnc27 := NB482_496.out
          have hnb28 := NB496_485.out
          have hnc28 := NB485_496.out
          obtain ⟨hcz29_0, hcz29_1, hcz29_2, hcz29_3, hcz29_4, hcz29_5, hcz29_6, hfz29_0, hfz29_1, hfz29_2, hfz29_3, hfz29_4, hfz29_5, hfz29_6⟩ := blk_facts7 BK496.out
          go_wp2
          go_meet
          case rel => exact ⟨_, (wrap64 (Int.tdiv t491 10)), H', ⟨by have := HJ5.out; first | omega | exact Nat.le_refl _⟩, ⟨by (with_reducible repeat (first | refine blk_drewN ?_ _ | refine blk_drew ?_ | refine blk_alloc ?_ _)); refine blk_far ?_ NB482_496.out _; (with_reducible repeat (first | refine blk_drewN ?_ _ | refine blk_drew ?_ | refine blk_alloc ?_ _)); exact BK482.out⟩, ⟨by (with_reducible repeat (first | refine blk_drewN ?_ _ | refine blk_drew ?_ | refine blk_alloc ?_ _)); refine blk_put (cs := #[.int .i64 (wrap64 (1 + t486)), .int .i64 (wrap64 (1 + t488)), .int .i64 t490, .int .i64 t491, .int .i64 t492, .int .i64 t493, .string t494]) ?_ 0 _ rfl; (with_reducible repeat (first | refine blk_drewN ?_ _ | refine blk_drew ?_ | refine blk_alloc ?_ _)); exact BK496.out⟩, ⟨stA⟩, ⟨belowA⟩⟩
        · replace c26 := Bool.eq_false_iff.mpr c26
          subst c26
          have H1 : (spec_DrawEntryOk.j1 kj5 t483 x486001_5 (wrap64 (1 + t486)) (wrap64 (1 + t488)) t490 t491 t492 t493 t494) = some (r1, r2, r3, r4, r5, r6, r7) := by rw [if_neg (show ¬ (false = true) by decide)] at H; exact H
          clear H
          have H := H1
          clear H1
          have H' := Aside0.mk H
          clear H
          go_wp2
          go_meet
          case rel => exact ⟨_, ((wrap64 (1 + t486))), H', ⟨by have := HJ5.out; first | omega | exact Nat.le_refl _⟩, ⟨by (with_reducible repeat (first | refine blk_drewN ?_ _ | refine blk_drew ?_ | refine blk_alloc ?_ _)); exact BK482.out⟩, ⟨by (with_reducible repeat (first | refine blk_drewN ?_ _ | refine blk_drew ?_ | refine blk_alloc ?_ _)); exact BK496.out⟩, ⟨stA⟩, ⟨belowA⟩⟩
      case rest =>
        clear HC25
        try clear c1
        try clear c2
        try clear p2
        try clear c3
        try clear p6
        try clear c12
        try clear c13
        try clear c14
        try clear c16
        try clear c16b0
        try clear c16b1
        try clear c18
        try clear c19
        try clear c22
        try clear c23
        try clear c26
        try clear c27
        try clear c28
        try clear hcz15_0
        try clear hcz15_1
        try clear hcz15_2
        try clear hcz15_3
        try clear hcz15_4
        try clear hcz15_5
        try clear hcz15_6
        try clear hcz20_0
        try clear hcz20_1
        try clear hcz20_2
        try clear hcz20_3
        try clear hcz20_4
        try clear hcz20_5
        try clear hcz20_6
        try clear hcz24_0
        try clear hcz24_1
        try clear hcz24_2
        try clear hcz24_3
        try clear hcz24_4
        try clear hcz24_5
        try clear hcz24_6
        try clear hcz29_0
        try clear hcz29_1
        try clear hcz29_2
        try clear hcz29_3
        try clear hcz29_4
        try clear hcz29_5
        try clear hcz29_6
        try clear hfz15_0
        try clear hfz15_1
        try clear hfz15_2
        try clear hfz15_3
        try clear hfz15_4
        try clear hfz15_5
        try clear hfz15_6
        try clear hfz20_0
        try clear hfz20_1
        try clear hfz20_2
        try clear hfz20_3
        try clear hfz20_4
        try clear hfz20_5
        try clear hfz20_6
        try clear hfz24_0
        try clear hfz24_1
        try clear hfz24_2
        try clear hfz24_3
        try clear hfz24_4
        try clear hfz24_5
        try clear hfz24_6
        try clear hfz29_0
        try clear hfz29_1
        try clear hfz29_2
        try clear hfz29_3
        try clear hfz29_4
        try clear hfz29_5
        try clear hfz29_6
        try clear p2
        try clear p6
        obtain ⟨kq, x497000_24, HA, HJ24, BK482, BK496, HI485, HB⟩ := hcut
        cases kq with
        | zero => exact absurd HA.out (by simp [spec_DrawEntryOk.j1])
        | succ kj24 =>
          have H := HA.out
          clear HA
          simp only [spec_DrawEntryOk.j1] at H
          replace H := Option.bind_eq_some_iff.mp H
          obtain ⟨⟨t499, t500⟩, A300, H⟩ := H
          (try dsimp only at H)
          have A30 := Aside0.mk A300
          clear A300
          by_cases c31 : t499 = 0
          · rw [if_pos c31] at H
            have c31b0 : (t499 == 0) = true := beq_iff_eq.mpr c31
            have c31b1 : (t499 != 0) = false := bne_eq_false_iff_eq.mpr c31
            clear c31
            replace H := Option.bind_eq_some_iff.mp H
            obtain ⟨⟨t501, t502⟩, A320, H⟩ := H
            (try dsimp only at H)
            have A32 := Aside0.mk A320
            clear A320
            simp only [Option.some.injEq, Prod.mk.injEq] at H
            obtain ⟨rfl, rfl, rfl, rfl, rfl, rfl, rfl⟩ := H
            go_wp2_with (first | ((with_reducible refine gate_callee (f := 38) rfl ?_); refine goesL_ (some 31) rfl rfl Tryd.func38 (by kernel_rfl) rfl #[.pointer (some ⟨g485, 0, none⟩), .int .i64 12] rfl argsA ?_; (with_reducible refine (spec_l6Rd_pick.calls kj24 g485 t483 x486001_5 12 t499 t500 w _ ?side1 ?side2 A30.out).mono ?_); (case side1 => exact stA); (case side2 => exact belowA); rintro e w33 ⟨rfl, hi, hb, hk⟩; refine ⟨_, rfl, ?_⟩; have n0_ := Aside0.mk (KeepBut.blk hk (g' := gb482) (o := .cells #[.int .i64 0, .int .i64 0, .int .i64 0, .int .i64 0, .int .i64 0, .int .i64 0, .string (⟨#[]⟩ : ByteArray)] 26 (0, 0)) blkA NB482_485.out (by simp)); have n1_ := Aside0.mk (KeepBut.blk hk (g' := gb496) (o := .cells #[.int .i64 x497000_24, .int .i64 (wrap64 (1 + t488)), .int .i64 t490, .int .i64 t491, .int .i64 t492, .int .i64 t493, .string t494] 26 (0, 0)) blkA NB496_485.out (by simp)); have n2_ := Aside0.mk (hb); have n3_ := Aside0.mk (hi); clear BK482; clear BK496; clear HB; clear HI485; have BK482 := n0_; have BK496 := n1_; have HB := n2_; have HI485 := n3_; clear n0_ n1_ n2_ n3_; (try clear hb); (try clear hb2); (try clear hk); (try clear hi)) | ((with_reducible refine gate_callee (f := 38) rfl ?_); refine goesL_ (some 35) rfl rfl Tryd.func38 (by kernel_rfl) rfl #[.pointer (some ⟨g485, 0, none⟩), .int .i64 6] rfl argsA ?_; (with_reducible refine (spec_l6Rd_pick.calls kj24 g485 t483 t500 6 t501 t502 w _ ?side1 ?side2 A32.out).mono ?_); (case side1 => exact stA); (case side2 => exact belowA); rintro e w34 ⟨rfl, hi, hb, hk⟩; refine ⟨_, rfl, ?_⟩; have n0_ := Aside0.mk (KeepBut.blk hk (g' := gb482) (o := .cells #[.int .i64 0, .int .i64 0, .int .i64 0, .int .i64 0, .int .i64 0, .int .i64 0, .string (⟨#[]⟩ : ByteArray)] 26 (0, 0)) blkA NB482_485.out (by simp)); have n1_ := Aside0.mk (KeepBut.blk hk (g' := gb496) (o := .cells #[.int .i64 x497000_24, .int .i64 (wrap64 (1 + t488)), .int .i64 t490, .int .i64 t491, .int .i64 t492, .int .i64 t493, .string t494] 26 (0, 0)) blkA NB496_485.out (by simp)); have n2_ := Aside0.mk (hb); have n3_ := Aside0.mk (hi); clear BK482; clear BK496; clear HB; clear HI485; have BK482 := n0_; have BK496 := n1_; have HB := n2_; have HI485 := n3_; clear n0_ n1_ n2_ n3_; (try clear hb); (try clear hb2); (try clear hk); (try clear hi); have hnb35 := NB496_482.out; have hnc35 := NB482_496.out; have hnb36 := NB496_485.out; have hnc36 := NB485_496.out; obtain ⟨hcz37_0, hcz37_1, hcz37_2, hcz37_3, hcz37_4, hcz37_5, hcz37_6, hfz37_0, hfz37_1, hfz37_2, hfz37_3, hfz37_4, hfz37_5, hfz37_6⟩ := blk_facts7 BK496.out; have hnb38 := NB482_485.out; have hnc38 := NB485_482.out; obtain ⟨hcz39_0, hcz39_1, hcz39_2, hcz39_3, hcz39_4, hcz39_5, hcz39_6, hfz39_0, hfz39_1, hfz39_2, hfz39_3, hfz39_4, hfz39_5, hfz39_6⟩ := blk_facts7 BK482.out))
            refine bodyPost_ret (results_cell_row rfl _ _ gb482 26 #[.int .i64 (wrap64 (t501 - 1)), .int .i64 (wrap64 (1 + t488)), .int .i64 t490, .int .i64 t491, .int .i64 t492, .int .i64 t493, .string t494] (0, 0) _ rfl (blk_put (blk_put (blk_put (blk_put (blk_put (blk_put (blk_put (blkC #[.int .i64 0, .int .i64 0, .int .i64 0, .int .i64 0, .int .i64 0, .int .i64 0, .string (⟨#[]⟩ : ByteArray)]) 0 _ rfl) 1 _ rfl) 2 _ rfl) 3 _ rfl) 4 _ rfl) 5 _ rfl) 6 _ rfl) Tryd.underlying26 rfl (by kernel_rfl)) rfl ?_
            exact ⟨endA, belowA⟩
          · rw [if_neg c31] at H
            have c31b0 : (t499 == 0) = false := beq_eq_false_iff_ne.mpr c31
            have c31b1 : (t499 != 0) = true := bne_iff_ne.mpr c31
            by_cases c40 : t499 = 1
            · rw [if_pos c40] at H
              have c40b0 : (t499 == 1) = true := beq_iff_eq.mpr c40
              have c40b1 : (t499 != 1) = false := bne_eq_false_iff_eq.mpr c40
              clear c40
              obtain ⟨y503, hy503⟩ : ∃ y_ : List Int, y_ = (([0, 40, 41] : List Int)) := ⟨_, rfl⟩
              replace H : ((spec_l6Rd_pick.f kj24 t483 t500 3).bind fun bt506 => (if 0 ≤ bt506.1 then (if bt506.1 < (y503.length : Int) then (some (x497000_24, rd y503 bt506.1, t490, t491, t492, t493, t494)) else (none)) else (none))) = some (r1, r2, r3, r4, r5, r6, r7) := by first | (rw [hy503]; with_reducible exact H) | (have H2_ := (Option.bind_some _ _).symm.trans H; rw [hy503]; with_reducible exact H2_) | (have H2_ := (Option.bind_some _ _).symm.trans H; with_reducible exact H2_) | with_reducible exact H | (rw [hy503]; exact H) | exact H
              have Ny503 := Aside0.mk hy503
              clear hy503
              replace H := Option.bind_eq_some_iff.mp H
              obtain ⟨⟨t506, t507⟩, A410, H⟩ := H
              (try dsimp only at H)
              have A41 := Aside0.mk A410
              clear A410
              by_cases c42 : 0 ≤ t506
              · rw [if_pos c42] at H
                have c42b0 : decide (0 ≤ t506) = true := decide_eq_true c42
                clear c42
                by_cases c43 : t506 < (y503.length : Int)
                · rw [if_pos c43] at H
                  have c43b0 : decide (t506 < (y503.length : Int)) = true := decide_eq_true c43
                  clear c43
                  simp only [Option.some.injEq, Prod.mk.injEq] at H
                  obtain ⟨rfl, rfl, rfl, rfl, rfl, rfl, rfl⟩ := H
                  go_wp2_with (first | ((with_reducible refine gate_callee (f := 38) rfl ?_); refine goesL_ (some 31) rfl rfl Tryd.func38 (by kernel_rfl) rfl #[.pointer (some ⟨g485, 0, none⟩), .int .i64 12] rfl argsA ?_; (with_reducible refine (spec_l6Rd_pick.calls kj24 g485 t483 x486001_5 12 t499 t500 w _ ?side1 ?side2 A30.out).mono ?_); (case side1 => exact stA); (case side2 => exact belowA); rintro e w44 ⟨rfl, hi, hb, hk⟩; refine ⟨_, rfl, ?_⟩; have n0_ := Aside0.mk (KeepBut.blk hk (g' := gb482) (o := .cells #[.int .i64 0, .int .i64 0, .int .i64 0, .int .i64 0, .int .i64 0, .int .i64 0, .string (⟨#[]⟩ : ByteArray)] 26 (0, 0)) blkA NB482_485.out (by simp)); have n1_ := Aside0.mk (KeepBut.blk hk (g' := gb496) (o := .cells #[.int .i64 x497000_24, .int .i64 (wrap64 (1 + t488)), .int .i64 t490, .int .i64 t491, .int .i64 t492, .int .i64 t493, .string t494] 26 (0, 0)) blkA NB496_485.out (by simp)); have n2_ := Aside0.mk (hb); have n3_ := Aside0.mk (hi); clear BK482; clear BK496; clear HB; clear HI485; have BK482 := n0_; have BK496 := n1_; have HB := n2_; have HI485 := n3_; clear n0_ n1_ n2_ n3_; (try clear hb); (try clear hb2); (try clear hk); (try clear hi)) | ((with_reducible refine gate_dst (N := 40) rfl ?_); refine Kd.R_lit (Kd.int .i64) _ 3 ?hg (N := 40) ?hd (xs := ([0, 40, 41] : List Int)) (inner := [.int .i64 0, .int .i64 40, .int .i64 41]) (ok := fun _ => True) (okp := fun _ => True) ?hr ?hp (fun _ hk => hk) trivial (Below.refl _ _) (Nat.le_refl _) (by simp) ?_; (case hd => rfl); (case hg => rfl); (case hr => first | (go_simp; done) | (go_simp; rfl)); (case hp => exact (Reps.one (show Kd.M (Kd.int .i64) _ _ _ 0 [.int .i64 0] from rfl) (Reps.one (show Kd.M (Kd.int .i64) _ _ _ 40 [.int .i64 40] from rfl) (Reps.one (show Kd.M (Kd.int .i64) _ _ _ 41 [.int .i64 41] from rfl) (Reps.none _ _))))); intro v504 w45 ho46 hb hg_ hnew_; clear hg_ hnew_; (first | rw [← Ny503.out] at ho46 | (simp only [Int.reduceToNat] at ho46; rw [← Ny503.out] at ho46)); have n0_ := Aside0.mk (Kd.R_lower ho46 (below_size belowA)); have n1_ := Aside0.mk (blk_below (g := gb482) (o := .cells #[.int .i64 0, .int .i64 0, .int .i64 0, .int .i64 0, .int .i64 0, .int .i64 0, .string (⟨#[]⟩ : ByteArray)] 26 (0, 0)) blkA hb); have n2_ := Aside0.mk (blk_below (g := gb496) (o := .cells #[.int .i64 x497000_24, .int .i64 (wrap64 (1 + t488)), .int .i64 t490, .int .i64 t491, .int .i64 t492, .int .i64 t493, .string t494] 26 (0, 0)) blkA hb); have n3_ := Aside0.mk (IsS80.below stA hb); have n4_ := Aside0.mk (below_step belowA hb); clear BK482; clear BK496; clear HI485; clear HB; have HO505 := n0_; have BK482 := n1_; have BK496 := n2_; have HI485 := n3_; have HB := n4_; clear n0_ n1_ n2_ n3_ n4_; clear hb ho46) | ((with_reducible refine gate_callee (f := 38) rfl ?_); refine goesL_ (some 42) rfl rfl Tryd.func38 (by kernel_rfl) rfl #[.pointer (some ⟨g485, 0, none⟩), .int .i64 3] rfl argsA ?_; (with_reducible refine (spec_l6Rd_pick.calls kj24 g485 t483 t500 3 t506 t507 w _ ?side1 ?side2 A41.out).mono ?_); (case side1 => exact stA); (case side2 => exact belowA); rintro e w47 ⟨rfl, hi, hb, hk⟩; refine ⟨_, rfl, ?_⟩; have n0_ := Aside0.mk (KeepBut.blk hk (g' := gb482) (o := .cells #[.int .i64 0, .int .i64 0, .int .i64 0, .int .i64 0, .int .i64 0, .int .i64 0, .string (⟨#[]⟩ : ByteArray)] 26 (0, 0)) blkA NB482_485.out (by simp)); have n1_ := Aside0.mk (KeepBut.blk hk (g' := gb496) (o := .cells #[.int .i64 x497000_24, .int .i64 (wrap64 (1 + t488)), .int .i64 t490, .int .i64 t491, .int .i64 t492, .int .i64 t493, .string t494] 26 (0, 0)) blkA NB496_485.out (by simp)); have n2_ := Aside0.mk (Kd.R_mono (Kd.R_keep (IsS80.apart (show IsS80 w _ g485 t483 t500 from stA) (by (with_reducible repeat (first | apply Kd.R_alloc | apply Kd.R_drewN | apply Kd.R_drew)); exact HO505.out) (by decide)) hk (fun _ h => h.2)) (fun _ h => h.1)); have n3_ := Aside0.mk (hb); have n4_ := Aside0.mk (hi); clear BK482; clear BK496; clear HO505; clear HB; clear HI485; have BK482 := n0_; have BK496 := n1_; have HO505 := n2_; have HB := n3_; have HI485 := n4_; clear n0_ n1_ n2_ n3_ n4_; (try clear hb); (try clear hb2); (try clear hk); (try clear hi); obtain ⟨Ao48, co48, eo48⟩ := Kd.R_slice HO505.out; subst eo48; have p508 : 0 ≤ (t506 : Int) := of_decide_eq_true (by first | (with_reducible assumption) | assumption); have q508 : t506 < (y503.length : Int) := of_decide_eq_true (by first | (with_reducible assumption) | assumption); obtain ⟨ad508, e508, hx508_0⟩ := Kd.at_int (Kd.R_reads' HO505.out).2.2 t506 p508 q508; cases e508; replace p508 := eq_true p508; replace q508 := eq_true q508; have hnb49 := NB496_482.out; have hnc49 := NB482_496.out; have hnb50 := NB496_485.out; have hnc50 := NB485_496.out; obtain ⟨hcz51_0, hcz51_1, hcz51_2, hcz51_3, hcz51_4, hcz51_5, hcz51_6, hfz51_0, hfz51_1, hfz51_2, hfz51_3, hfz51_4, hfz51_5, hfz51_6⟩ := blk_facts7 BK496.out; have hnb52 := NB482_485.out; have hnc52 := NB485_482.out; obtain ⟨hcz53_0, hcz53_1, hcz53_2, hcz53_3, hcz53_4, hcz53_5, hcz53_6, hfz53_0, hfz53_1, hfz53_2, hfz53_3, hfz53_4, hfz53_5, hfz53_6⟩ := blk_facts7 BK482.out))
                  refine bodyPost_ret (results_cell_row rfl _ _ gb482 26 #[.int .i64 x497000_24, .int .i64 (rd y503 t506), .int .i64 t490, .int .i64 t491, .int .i64 t492, .int .i64 t493, .string t494] (0, 0) _ rfl (blk_put (blk_put (blk_put (blk_put (blk_put (blk_put (blk_put (blkC #[.int .i64 0, .int .i64 0, .int .i64 0, .int .i64 0, .int .i64 0, .int .i64 0, .string (⟨#[]⟩ : ByteArray)]) 0 _ rfl) 1 _ rfl) 2 _ rfl) 3 _ rfl) 4 _ rfl) 5 _ rfl) 6 _ rfl) Tryd.underlying26 rfl (by kernel_rfl)) rfl ?_
                  exact ⟨endA, belowA⟩
                · rw [if_neg c43] at H
                  exact absurd H (by simp)
              · rw [if_neg c42] at H
                exact absurd H (by simp)
            · rw [if_neg c40] at H
              have c40b0 : (t499 == 1) = false := beq_eq_false_iff_ne.mpr c40
              have c40b1 : (t499 != 1) = true := bne_iff_ne.mpr c40
              simp only [Option.some.injEq, Prod.mk.injEq] at H
              obtain ⟨rfl, rfl, rfl, rfl, rfl, rfl, rfl⟩ := H
              go_wp2_with (first | ((with_reducible refine gate_callee (f := 38) rfl ?_); refine goesL_ (some 31) rfl rfl Tryd.func38 (by kernel_rfl) rfl #[.pointer (some ⟨g485, 0, none⟩), .int .i64 12] rfl argsA ?_; (with_reducible refine (spec_l6Rd_pick.calls kj24 g485 t483 x486001_5 12 t499 t500 w _ ?side1 ?side2 A30.out).mono ?_); (case side1 => exact stA); (case side2 => exact belowA); rintro e w54 ⟨rfl, hi, hb, hk⟩; refine ⟨_, rfl, ?_⟩; have n0_ := Aside0.mk (KeepBut.blk hk (g' := gb482) (o := .cells #[.int .i64 0, .int .i64 0, .int .i64 0, .int .i64 0, .int .i64 0, .int .i64 0, .string (⟨#[]⟩ : ByteArray)] 26 (0, 0)) blkA NB482_485.out (by simp)); have n1_ := Aside0.mk (KeepBut.blk hk (g' := gb496) (o := .cells #[.int .i64 x497000_24, .int .i64 (wrap64 (1 + t488)), .int .i64 t490, .int .i64 t491, .int .i64 t492, .int .i64 t493, .string t494] 26 (0, 0)) blkA NB496_485.out (by simp)); have n2_ := Aside0.mk (hb); have n3_ := Aside0.mk (hi); clear BK482; clear BK496; clear HB; clear HI485; have BK482 := n0_; have BK496 := n1_; have HB := n2_; have HI485 := n3_; clear n0_ n1_ n2_ n3_; (try clear hb); (try clear hb2); (try clear hk); (try clear hi); have hnb55 := NB496_482.out; have hnc55 := NB482_496.out; have hnb56 := NB496_485.out; have hnc56 := NB485_496.out; obtain ⟨hcz57_0, hcz57_1, hcz57_2, hcz57_3, hcz57_4, hcz57_5, hcz57_6, hfz57_0, hfz57_1, hfz57_2, hfz57_3, hfz57_4, hfz57_5, hfz57_6⟩ := blk_facts7 BK496.out; have hnb58 := NB482_485.out; have hnc58 := NB485_482.out; obtain ⟨hcz59_0, hcz59_1, hcz59_2, hcz59_3, hcz59_4, hcz59_5, hcz59_6, hfz59_0, hfz59_1, hfz59_2, hfz59_3, hfz59_4, hfz59_5, hfz59_6⟩ := blk_facts7 BK482.out))
              refine bodyPost_ret (results_cell_row rfl _ _ gb482 26 #[.int .i64 x497000_24, .int .i64 (wrap64 (1 + t488)), .int .i64 t490, .int .i64 t491, .int .i64 t492, .int .i64 t493, .string t494] (0, 0) _ rfl (blk_put (blk_put (blk_put (blk_put (blk_put (blk_put (blk_put (blkC #[.int .i64 0, .int .i64 0, .int .i64 0, .int .i64 0, .int .i64 0, .int .i64 0, .string (⟨#[]⟩ : ByteArray)]) 0 _ rfl) 1 _ rfl) 2 _ rfl) 3 _ rfl) 4 _ rfl) 5 _ rfl) 6 _ rfl) Tryd.underlying26 rfl (by kernel_rfl)) rfl ?_
              exact ⟨endA, belowA⟩

end Go.Proofs.YtlpfjabfhgfpmaaDoor.P
