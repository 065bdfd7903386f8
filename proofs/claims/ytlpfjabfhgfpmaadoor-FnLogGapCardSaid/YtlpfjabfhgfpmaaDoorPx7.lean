
-- Written by wip/tools/pprint.py (a program of this session) over the kit's printer; not trusted: Lean checks it.
import Derived.Test.YtlpfjabfhgfpmaaDoorPx0
import Derived.Test.YtlpfjabfhgfpmaaDoorPx2
import Derived.Test.YtlpfjabfhgfpmaaDoorPx5
import Derived.Test.YtlpfjabfhgfpmaaDoorPx6
import Derived.Test.YtlpfjabfhgfpmaaDoorV
namespace Go.Proofs.YtlpfjabfhgfpmaaDoor.P
open Go.RowKit Go.Proofs.YtlpfjabfhgfpmaaDoorW.PrintWords Go.Proofs.YtlpfjabfhgfpmaaDoorW.PrintLast Go.Proofs.YtlpfjabfhgfpmaaDoorW.PrintMore
attribute [local go_sem] cell_set_set cell_set_far_set max2_int min2_int max_two min_two max_three min_three max_four min_four   -- for this text's walks alone
set_option linter.unusedVariables false
set_option linter.unusedSimpArgs false
mutual
def spec_DrawEntryOk.j0 : Nat → Bool → List Int → Int → Int → Int → Int → Int → Int → Int → ByteArray → Option (Int × Int × Int × Int × Int × Int × ByteArray)
 | 0, _, _, _, _, _, _, _, _, _, _ => none
 | k + 1, x24, x244000, x244001, x255000, x255001, x255002, x255003, x255004, x255005, x255006 => if x24 = true then (spec_DrawEntryOk.j1 k x244000 x244001 (wrap64 (Int.tdiv x255003 10)) x255001 x255002 x255003 x255004 x255005 x255006) else (spec_DrawEntryOk.j1 k x244000 x244001 x255000 x255001 x255002 x255003 x255004 x255005 x255006)
def spec_DrawEntryOk.j1 : Nat → List Int → Int → Int → Int → Int → Int → Int → Int → ByteArray → Option (Int × Int × Int × Int × Int × Int × ByteArray)
 | 0, _, _, _, _, _, _, _, _, _ => none
 | k + 1, x244000, x244001, x255000, x255001, x255002, x255003, x255004, x255005, x255006 => (spec_l6Rd_pick.f k x244000 x244001 12).bind fun bt257 => (if bt257.1 = 0 then ((spec_l6Rd_pick.f k x244000 bt257.2 6).bind fun bt259 => (some (wrap64 (bt259.1 - 1), x255001, x255002, x255003, x255004, x255005, x255006))) else (if bt257.1 = 1 then ((some (([0, 40, 41] : List Int) : List Int)).bind fun y261 => ((spec_l6Rd_pick.f k x244000 bt257.2 3).bind fun bt264 => (if 0 ≤ bt264.1 then (if bt264.1 < (y261.length : Int) then (some (x255000, rd y261 bt264.1, x255002, x255003, x255004, x255005, x255006)) else (none)) else (none)))) else (some (x255000, x255001, x255002, x255003, x255004, x255005, x255006))))
end
def spec_DrawEntryOk.f (k : Nat) (l0 : List Int) : Option (Int × Int × Int × Int × Int × Int × ByteArray) := (spec_l6Open.f l0).bind fun bt241 => ((spec_l6Rd_pick.f k bt241.1 bt241.2 3).bind fun bt244 => ((spec_l6Rd_pick.f k bt241.1 bt244.2 9).bind fun bt246 => ((spec_l71Op.f k bt241.1 bt246.2).bind fun bt248 => (if bt248.1 = 1 then ((spec_l6Rd_pick.f k bt241.1 bt248.2.2.2.2.2 4).bind fun bt255 => (spec_DrawEntryOk.j0 k (decide (bt255.1 > 0)) bt241.1 bt255.2 (wrap64 (1 + bt244.1)) (wrap64 (1 + bt246.1)) bt248.1 bt248.2.1 bt248.2.2.1 bt248.2.2.2.1 bt248.2.2.2.2.1)) else (spec_DrawEntryOk.j0 k false bt241.1 bt248.2.2.2.2.2 (wrap64 (1 + bt244.1)) (wrap64 (1 + bt246.1)) bt248.1 bt248.2.1 bt248.2.2.1 bt248.2.2.2.1 bt248.2.2.2.2.1)))))
theorem spec_DrawEntryOk.mono_l : ∀ k, (∀ y0 y1 y2 y3 y4 y5 y6 y7 y8 y9, LeO (spec_DrawEntryOk.j0 k y0 y1 y2 y3 y4 y5 y6 y7 y8 y9) (spec_DrawEntryOk.j0 (k + 1) y0 y1 y2 y3 y4 y5 y6 y7 y8 y9)) ∧ (∀ y0 y1 y2 y3 y4 y5 y6 y7 y8, LeO (spec_DrawEntryOk.j1 k y0 y1 y2 y3 y4 y5 y6 y7 y8) (spec_DrawEntryOk.j1 (k + 1) y0 y1 y2 y3 y4 y5 y6 y7 y8))
 | 0 => ⟨fun _ _ _ _ _ _ _ _ _ _ r h => by simp [spec_DrawEntryOk.j0] at h, fun _ _ _ _ _ _ _ _ _ r h => by simp [spec_DrawEntryOk.j1] at h⟩
 | k + 1 => by
  obtain ⟨ih0, ih1⟩ := spec_DrawEntryOk.mono_l k
  refine ⟨?_, ?_⟩
  ·intro y0 y1 y2 y3 y4 y5 y6 y7 y8 y9
   unfold spec_DrawEntryOk.j0
   repeat' first
   | (with_reducible exact ih0 _ _ _ _ _ _ _ _ _ _)
   | (with_reducible exact ih1 _ _ _ _ _ _ _ _ _)
   | (with_reducible exact spec_l6Rd_pick.mono _ _ _ _)
   | (with_reducible exact spec_l71Op.mono _ _ _)
   | (with_reducible exact LeO.refl _)
   | (with_reducible exact LeO.none _)
   | (with_reducible refine LeO.ite ?_ ?_)
   | (with_reducible refine LeO.bind ?_ (fun _ => ?_))
   | exact ih0 _ _ _ _ _ _ _ _ _ _
   | exact ih1 _ _ _ _ _ _ _ _ _
   | exact spec_l6Rd_pick.mono _ _ _ _
   | exact spec_l71Op.mono _ _ _
   | exact LeO.none _
   | refine LeO.ite ?_ ?_
   | refine LeO.bind ?_ (fun _ => ?_)
  ·intro y0 y1 y2 y3 y4 y5 y6 y7 y8
   unfold spec_DrawEntryOk.j1
   repeat' first
   | (with_reducible exact ih0 _ _ _ _ _ _ _ _ _ _)
   | (with_reducible exact ih1 _ _ _ _ _ _ _ _ _)
   | (with_reducible exact spec_l6Rd_pick.mono _ _ _ _)
   | (with_reducible exact spec_l71Op.mono _ _ _)
   | (with_reducible exact LeO.refl _)
   | (with_reducible exact LeO.none _)
   | (with_reducible refine LeO.ite ?_ ?_)
   | (with_reducible refine LeO.bind ?_ (fun _ => ?_))
   | exact ih0 _ _ _ _ _ _ _ _ _ _
   | exact ih1 _ _ _ _ _ _ _ _ _
   | exact spec_l6Rd_pick.mono _ _ _ _
   | exact spec_l71Op.mono _ _ _
   | exact LeO.none _
   | refine LeO.ite ?_ ?_
   | refine LeO.bind ?_ (fun _ => ?_)
theorem spec_DrawEntryOk.mono : ∀ a0 k, LeO (spec_DrawEntryOk.f k a0) (spec_DrawEntryOk.f (k + 1) a0) := by
 intro a0 k
 obtain ⟨ih0, ih1⟩ := spec_DrawEntryOk.mono_l k
 unfold spec_DrawEntryOk.f
 repeat' first
   | (with_reducible exact ih0 _ _ _ _ _ _ _ _ _ _)
   | (with_reducible exact ih1 _ _ _ _ _ _ _ _ _)
   | (with_reducible exact spec_l6Rd_pick.mono _ _ _ _)
   | (with_reducible exact spec_l71Op.mono _ _ _)
   | (with_reducible exact LeO.refl _)
   | (with_reducible exact LeO.none _)
   | (with_reducible refine LeO.ite ?_ ?_)
   | (with_reducible refine LeO.bind ?_ (fun _ => ?_))
   | exact ih0 _ _ _ _ _ _ _ _ _ _
   | exact ih1 _ _ _ _ _ _ _ _ _
   | exact spec_l6Rd_pick.mono _ _ _ _
   | exact spec_l71Op.mono _ _ _
   | exact LeO.none _
   | refine LeO.ite ?_ ?_
   | refine LeO.bind ?_ (fun _ => ?_)
set_option maxHeartbeats 8000000 in
set_option maxRecDepth 100000 in
theorem spec_DrawEntryOk.calls (k : Nat) (A0 : Option Addr) (c0 : Nat) (l0 : List Int) (r1 : Int) (r2 : Int) (r3 : Int) (r4 : Int) (r5 : Int) (r6 : Int) (r7 : ByteArray) (w : World) (hr0 : Kd.C (Kd.int .u8) w A0 l0.length l0) (hc0 : l0.length ≤ c0) (h : spec_DrawEntryOk.f k l0 = some (r1, r2, r3, r4, r5, r6, r7)) :
  Calls Tryd.prog 12 #[.slice A0 l0.length c0] w fun e w' => e = .returned (.agg #[.int .i64 r1, .int .i64 r2, .int .i64 r3, .int .i64 r4, .int .i64 r5, .int .i64 r6, .string r7]) ∧ Below w.heap.size w w' := by
 have hu26 := Tryd.underlying26
 have HR0 := Aside0.mk hr0
 have HC0 := Aside0.mk hc0
 clear hr0 hc0
 have HB := Aside0.mk (Below.refl w.heap.size w)
 have H : ((spec_l6Open.f l0).bind fun bt241 => ((spec_l6Rd_pick.f k bt241.1 bt241.2 3).bind fun bt244 => ((spec_l6Rd_pick.f k bt241.1 bt244.2 9).bind fun bt246 => ((spec_l71Op.f k bt241.1 bt246.2).bind fun bt248 => (if bt248.1 = 1 then ((spec_l6Rd_pick.f k bt241.1 bt248.2.2.2.2.2 4).bind fun bt255 => (spec_DrawEntryOk.j0 k (decide (bt255.1 > 0)) bt241.1 bt255.2 (wrap64 (1 + bt244.1)) (wrap64 (1 + bt246.1)) bt248.1 bt248.2.1 bt248.2.2.1 bt248.2.2.2.1 bt248.2.2.2.2.1)) else (spec_DrawEntryOk.j0 k false bt241.1 bt248.2.2.2.2.2 (wrap64 (1 + bt244.1)) (wrap64 (1 + bt246.1)) bt248.1 bt248.2.1 bt248.2.2.1 bt248.2.2.2.1 bt248.2.2.2.2.1)))))) = some (r1, r2, r3, r4, r5, r6, r7) := h
 clear h
 replace H := Option.bind_eq_some_iff.mp H
 obtain ⟨⟨t241, t242⟩, A20, H⟩ := H
 (try dsimp only at H)
 have A2 := Aside0.mk A20
 clear A20
 replace H := Option.bind_eq_some_iff.mp H
 obtain ⟨⟨t244, t245⟩, A30, H⟩ := H
 (try dsimp only at H)
 have A3 := Aside0.mk A30
 clear A30
 replace H := Option.bind_eq_some_iff.mp H
 obtain ⟨⟨t246, t247⟩, A40, H⟩ := H
 (try dsimp only at H)
 have A4 := Aside0.mk A40
 clear A40
 replace H := Option.bind_eq_some_iff.mp H
 obtain ⟨⟨t248, t249, t250, t251, t252, t253⟩, A50, H⟩ := H
 (try dsimp only at H)
 have A5 := Aside0.mk A50
 clear A50
 have HC6 := Aside0.mk H
 clear H
 go_enter Tryd.func12, Tryd.ntmps12
 go_upto_region 3 with (first | ((with_reducible refine gate_dst (N := 2) rfl ?_); refine box_event ?hg (N := 2) ?hd (cs := #[.int .i64 0, .int .i64 0, .int .i64 0, .int .i64 0, .int .i64 0, .int .i64 0, .string (⟨#[]⟩ : ByteArray)]) (t := 26) ?hr ?_; (case hd => rfl); (case hg => rfl); (case hr => first | (go_simp; done) | (go_simp; rfl)); intro gb240 hg w7 hbox hb; have n0_ := Aside0.mk (below_step belowA hb); have n1_ := Aside0.mk (hbox); have n2_ := Aside0.mk ((by rw [hg]; exact (below_size belowA) : w.heap.size ≤ gb240)); have n3_ := Aside0.mk ((by rw [hg]; exact (below_size belowA) : w.heap.size ≤ gb240)); clear HB; have HB := n0_; have BK240 := n1_; have GW240 := n2_; have GE240 := n3_; clear n0_ n1_ n2_ n3_; clear hb hbox hg) | ((with_reducible refine gate_callee (f := 37) rfl ?_); refine goesL_ (some 6) rfl rfl Tryd.func37 (by kernel_rfl) rfl #[.slice A0 l0.length c0] rfl argsA ?_; (with_reducible refine (spec_l6Open.calls _ _ l0 t241 t242 w _ ?side1 ?side2 ?side3 A2.out).mono ?_); (case side1 => exact belowA); (case side2 => exact HR0.out); (case side3 => exact HC0.out); rintro e w8 ⟨g243, rfl, hi, hb, hb2⟩; refine ⟨_, rfl, ?_⟩; have n0_ := Aside0.mk (blk_below (g := gb240) (o := .cells #[.int .i64 0, .int .i64 0, .int .i64 0, .int .i64 0, .int .i64 0, .int .i64 0, .string (⟨#[]⟩ : ByteArray)] 26 (0, 0)) blkA hb2); have n1_ := Aside0.mk (hb); have n2_ := Aside0.mk (hi); have n3_ := Aside0.mk (IsS80.ne_blk hi (blk_below (g := gb240) (o := .cells #[.int .i64 0, .int .i64 0, .int .i64 0, .int .i64 0, .int .i64 0, .int .i64 0, .string (⟨#[]⟩ : ByteArray)] 26 (0, 0)) blkA hb2) (by decide)); have n4_ := Aside0.mk (Ne.symm (IsS80.ne_blk hi (blk_below (g := gb240) (o := .cells #[.int .i64 0, .int .i64 0, .int .i64 0, .int .i64 0, .int .i64 0, .int .i64 0, .string (⟨#[]⟩ : ByteArray)] 26 (0, 0)) blkA hb2) (by decide))); clear BK240; clear HB; have BK240 := n0_; have HB := n1_; have HI243 := n2_; have NB243_240 := n3_; have NB240_243 := n4_; clear n0_ n1_ n2_ n3_ n4_; (try clear hb); (try clear hb2); (try clear hk); (try clear hi)) | ((with_reducible refine gate_callee (f := 38) rfl ?_); refine goesL_ (some 8) rfl rfl Tryd.func38 (by kernel_rfl) rfl #[.pointer (some ⟨g243, 0, none⟩), .int .i64 3] rfl argsA ?_; (with_reducible refine (spec_l6Rd_pick.calls k g243 t241 t242 3 t244 t245 w _ ?side1 ?side2 A3.out).mono ?_); (case side1 => exact stA); (case side2 => exact belowA); rintro e w9 ⟨rfl, hi, hb, hk⟩; refine ⟨_, rfl, ?_⟩; have n0_ := Aside0.mk (KeepBut.blk hk (g' := gb240) (o := .cells #[.int .i64 0, .int .i64 0, .int .i64 0, .int .i64 0, .int .i64 0, .int .i64 0, .string (⟨#[]⟩ : ByteArray)] 26 (0, 0)) blkA NB240_243.out (by simp)); have n1_ := Aside0.mk (hb); have n2_ := Aside0.mk (hi); clear BK240; clear HB; clear HI243; have BK240 := n0_; have HB := n1_; have HI243 := n2_; clear n0_ n1_ n2_; (try clear hb); (try clear hb2); (try clear hk); (try clear hi)) | ((with_reducible refine gate_callee (f := 38) rfl ?_); refine goesL_ (some 11) rfl rfl Tryd.func38 (by kernel_rfl) rfl #[.pointer (some ⟨g243, 0, none⟩), .int .i64 9] rfl argsA ?_; (with_reducible refine (spec_l6Rd_pick.calls k g243 t241 t245 9 t246 t247 w _ ?side1 ?side2 A4.out).mono ?_); (case side1 => exact stA); (case side2 => exact belowA); rintro e w10 ⟨rfl, hi, hb, hk⟩; refine ⟨_, rfl, ?_⟩; have n0_ := Aside0.mk (KeepBut.blk hk (g' := gb240) (o := .cells #[.int .i64 0, .int .i64 0, .int .i64 0, .int .i64 0, .int .i64 0, .int .i64 0, .string (⟨#[]⟩ : ByteArray)] 26 (0, 0)) blkA NB240_243.out (by simp)); have n1_ := Aside0.mk (hb); have n2_ := Aside0.mk (hi); clear BK240; clear HB; clear HI243; have BK240 := n0_; have HB := n1_; have HI243 := n2_; clear n0_ n1_ n2_; (try clear hb); (try clear hb2); (try clear hk); (try clear hi)) | ((with_reducible refine gate_callee (f := 39) rfl ?_); refine goesL_ (some 14) rfl rfl Tryd.func39 (by kernel_rfl) rfl #[.pointer (some ⟨g243, 0, none⟩)] rfl argsA ?_; (with_reducible refine (spec_l71Op.calls k g243 t241 t247 t248 t249 t250 t251 t252 t253 w _ ?side1 ?side2 A5.out).mono ?_); (case side1 => exact stA); (case side2 => exact belowA); rintro e w11 ⟨rfl, hi, hb, hk⟩; refine ⟨_, rfl, ?_⟩; have n0_ := Aside0.mk (KeepBut.blk hk (g' := gb240) (o := .cells #[.int .i64 0, .int .i64 0, .int .i64 0, .int .i64 0, .int .i64 0, .int .i64 0, .string (⟨#[]⟩ : ByteArray)] 26 (0, 0)) blkA NB240_243.out (by simp)); have n1_ := Aside0.mk (hb); have n2_ := Aside0.mk (hi); clear BK240; clear HB; clear HI243; have BK240 := n0_; have HB := n1_; have HI243 := n2_; clear n0_ n1_ n2_; (try clear hb); (try clear hb2); (try clear hk); (try clear hi)) | ((with_reducible refine gate_dst (N := 4) rfl ?_); refine box_event ?hg (N := 4) ?hd (cs := #[.int .i64 0, .int .i64 0, .int .i64 0, .int .i64 0, .int .i64 0, .int .i64 0, .string (⟨#[]⟩ : ByteArray)]) (t := 26) ?hr ?_; (case hd => rfl); (case hg => rfl); (case hr => first | (go_simp; done) | (go_simp; rfl)); intro gb254 hg w12 hbox hb; have n0_ := Aside0.mk (blk_below (g := gb240) (o := .cells #[.int .i64 0, .int .i64 0, .int .i64 0, .int .i64 0, .int .i64 0, .int .i64 0, .string (⟨#[]⟩ : ByteArray)] 26 (0, 0)) blkA hb); have n1_ := Aside0.mk (IsS80.below stA hb); have n2_ := Aside0.mk (below_step belowA hb); have n3_ := Aside0.mk (hbox); have n4_ := Aside0.mk ((by rw [hg]; exact (below_size belowA) : w.heap.size ≤ gb254)); have n5_ := Aside0.mk ((by rw [hg]; exact (below_size belowA) : w.heap.size ≤ gb254)); have n6_ := Aside0.mk ((by rw [hg]; exact Nat.ne_of_lt (blk_lt (g := gb240) (o := .cells #[.int .i64 0, .int .i64 0, .int .i64 0, .int .i64 0, .int .i64 0, .int .i64 0, .string (⟨#[]⟩ : ByteArray)] 26 (0, 0)) blkA) : gb240 ≠ gb254)); have n7_ := Aside0.mk ((by rw [hg]; exact Nat.ne_of_gt (blk_lt (g := gb240) (o := .cells #[.int .i64 0, .int .i64 0, .int .i64 0, .int .i64 0, .int .i64 0, .int .i64 0, .string (⟨#[]⟩ : ByteArray)] 26 (0, 0)) blkA) : gb254 ≠ gb240)); have n8_ := Aside0.mk ((by rw [hg]; exact Nat.ne_of_lt (IsS80.lt (show IsS80 w _ g243 t241 t253 from stA)) : g243 ≠ gb254)); have n9_ := Aside0.mk ((by rw [hg]; exact Nat.ne_of_gt (IsS80.lt (show IsS80 w _ g243 t241 t253 from stA)) : gb254 ≠ g243)); clear BK240; clear HI243; clear HB; have BK240 := n0_; have HI243 := n1_; have HB := n2_; have BK254 := n3_; have GW254 := n4_; have GE254 := n5_; have NB240_254 := n6_; have NB254_240 := n7_; have NB243_254 := n8_; have NB254_243 := n9_; clear n0_ n1_ n2_ n3_ n4_ n5_ n6_ n7_ n8_ n9_; clear hb hbox hg; have hnb13 := NB254_240.out; have hnc13 := NB240_254.out; have hnb14 := NB254_243.out; have hnc14 := NB243_254.out; obtain ⟨hcz15_0, hcz15_1, hcz15_2, hcz15_3, hcz15_4, hcz15_5, hcz15_6, hfz15_0, hfz15_1, hfz15_2, hfz15_3, hfz15_4, hfz15_5, hfz15_6⟩ := blk_facts7 BK254.out))
 (try simp only [Act.put, List.setIfInBounds_toArray, List.set_cons_zero, List.set_cons_succ])
 go_cut [24] (fun v24 wc => ∃ (kq : Nat) (x24_5 : Bool) (x244001_5 : Int), v24 = .bool x24_5 ∧ Aside0 (spec_DrawEntryOk.j0 kq x24_5 t241 x244001_5 (wrap64 (1 + t244)) (wrap64 (1 + t246)) t248 t249 t250 t251 t252 = some (r1, r2, r3, r4, r5, r6, r7)) ∧ Aside0 (kq ≤ k) ∧ Aside0 (wc.heap[gb240]? = some (.cells #[.int .i64 0, .int .i64 0, .int .i64 0, .int .i64 0, .int .i64 0, .int .i64 0, .string (⟨#[]⟩ : ByteArray)] 26 (0, 0))) ∧ Aside0 (wc.heap[gb254]? = some (.cells #[.int .i64 (wrap64 (1 + t244)), .int .i64 (wrap64 (1 + t246)), .int .i64 t248, .int .i64 t249, .int .i64 t250, .int .i64 t251, .string t252] 26 (0, 0))) ∧ Aside0 (IsS80 w wc g243 t241 x244001_5) ∧ Aside0 (Below w.heap.size w wc))
 case first =>
  have H := HC6.out
  clear HC6
  by_cases c16 : t248 = 1
  ·rw [if_pos c16] at H
   have c16b0 : (t248 == 1) = true := beq_iff_eq.mpr c16
   have c16b1 : (t248 != 1) = false := bne_eq_false_iff_eq.mpr c16
   clear c16
   (first | rw [c16b0] | (simp only [i64_w, i32_w]; rw [c16b0]) | skip)
   replace H := Option.bind_eq_some_iff.mp H
   obtain ⟨⟨t255, t256⟩, A170, H⟩ := H
   (try dsimp only at H)
   have A17 := Aside0.mk A170
   clear A170
   have H' := Aside0.mk H
   clear H
   have hnb18 := NB254_240.out
   have hnc18 := NB240_254.out
   have hnb19 := NB254_243.out
   have hnc19 := NB243_254.out
   obtain ⟨hcz20_0, hcz20_1, hcz20_2, hcz20_3, hcz20_4, hcz20_5, hcz20_6, hfz20_0, hfz20_1, hfz20_2, hfz20_3, hfz20_4, hfz20_5, hfz20_6⟩ := blk_facts7 BK254.out
   go_wp2_with (first | (go_at_call 38; (with_reducible refine (spec_l6Rd_pick.calls k g243 t241 t253 4 t255 t256 w _ ?side1 ?side2 A17.out).mono ?_); (case side1 => exact stA); (case side2 => exact belowA); rintro e w21 ⟨rfl, hi, hb, hk⟩; have n0_ := Aside0.mk (KeepBut.blk hk (g' := gb240) (o := .cells #[.int .i64 0, .int .i64 0, .int .i64 0, .int .i64 0, .int .i64 0, .int .i64 0, .string (⟨#[]⟩ : ByteArray)] 26 (0, 0)) blkA NB240_243.out (by simp)); have n1_ := Aside0.mk (KeepBut.blk hk (g' := gb254) (o := .cells #[.int .i64 (wrap64 (1 + t244)), .int .i64 (wrap64 (1 + t246)), .int .i64 t248, .int .i64 t249, .int .i64 t250, .int .i64 t251, .string t252] 26 (0, 0)) (put7 (blkC #[.int .i64 0, .int .i64 0, .int .i64 0, .int .i64 0, .int .i64 0, .int .i64 0, .string (⟨#[]⟩ : ByteArray)])) NB254_243.out (by simp)); have n2_ := Aside0.mk (hb); have n3_ := Aside0.mk (hi); clear BK240; clear BK254; clear HB; clear HI243; have BK240 := n0_; have BK254 := n1_; have HB := n2_; have HI243 := n3_; clear n0_ n1_ n2_ n3_; (try clear hb); (try clear hb2); (try clear hk); (try clear hi)))
   go_meet
   case rel => exact ⟨_, (decide (t255 > 0)), (t256), (by first | rfl | (simp; done) | (simp [*]; done)), H', ⟨by first | omega | exact Nat.le_refl _⟩, ⟨by (with_reducible repeat (first | refine blk_drewN ?_ _ | refine blk_drew ?_ | refine blk_alloc ?_ _)); exact BK240.out⟩, ⟨by (with_reducible repeat (first | refine blk_drewN ?_ _ | refine blk_drew ?_ | refine blk_alloc ?_ _)); exact BK254.out⟩, ⟨stA⟩, ⟨belowA⟩⟩
  ·rw [if_neg c16] at H
   have c16b0 : (t248 == 1) = false := beq_eq_false_iff_ne.mpr c16
   have c16b1 : (t248 != 1) = true := bne_iff_ne.mpr c16
   (first | rw [c16b0] | (simp only [i64_w, i32_w]; rw [c16b0]) | skip)
   have H' := Aside0.mk H
   clear H
   have hnb22 := NB254_240.out
   have hnc22 := NB240_254.out
   have hnb23 := NB254_243.out
   have hnc23 := NB243_254.out
   obtain ⟨hcz24_0, hcz24_1, hcz24_2, hcz24_3, hcz24_4, hcz24_5, hcz24_6, hfz24_0, hfz24_1, hfz24_2, hfz24_3, hfz24_4, hfz24_5, hfz24_6⟩ := blk_facts7 BK254.out
   go_wp2
   go_meet
   case rel => exact ⟨_, (false), (t253), (by first | rfl | (simp; done) | (simp [*]; done)), H', ⟨by first | omega | exact Nat.le_refl _⟩, ⟨by (with_reducible repeat (first | refine blk_drewN ?_ _ | refine blk_drew ?_ | refine blk_alloc ?_ _)); refine blk_far ?_ NB240_254.out _; (with_reducible repeat (first | refine blk_drewN ?_ _ | refine blk_drew ?_ | refine blk_alloc ?_ _)); refine blk_far ?_ NB240_254.out _; (with_reducible repeat (first | refine blk_drewN ?_ _ | refine blk_drew ?_ | refine blk_alloc ?_ _)); refine blk_far ?_ NB240_254.out _; (with_reducible repeat (first | refine blk_drewN ?_ _ | refine blk_drew ?_ | refine blk_alloc ?_ _)); refine blk_far ?_ NB240_254.out _; (with_reducible repeat (first | refine blk_drewN ?_ _ | refine blk_drew ?_ | refine blk_alloc ?_ _)); refine blk_far ?_ NB240_254.out _; (with_reducible repeat (first | refine blk_drewN ?_ _ | refine blk_drew ?_ | refine blk_alloc ?_ _)); refine blk_far ?_ NB240_254.out _; (with_reducible repeat (first | refine blk_drewN ?_ _ | refine blk_drew ?_ | refine blk_alloc ?_ _)); refine blk_far ?_ NB240_254.out _; (with_reducible repeat (first | refine blk_drewN ?_ _ | refine blk_drew ?_ | refine blk_alloc ?_ _)); exact BK240.out⟩, ⟨by (with_reducible repeat (first | refine blk_drewN ?_ _ | refine blk_drew ?_ | refine blk_alloc ?_ _)); refine blk_put (cs := #[.int .i64 (wrap64 (1 + t244)), .int .i64 (wrap64 (1 + t246)), .int .i64 t248, .int .i64 t249, .int .i64 t250, .int .i64 t251, .string (⟨#[]⟩ : ByteArray)]) ?_ 6 _ rfl; (with_reducible repeat (first | refine blk_drewN ?_ _ | refine blk_drew ?_ | refine blk_alloc ?_ _)); refine blk_put (cs := #[.int .i64 (wrap64 (1 + t244)), .int .i64 (wrap64 (1 + t246)), .int .i64 t248, .int .i64 t249, .int .i64 t250, .int .i64 0, .string (⟨#[]⟩ : ByteArray)]) ?_ 5 _ rfl; (with_reducible repeat (first | refine blk_drewN ?_ _ | refine blk_drew ?_ | refine blk_alloc ?_ _)); refine blk_put (cs := #[.int .i64 (wrap64 (1 + t244)), .int .i64 (wrap64 (1 + t246)), .int .i64 t248, .int .i64 t249, .int .i64 0, .int .i64 0, .string (⟨#[]⟩ : ByteArray)]) ?_ 4 _ rfl; (with_reducible repeat (first | refine blk_drewN ?_ _ | refine blk_drew ?_ | refine blk_alloc ?_ _)); refine blk_put (cs := #[.int .i64 (wrap64 (1 + t244)), .int .i64 (wrap64 (1 + t246)), .int .i64 t248, .int .i64 0, .int .i64 0, .int .i64 0, .string (⟨#[]⟩ : ByteArray)]) ?_ 3 _ rfl; (with_reducible repeat (first | refine blk_drewN ?_ _ | refine blk_drew ?_ | refine blk_alloc ?_ _)); refine blk_put (cs := #[.int .i64 (wrap64 (1 + t244)), .int .i64 (wrap64 (1 + t246)), .int .i64 0, .int .i64 0, .int .i64 0, .int .i64 0, .string (⟨#[]⟩ : ByteArray)]) ?_ 2 _ rfl; (with_reducible repeat (first | refine blk_drewN ?_ _ | refine blk_drew ?_ | refine blk_alloc ?_ _)); refine blk_put (cs := #[.int .i64 (wrap64 (1 + t244)), .int .i64 0, .int .i64 0, .int .i64 0, .int .i64 0, .int .i64 0, .string (⟨#[]⟩ : ByteArray)]) ?_ 1 _ rfl; (with_reducible repeat (first | refine blk_drewN ?_ _ | refine blk_drew ?_ | refine blk_alloc ?_ _)); refine blk_put (cs := #[.int .i64 0, .int .i64 0, .int .i64 0, .int .i64 0, .int .i64 0, .int .i64 0, .string (⟨#[]⟩ : ByteArray)]) ?_ 0 _ rfl; (with_reducible repeat (first | refine blk_drewN ?_ _ | refine blk_drew ?_ | refine blk_alloc ?_ _)); exact BK254.out⟩, ⟨stA⟩, ⟨belowA⟩⟩
 case rest =>
  clear HC6
  try clear c1
  try clear c2
  try clear p2
  try clear c3
  try clear p6
  try clear c12
  try clear c13
  try clear c14
  try clear c16
  try clear c16b0
  try clear c16b1
  try clear c18
  try clear c19
  try clear c22
  try clear c23
  try clear hcz15_0 hcz15_1 hcz15_2 hcz15_3 hcz15_4 hcz15_5 hcz15_6
  try clear hcz20_0 hcz20_1 hcz20_2 hcz20_3 hcz20_4 hcz20_5 hcz20_6
  try clear hcz24_0 hcz24_1 hcz24_2 hcz24_3 hcz24_4 hcz24_5 hcz24_6
  try clear hfz15_0 hfz15_1 hfz15_2 hfz15_3 hfz15_4 hfz15_5 hfz15_6
  try clear hfz20_0 hfz20_1 hfz20_2 hfz20_3 hfz20_4 hfz20_5 hfz20_6
  try clear hfz24_0 hfz24_1 hfz24_2 hfz24_3 hfz24_4 hfz24_5 hfz24_6
  obtain ⟨kq, x24_5, x244001_5, rfl, HA, HJ5, BK240, BK254, HI243, HB⟩ := hcut
  cases kq with
  | zero => exact absurd HA.out (by simp [spec_DrawEntryOk.j0])
  | succ kj5 =>
   have H := HA.out
   clear HA
   simp only [spec_DrawEntryOk.j0] at H
   have HC25 := Aside0.mk H
   clear H
   go_upto_if 24 with (fail)
   go_cut [] (fun wc => ∃ (kq : Nat) (x255000_24 : Int), Aside0 (spec_DrawEntryOk.j1 kq t241 x244001_5 x255000_24 (wrap64 (1 + t246)) t248 t249 t250 t251 t252 = some (r1, r2, r3, r4, r5, r6, r7)) ∧ Aside0 (kq ≤ kj5) ∧ Aside0 (wc.heap[gb240]? = some (.cells #[.int .i64 0, .int .i64 0, .int .i64 0, .int .i64 0, .int .i64 0, .int .i64 0, .string (⟨#[]⟩ : ByteArray)] 26 (0, 0))) ∧ Aside0 (wc.heap[gb254]? = some (.cells #[.int .i64 x255000_24, .int .i64 (wrap64 (1 + t246)), .int .i64 t248, .int .i64 t249, .int .i64 t250, .int .i64 t251, .string t252] 26 (0, 0))) ∧ Aside0 (IsS80 w wc g243 t241 x244001_5) ∧ Aside0 (Below w.heap.size w wc))
   case first =>
    have H := HC25.out
    clear HC25
    by_cases c26 : x24_5 = true
    ·subst c26
     have H1 : (spec_DrawEntryOk.j1 kj5 t241 x244001_5 (wrap64 (Int.tdiv t249 10)) (wrap64 (1 + t246)) t248 t249 t250 t251 t252) = some (r1, r2, r3, r4, r5, r6, r7) := by rw [if_pos rfl] at H; exact H
     clear H
     have H := H1
     clear H1
     have H' := Aside0.mk H
     clear H
     have hnb27 := NB254_240.out
     have hnc27 := NB240_254.out
     have hnb28 := NB254_243.out
     have hnc28 := NB243_254.out
     obtain ⟨hcz29_0, hcz29_1, hcz29_2, hcz29_3, hcz29_4, hcz29_5, hcz29_6, hfz29_0, hfz29_1, hfz29_2, hfz29_3, hfz29_4, hfz29_5, hfz29_6⟩ := blk_facts7 BK254.out
     go_wp2
     go_meet
     case rel => exact ⟨_, (wrap64 (Int.tdiv t249 10)), H', ⟨by have := HJ5.out; first | omega | exact Nat.le_refl _⟩, ⟨by (with_reducible repeat (first | refine blk_drewN ?_ _ | refine blk_drew ?_ | refine blk_alloc ?_ _)); refine blk_far ?_ NB240_254.out _; (with_reducible repeat (first | refine blk_drewN ?_ _ | refine blk_drew ?_ | refine blk_alloc ?_ _)); exact BK240.out⟩, ⟨by (with_reducible repeat (first | refine blk_drewN ?_ _ | refine blk_drew ?_ | refine blk_alloc ?_ _)); refine blk_put (cs := #[.int .i64 (wrap64 (1 + t244)), .int .i64 (wrap64 (1 + t246)), .int .i64 t248, .int .i64 t249, .int .i64 t250, .int .i64 t251, .string t252]) ?_ 0 _ rfl; (with_reducible repeat (first | refine blk_drewN ?_ _ | refine blk_drew ?_ | refine blk_alloc ?_ _)); exact BK254.out⟩, ⟨stA⟩, ⟨belowA⟩⟩
    ·replace c26 := Bool.eq_false_iff.mpr c26
     subst c26
     have H1 : (spec_DrawEntryOk.j1 kj5 t241 x244001_5 (wrap64 (1 + t244)) (wrap64 (1 + t246)) t248 t249 t250 t251 t252) = some (r1, r2, r3, r4, r5, r6, r7) := by rw [if_neg (show ¬ (false = true) by decide)] at H; exact H
     clear H
     have H := H1
     clear H1
     have H' := Aside0.mk H
     clear H
     go_wp2
     go_meet
     case rel => exact ⟨_, ((wrap64 (1 + t244))), H', ⟨by have := HJ5.out; first | omega | exact Nat.le_refl _⟩, ⟨by (with_reducible repeat (first | refine blk_drewN ?_ _ | refine blk_drew ?_ | refine blk_alloc ?_ _)); exact BK240.out⟩, ⟨by (with_reducible repeat (first | refine blk_drewN ?_ _ | refine blk_drew ?_ | refine blk_alloc ?_ _)); exact BK254.out⟩, ⟨stA⟩, ⟨belowA⟩⟩
   case rest =>
    clear HC25
    try clear c1
    try clear c2
    try clear p2
    try clear c3
    try clear p6
    try clear c12
    try clear c13
    try clear c14
    try clear c16
    try clear c16b0
    try clear c16b1
    try clear c18
    try clear c19
    try clear c22
    try clear c23
    try clear c26
    try clear c27
    try clear c28
    try clear hcz15_0 hcz15_1 hcz15_2 hcz15_3 hcz15_4 hcz15_5 hcz15_6
    try clear hcz20_0 hcz20_1 hcz20_2 hcz20_3 hcz20_4 hcz20_5 hcz20_6
    try clear hcz24_0 hcz24_1 hcz24_2 hcz24_3 hcz24_4 hcz24_5 hcz24_6
    try clear hcz29_0 hcz29_1 hcz29_2 hcz29_3 hcz29_4 hcz29_5 hcz29_6
    try clear hfz15_0 hfz15_1 hfz15_2 hfz15_3 hfz15_4 hfz15_5 hfz15_6
    try clear hfz20_0 hfz20_1 hfz20_2 hfz20_3 hfz20_4 hfz20_5 hfz20_6
    try clear hfz24_0 hfz24_1 hfz24_2 hfz24_3 hfz24_4 hfz24_5 hfz24_6
    try clear hfz29_0 hfz29_1 hfz29_2 hfz29_3 hfz29_4 hfz29_5 hfz29_6
    try clear p2
    try clear p6
    obtain ⟨kq, x255000_24, HA, HJ24, BK240, BK254, HI243, HB⟩ := hcut
    cases kq with
    | zero => exact absurd HA.out (by simp [spec_DrawEntryOk.j1])
    | succ kj24 =>
     have H := HA.out
     clear HA
     simp only [spec_DrawEntryOk.j1] at H
     replace H := Option.bind_eq_some_iff.mp H
     obtain ⟨⟨t257, t258⟩, A300, H⟩ := H
     (try dsimp only at H)
     have A30 := Aside0.mk A300
     clear A300
     by_cases c31 : t257 = 0
     ·rw [if_pos c31] at H
      have c31b0 : (t257 == 0) = true := beq_iff_eq.mpr c31
      have c31b1 : (t257 != 0) = false := bne_eq_false_iff_eq.mpr c31
      clear c31
      replace H := Option.bind_eq_some_iff.mp H
      obtain ⟨⟨t259, t260⟩, A320, H⟩ := H
      (try dsimp only at H)
      have A32 := Aside0.mk A320
      clear A320
      simp only [Option.some.injEq, Prod.mk.injEq] at H
      obtain ⟨rfl, rfl, rfl, rfl, rfl, rfl, rfl⟩ := H
      go_wp2_with (first | ((with_reducible refine gate_callee (f := 38) rfl ?_); refine goesL_ (some 31) rfl rfl Tryd.func38 (by kernel_rfl) rfl #[.pointer (some ⟨g243, 0, none⟩), .int .i64 12] rfl argsA ?_; (with_reducible refine (spec_l6Rd_pick.calls kj24 g243 t241 x244001_5 12 t257 t258 w _ ?side1 ?side2 A30.out).mono ?_); (case side1 => exact stA); (case side2 => exact belowA); rintro e w33 ⟨rfl, hi, hb, hk⟩; refine ⟨_, rfl, ?_⟩; have n0_ := Aside0.mk (KeepBut.blk hk (g' := gb240) (o := .cells #[.int .i64 0, .int .i64 0, .int .i64 0, .int .i64 0, .int .i64 0, .int .i64 0, .string (⟨#[]⟩ : ByteArray)] 26 (0, 0)) blkA NB240_243.out (by simp)); have n1_ := Aside0.mk (KeepBut.blk hk (g' := gb254) (o := .cells #[.int .i64 x255000_24, .int .i64 (wrap64 (1 + t246)), .int .i64 t248, .int .i64 t249, .int .i64 t250, .int .i64 t251, .string t252] 26 (0, 0)) blkA NB254_243.out (by simp)); have n2_ := Aside0.mk (hb); have n3_ := Aside0.mk (hi); clear BK240; clear BK254; clear HB; clear HI243; have BK240 := n0_; have BK254 := n1_; have HB := n2_; have HI243 := n3_; clear n0_ n1_ n2_ n3_; (try clear hb); (try clear hb2); (try clear hk); (try clear hi)) | ((with_reducible refine gate_callee (f := 38) rfl ?_); refine goesL_ (some 35) rfl rfl Tryd.func38 (by kernel_rfl) rfl #[.pointer (some ⟨g243, 0, none⟩), .int .i64 6] rfl argsA ?_; (with_reducible refine (spec_l6Rd_pick.calls kj24 g243 t241 t258 6 t259 t260 w _ ?side1 ?side2 A32.out).mono ?_); (case side1 => exact stA); (case side2 => exact belowA); rintro e w34 ⟨rfl, hi, hb, hk⟩; refine ⟨_, rfl, ?_⟩; have n0_ := Aside0.mk (KeepBut.blk hk (g' := gb240) (o := .cells #[.int .i64 0, .int .i64 0, .int .i64 0, .int .i64 0, .int .i64 0, .int .i64 0, .string (⟨#[]⟩ : ByteArray)] 26 (0, 0)) blkA NB240_243.out (by simp)); have n1_ := Aside0.mk (KeepBut.blk hk (g' := gb254) (o := .cells #[.int .i64 x255000_24, .int .i64 (wrap64 (1 + t246)), .int .i64 t248, .int .i64 t249, .int .i64 t250, .int .i64 t251, .string t252] 26 (0, 0)) blkA NB254_243.out (by simp)); have n2_ := Aside0.mk (hb); have n3_ := Aside0.mk (hi); clear BK240; clear BK254; clear HB; clear HI243; have BK240 := n0_; have BK254 := n1_; have HB := n2_; have HI243 := n3_; clear n0_ n1_ n2_ n3_; (try clear hb); (try clear hb2); (try clear hk); (try clear hi); have hnb35 := NB254_240.out; have hnc35 := NB240_254.out; have hnb36 := NB254_243.out; have hnc36 := NB243_254.out; obtain ⟨hcz37_0, hcz37_1, hcz37_2, hcz37_3, hcz37_4, hcz37_5, hcz37_6, hfz37_0, hfz37_1, hfz37_2, hfz37_3, hfz37_4, hfz37_5, hfz37_6⟩ := blk_facts7 BK254.out; have hnb38 := NB240_243.out; have hnc38 := NB243_240.out; obtain ⟨hcz39_0, hcz39_1, hcz39_2, hcz39_3, hcz39_4, hcz39_5, hcz39_6, hfz39_0, hfz39_1, hfz39_2, hfz39_3, hfz39_4, hfz39_5, hfz39_6⟩ := blk_facts7 BK240.out))
      refine bodyPost_ret (results_cell_row rfl _ _ gb240 26 #[.int .i64 (wrap64 (t259 - 1)), .int .i64 (wrap64 (1 + t246)), .int .i64 t248, .int .i64 t249, .int .i64 t250, .int .i64 t251, .string t252] (0, 0) _ rfl (put7 (blkC #[.int .i64 0, .int .i64 0, .int .i64 0, .int .i64 0, .int .i64 0, .int .i64 0, .string (⟨#[]⟩ : ByteArray)])) Tryd.underlying26 rfl (by kernel_rfl)) rfl ?_
      exact ⟨endA, belowA⟩
     ·rw [if_neg c31] at H
      have c31b0 : (t257 == 0) = false := beq_eq_false_iff_ne.mpr c31
      have c31b1 : (t257 != 0) = true := bne_iff_ne.mpr c31
      by_cases c40 : t257 = 1
      ·rw [if_pos c40] at H
       have c40b0 : (t257 == 1) = true := beq_iff_eq.mpr c40
       have c40b1 : (t257 != 1) = false := bne_eq_false_iff_eq.mpr c40
       clear c40
       obtain ⟨y261, hy261⟩ : ∃ y_ : List Int, y_ = (([0, 40, 41] : List Int)) := ⟨_, rfl⟩
       replace H : ((spec_l6Rd_pick.f kj24 t241 t258 3).bind fun bt264 => (if 0 ≤ bt264.1 then (if bt264.1 < (y261.length : Int) then (some (x255000_24, rd y261 bt264.1, t248, t249, t250, t251, t252)) else (none)) else (none))) = some (r1, r2, r3, r4, r5, r6, r7) := by first | (rw [hy261]; with_reducible exact H) | (have H2_ := (Option.bind_some _ _).symm.trans H; rw [hy261]; with_reducible exact H2_) | (have H2_ := (Option.bind_some _ _).symm.trans H; with_reducible exact H2_) | with_reducible exact H | (rw [hy261]; exact H) | exact H
       have Ny261 := Aside0.mk hy261
       clear hy261
       replace H := Option.bind_eq_some_iff.mp H
       obtain ⟨⟨t264, t265⟩, A410, H⟩ := H
       (try dsimp only at H)
       have A41 := Aside0.mk A410
       clear A410
       by_cases c42 : 0 ≤ t264
       ·rw [if_pos c42] at H
        have c42b0 : decide (0 ≤ t264) = true := decide_eq_true c42
        clear c42
        by_cases c43 : t264 < (y261.length : Int)
        ·rw [if_pos c43] at H
         have c43b0 : decide (t264 < (y261.length : Int)) = true := decide_eq_true c43
         clear c43
         simp only [Option.some.injEq, Prod.mk.injEq] at H
         obtain ⟨rfl, rfl, rfl, rfl, rfl, rfl, rfl⟩ := H
         go_wp2_with (first | ((with_reducible refine gate_callee (f := 38) rfl ?_); refine goesL_ (some 31) rfl rfl Tryd.func38 (by kernel_rfl) rfl #[.pointer (some ⟨g243, 0, none⟩), .int .i64 12] rfl argsA ?_; (with_reducible refine (spec_l6Rd_pick.calls kj24 g243 t241 x244001_5 12 t257 t258 w _ ?side1 ?side2 A30.out).mono ?_); (case side1 => exact stA); (case side2 => exact belowA); rintro e w44 ⟨rfl, hi, hb, hk⟩; refine ⟨_, rfl, ?_⟩; have n0_ := Aside0.mk (KeepBut.blk hk (g' := gb240) (o := .cells #[.int .i64 0, .int .i64 0, .int .i64 0, .int .i64 0, .int .i64 0, .int .i64 0, .string (⟨#[]⟩ : ByteArray)] 26 (0, 0)) blkA NB240_243.out (by simp)); have n1_ := Aside0.mk (KeepBut.blk hk (g' := gb254) (o := .cells #[.int .i64 x255000_24, .int .i64 (wrap64 (1 + t246)), .int .i64 t248, .int .i64 t249, .int .i64 t250, .int .i64 t251, .string t252] 26 (0, 0)) blkA NB254_243.out (by simp)); have n2_ := Aside0.mk (hb); have n3_ := Aside0.mk (hi); clear BK240; clear BK254; clear HB; clear HI243; have BK240 := n0_; have BK254 := n1_; have HB := n2_; have HI243 := n3_; clear n0_ n1_ n2_ n3_; (try clear hb); (try clear hb2); (try clear hk); (try clear hi)) | ((with_reducible refine gate_dst (N := 40) rfl ?_); refine Kd.R_lit (Kd.int .i64) _ 3 ?hg (N := 40) ?hd (xs := ([0, 40, 41] : List Int)) (inner := [.int .i64 0, .int .i64 40, .int .i64 41]) (ok := fun _ => True) (okp := fun _ => True) ?hr ?hp (fun _ hk => hk) trivial (Below.refl _ _) (Nat.le_refl _) (by simp) ?_; (case hd => rfl); (case hg => rfl); (case hr => first | (go_simp; done) | (go_simp; rfl)); (case hp => exact (Reps.one (show Kd.M (Kd.int .i64) _ _ _ 0 [.int .i64 0] from rfl) (Reps.one (show Kd.M (Kd.int .i64) _ _ _ 40 [.int .i64 40] from rfl) (Reps.one (show Kd.M (Kd.int .i64) _ _ _ 41 [.int .i64 41] from rfl) (Reps.none _ _))))); intro v262 w45 ho46 hb hg_ hnew_; clear hg_ hnew_; (first | rw [← Ny261.out] at ho46 | (simp only [Int.reduceToNat] at ho46; rw [← Ny261.out] at ho46)); have n0_ := Aside0.mk (Kd.R_lower ho46 (below_size belowA)); have n1_ := Aside0.mk (blk_below (g := gb240) (o := .cells #[.int .i64 0, .int .i64 0, .int .i64 0, .int .i64 0, .int .i64 0, .int .i64 0, .string (⟨#[]⟩ : ByteArray)] 26 (0, 0)) blkA hb); have n2_ := Aside0.mk (blk_below (g := gb254) (o := .cells #[.int .i64 x255000_24, .int .i64 (wrap64 (1 + t246)), .int .i64 t248, .int .i64 t249, .int .i64 t250, .int .i64 t251, .string t252] 26 (0, 0)) blkA hb); have n3_ := Aside0.mk (IsS80.below stA hb); have n4_ := Aside0.mk (below_step belowA hb); clear BK240; clear BK254; clear HI243; clear HB; have HO263 := n0_; have BK240 := n1_; have BK254 := n2_; have HI243 := n3_; have HB := n4_; clear n0_ n1_ n2_ n3_ n4_; clear hb ho46) | ((with_reducible refine gate_callee (f := 38) rfl ?_); refine goesL_ (some 42) rfl rfl Tryd.func38 (by kernel_rfl) rfl #[.pointer (some ⟨g243, 0, none⟩), .int .i64 3] rfl argsA ?_; (with_reducible refine (spec_l6Rd_pick.calls kj24 g243 t241 t258 3 t264 t265 w _ ?side1 ?side2 A41.out).mono ?_); (case side1 => exact stA); (case side2 => exact belowA); rintro e w47 ⟨rfl, hi, hb, hk⟩; refine ⟨_, rfl, ?_⟩; have n0_ := Aside0.mk (KeepBut.blk hk (g' := gb240) (o := .cells #[.int .i64 0, .int .i64 0, .int .i64 0, .int .i64 0, .int .i64 0, .int .i64 0, .string (⟨#[]⟩ : ByteArray)] 26 (0, 0)) blkA NB240_243.out (by simp)); have n1_ := Aside0.mk (KeepBut.blk hk (g' := gb254) (o := .cells #[.int .i64 x255000_24, .int .i64 (wrap64 (1 + t246)), .int .i64 t248, .int .i64 t249, .int .i64 t250, .int .i64 t251, .string t252] 26 (0, 0)) blkA NB254_243.out (by simp)); have n2_ := Aside0.mk (Kd.R_mono (Kd.R_keep (IsS80.apart (show IsS80 w _ g243 t241 t258 from stA) (RA HO263) (by decide)) hk (fun _ h => h.2)) (fun _ h => h.1)); have n3_ := Aside0.mk (hb); have n4_ := Aside0.mk (hi); clear BK240; clear BK254; clear HO263; clear HB; clear HI243; have BK240 := n0_; have BK254 := n1_; have HO263 := n2_; have HB := n3_; have HI243 := n4_; clear n0_ n1_ n2_ n3_ n4_; (try clear hb); (try clear hb2); (try clear hk); (try clear hi); obtain ⟨Ao48, co48, eo48⟩ := Kd.R_slice HO263.out; subst eo48; have p266 : 0 ≤ (t264 : Int) := of_decide_eq_true (by first | (with_reducible assumption) | assumption); have q266 : t264 < (y261.length : Int) := of_decide_eq_true (by first | (with_reducible assumption) | assumption); obtain ⟨ad266, e266, hx266_0⟩ := Kd.at_int (Kd.R_reads' HO263.out).2.2 t264 p266 q266; cases e266; replace p266 := eq_true p266; replace q266 := eq_true q266; have hnb49 := NB254_240.out; have hnc49 := NB240_254.out; have hnb50 := NB254_243.out; have hnc50 := NB243_254.out; obtain ⟨hcz51_0, hcz51_1, hcz51_2, hcz51_3, hcz51_4, hcz51_5, hcz51_6, hfz51_0, hfz51_1, hfz51_2, hfz51_3, hfz51_4, hfz51_5, hfz51_6⟩ := blk_facts7 BK254.out; have hnb52 := NB240_243.out; have hnc52 := NB243_240.out; obtain ⟨hcz53_0, hcz53_1, hcz53_2, hcz53_3, hcz53_4, hcz53_5, hcz53_6, hfz53_0, hfz53_1, hfz53_2, hfz53_3, hfz53_4, hfz53_5, hfz53_6⟩ := blk_facts7 BK240.out))
         refine bodyPost_ret (results_cell_row rfl _ _ gb240 26 #[.int .i64 x255000_24, .int .i64 (rd y261 t264), .int .i64 t248, .int .i64 t249, .int .i64 t250, .int .i64 t251, .string t252] (0, 0) _ rfl (put7 (blkC #[.int .i64 0, .int .i64 0, .int .i64 0, .int .i64 0, .int .i64 0, .int .i64 0, .string (⟨#[]⟩ : ByteArray)])) Tryd.underlying26 rfl (by kernel_rfl)) rfl ?_
         exact ⟨endA, belowA⟩
        ·rw [if_neg c43] at H
         exact absurd H (by simp)
       ·rw [if_neg c42] at H
        exact absurd H (by simp)
      ·rw [if_neg c40] at H
       have c40b0 : (t257 == 1) = false := beq_eq_false_iff_ne.mpr c40
       have c40b1 : (t257 != 1) = true := bne_iff_ne.mpr c40
       simp only [Option.some.injEq, Prod.mk.injEq] at H
       obtain ⟨rfl, rfl, rfl, rfl, rfl, rfl, rfl⟩ := H
       go_wp2_with (first | ((with_reducible refine gate_callee (f := 38) rfl ?_); refine goesL_ (some 31) rfl rfl Tryd.func38 (by kernel_rfl) rfl #[.pointer (some ⟨g243, 0, none⟩), .int .i64 12] rfl argsA ?_; (with_reducible refine (spec_l6Rd_pick.calls kj24 g243 t241 x244001_5 12 t257 t258 w _ ?side1 ?side2 A30.out).mono ?_); (case side1 => exact stA); (case side2 => exact belowA); rintro e w54 ⟨rfl, hi, hb, hk⟩; refine ⟨_, rfl, ?_⟩; have n0_ := Aside0.mk (KeepBut.blk hk (g' := gb240) (o := .cells #[.int .i64 0, .int .i64 0, .int .i64 0, .int .i64 0, .int .i64 0, .int .i64 0, .string (⟨#[]⟩ : ByteArray)] 26 (0, 0)) blkA NB240_243.out (by simp)); have n1_ := Aside0.mk (KeepBut.blk hk (g' := gb254) (o := .cells #[.int .i64 x255000_24, .int .i64 (wrap64 (1 + t246)), .int .i64 t248, .int .i64 t249, .int .i64 t250, .int .i64 t251, .string t252] 26 (0, 0)) blkA NB254_243.out (by simp)); have n2_ := Aside0.mk (hb); have n3_ := Aside0.mk (hi); clear BK240; clear BK254; clear HB; clear HI243; have BK240 := n0_; have BK254 := n1_; have HB := n2_; have HI243 := n3_; clear n0_ n1_ n2_ n3_; (try clear hb); (try clear hb2); (try clear hk); (try clear hi); have hnb55 := NB254_240.out; have hnc55 := NB240_254.out; have hnb56 := NB254_243.out; have hnc56 := NB243_254.out; obtain ⟨hcz57_0, hcz57_1, hcz57_2, hcz57_3, hcz57_4, hcz57_5, hcz57_6, hfz57_0, hfz57_1, hfz57_2, hfz57_3, hfz57_4, hfz57_5, hfz57_6⟩ := blk_facts7 BK254.out; have hnb58 := NB240_243.out; have hnc58 := NB243_240.out; obtain ⟨hcz59_0, hcz59_1, hcz59_2, hcz59_3, hcz59_4, hcz59_5, hcz59_6, hfz59_0, hfz59_1, hfz59_2, hfz59_3, hfz59_4, hfz59_5, hfz59_6⟩ := blk_facts7 BK240.out))
       refine bodyPost_ret (results_cell_row rfl _ _ gb240 26 #[.int .i64 x255000_24, .int .i64 (wrap64 (1 + t246)), .int .i64 t248, .int .i64 t249, .int .i64 t250, .int .i64 t251, .string t252] (0, 0) _ rfl (put7 (blkC #[.int .i64 0, .int .i64 0, .int .i64 0, .int .i64 0, .int .i64 0, .int .i64 0, .string (⟨#[]⟩ : ByteArray)])) Tryd.underlying26 rfl (by kernel_rfl)) rfl ?_
       exact ⟨endA, belowA⟩
def spec_TreeNew.f  : Option ((List (S105))) := some (([(⟨1, 0, (⟨#[]⟩ : ByteArray)⟩ : S105), (⟨2, 0, (⟨#[]⟩ : ByteArray)⟩ : S105), (⟨3, 0, (⟨#[]⟩ : ByteArray)⟩ : S105)] : List (S105)))
set_option maxHeartbeats 8000000 in
set_option maxRecDepth 100000 in
theorem spec_TreeNew.calls  (r : List (S105)) (w : World) (h : spec_TreeNew.f  = some r) :
  Calls Tryd.prog 64 #[] w fun e w' => ∃ v0_ : Value, e = .returned (v0_) ∧ Kd.R k105 105 w' w.heap.size (fun _ => True) v0_ r ∧ Below w.heap.size w w' := by
 have hu105 := Tryd.underlying105
 have HB := Aside0.mk (Below.refl w.heap.size w)
 have H : (some (([(⟨1, 0, (⟨#[]⟩ : ByteArray)⟩ : S105), (⟨2, 0, (⟨#[]⟩ : ByteArray)⟩ : S105), (⟨3, 0, (⟨#[]⟩ : ByteArray)⟩ : S105)] : List (S105)))) = some r := h
 clear h
 obtain ⟨y267, hy267⟩ : ∃ y_ : List (S105), y_ = (([(⟨1, 0, (⟨#[]⟩ : ByteArray)⟩ : S105), (⟨2, 0, (⟨#[]⟩ : ByteArray)⟩ : S105), (⟨3, 0, (⟨#[]⟩ : ByteArray)⟩ : S105)] : List (S105))) := ⟨_, rfl⟩
 replace H : (some y267) = some r := by first | (rw [hy267]; with_reducible exact H) | (have H2_ := (Option.bind_some _ _).symm.trans H; rw [hy267]; with_reducible exact H2_) | (have H2_ := (Option.bind_some _ _).symm.trans H; with_reducible exact H2_) | with_reducible exact H | (rw [hy267]; exact H) | exact H
 have Ny267 := Aside0.mk hy267
 clear hy267
 obtain rfl := Option.some.inj H
 go_enter Tryd.func64, Tryd.ntmps64
 go_wp2_with (first | ((with_reducible refine gate_dst (N := 4) rfl ?_); refine Kd.R_lit k105 _ 105 ?hg (N := 4) ?hd (xs := ([(⟨1, 0, (⟨#[]⟩ : ByteArray)⟩ : S105), (⟨2, 0, (⟨#[]⟩ : ByteArray)⟩ : S105), (⟨3, 0, (⟨#[]⟩ : ByteArray)⟩ : S105)] : List (S105))) (inner := [.int .i64 1, .int .i64 0, .string (⟨#[]⟩ : ByteArray), .int .i64 2, .int .i64 0, .string (⟨#[]⟩ : ByteArray), .int .i64 3, .int .i64 0, .string (⟨#[]⟩ : ByteArray)]) (ok := fun _ => True) (okp := fun _ => True) ?hr ?hp (fun _ hk => hk) trivial (Below.refl _ _) (Nat.le_refl _) (by simp) ?_; (case hd => rfl); (case hg => rfl); (case hr => first | (go_simp; done) | (go_simp; rfl)); (case hp => exact (Reps.c3 (show Kd.M k105 _ _ _ (⟨1, 0, (⟨#[]⟩ : ByteArray)⟩ : S105) [.int .i64 1, .int .i64 0, .string (⟨#[]⟩ : ByteArray)] from (k105_mkM _ _ _ (⟨1, 0, (⟨#[]⟩ : ByteArray)⟩ : S105) )) (Reps.c3 (show Kd.M k105 _ _ _ (⟨2, 0, (⟨#[]⟩ : ByteArray)⟩ : S105) [.int .i64 2, .int .i64 0, .string (⟨#[]⟩ : ByteArray)] from (k105_mkM _ _ _ (⟨2, 0, (⟨#[]⟩ : ByteArray)⟩ : S105) )) (Reps.c3 (show Kd.M k105 _ _ _ (⟨3, 0, (⟨#[]⟩ : ByteArray)⟩ : S105) [.int .i64 3, .int .i64 0, .string (⟨#[]⟩ : ByteArray)] from (k105_mkM _ _ _ (⟨3, 0, (⟨#[]⟩ : ByteArray)⟩ : S105) )) (Reps.none _ _))))); intro v268 w1 ho2 hb hg_ hnew_; clear hg_ hnew_; (first | rw [← Ny267.out] at ho2 | (simp only [Int.reduceToNat] at ho2; rw [← Ny267.out] at ho2)); have n0_ := Aside0.mk (Kd.R_lower ho2 (below_size belowA)); have n1_ := Aside0.mk (below_step belowA hb); clear HB; have HO269 := n0_; have HB := n1_; clear n0_ n1_; clear hb ho2))
 go_ret
 exact ⟨_, endA, RA HO269, belowA⟩
def spec_l2At.l0 : Nat → List (S105) → Int → Int → Option (Int)
 | 0, _, _, _ => none
 | k + 1, x0, x1, x5 => if x5 < (x0.length : Int) then (if 0 ≤ x5 then (if ((rd_T105 x0 x5).f0) = x1 then (some x5) else (spec_l2At.l0 k x0 x1 (wrap64 (x5 + 1)))) else (none)) else (some (-1))
def spec_l2At.f (k : Nat) (l0 : List (S105)) (a1 : Int) : Option (Int) := spec_l2At.l0 k l0 a1 0
theorem spec_l2At.mono_l : ∀ k, (∀ y0 y1 y2, LeO (spec_l2At.l0 k y0 y1 y2) (spec_l2At.l0 (k + 1) y0 y1 y2))
 | 0 => fun _ _ _ r h => by simp [spec_l2At.l0] at h
 | k + 1 => by
  have ih0 := spec_l2At.mono_l k
  ·intro y0 y1 y2
   unfold spec_l2At.l0
   repeat' first
   | (with_reducible exact ih0 _ _ _)
   | (with_reducible exact LeO.refl _)
   | (with_reducible exact LeO.none _)
   | (with_reducible refine LeO.ite ?_ ?_)
   | (with_reducible refine LeO.bind ?_ (fun _ => ?_))
   | exact ih0 _ _ _
   | exact LeO.none _
   | refine LeO.ite ?_ ?_
   | refine LeO.bind ?_ (fun _ => ?_)
theorem spec_l2At.mono : ∀ a0 a1 k, LeO (spec_l2At.f k a0 a1) (spec_l2At.f (k + 1) a0 a1) := by
 intro a0 a1 k
 have ih0 := spec_l2At.mono_l k
 unfold spec_l2At.f
 repeat' first
   | (with_reducible exact ih0 _ _ _)
   | (with_reducible exact LeO.refl _)
   | (with_reducible exact LeO.none _)
   | (with_reducible refine LeO.ite ?_ ?_)
   | (with_reducible refine LeO.bind ?_ (fun _ => ?_))
   | exact ih0 _ _ _
   | exact LeO.none _
   | refine LeO.ite ?_ ?_
   | refine LeO.bind ?_ (fun _ => ?_)
set_option maxHeartbeats 8000000 in
set_option maxRecDepth 100000 in
theorem spec_l2At.calls (k : Nat) (A0 : Option Addr) (c0 : Nat) (l0 : List (S105)) (a1 : Int) (r : Int) (w : World) (hr0 : Kd.C k105 w A0 l0.length l0) (hc0 : l0.length ≤ c0) (h : spec_l2At.f k l0 a1 = some r) :
  Calls Tryd.prog 74 #[.slice A0 l0.length c0, .int .i64 a1] w fun e w' => e = .returned (.int .i64 r) ∧ Drawn0 w w' := by
 have HR0 := Aside0.mk hr0
 have HC0 := Aside0.mk hc0
 clear hr0 hc0
 have H : (spec_l2At.l0 k l0 a1 0) = some r := h
 clear h
 have H' := Aside0.mk H
 clear H
 go_enter Tryd.func74, Tryd.ntmps74
 go_wp2
 go_loopg [5] k (fun kq v5 w' => ∃ (x5_1 : Int), v5 = .int .i64 x5_1 ∧ Aside0 (spec_l2At.l0 kq l0 a1 x5_1 = some r) ∧ Aside0 (kq ≤ k) ∧ Drawn0 w w')
 case atStart => exact ⟨(0), (by first | rfl | (simp; done) | (simp [*]; done)), H', ⟨Nat.le_refl _⟩, by repeat (first | exact Drawn0.refl _ | apply Drawn0.step)⟩
 case round =>
  clear H'
  try clear p2
  obtain ⟨x5_1, rfl, HA, HK1, ⟨m1, rfl⟩⟩ := hrel
  cases gk with
  | zero => exact absurd HA.out (by simp [spec_l2At.l0])
  | succ k1 =>
   have H := HA.out
   clear HA
   simp only [spec_l2At.l0] at H
   by_cases c3 : x5_1 < (l0.length : Int)
   ·rw [if_pos c3] at H
    have c3b0 : decide (x5_1 < (l0.length : Int)) = true := decide_eq_true c3
    clear c3
    by_cases c4 : 0 ≤ x5_1
    ·rw [if_pos c4] at H
     have c4b0 : decide (0 ≤ x5_1) = true := decide_eq_true c4
     clear c4
     by_cases c5 : ((rd_T105 l0 x5_1).f0) = a1
     ·rw [if_pos c5] at H
      have c5b0 : (((rd_T105 l0 x5_1).f0) == a1) = true := beq_iff_eq.mpr c5
      have c5b1 : (((rd_T105 l0 x5_1).f0) != a1) = false := bne_eq_false_iff_eq.mpr c5
      clear c5
      obtain rfl := Option.some.inj H
      have p270 : 0 ≤ (x5_1 : Int) := of_decide_eq_true (by first | (with_reducible assumption) | assumption)
      have q270 : x5_1 < (l0.length : Int) := of_decide_eq_true (by first | (with_reducible assumption) | assumption)
      obtain ⟨ad270, e270, hx270_0, hx270_1, hx270_2⟩ := at_T105 HR0.out x5_1 p270 q270
      cases e270
      replace p270 := eq_true p270
      replace q270 := eq_true q270
      go_wp2
      go_ret
      exact ⟨by first | rfl | (simp; done) | (simp [*]; done), by repeat (first | exact Drawn0.refl _ | apply Drawn0.step)⟩
     ·rw [if_neg c5] at H
      have c5b0 : (((rd_T105 l0 x5_1).f0) == a1) = false := beq_eq_false_iff_ne.mpr c5
      have c5b1 : (((rd_T105 l0 x5_1).f0) != a1) = true := bne_iff_ne.mpr c5
      have H' := Aside0.mk H
      clear H
      have p270 : 0 ≤ (x5_1 : Int) := of_decide_eq_true (by first | (with_reducible assumption) | assumption)
      have q270 : x5_1 < (l0.length : Int) := of_decide_eq_true (by first | (with_reducible assumption) | assumption)
      obtain ⟨ad270, e270, hx270_0, hx270_1, hx270_2⟩ := at_T105 HR0.out x5_1 p270 q270
      cases e270
      replace p270 := eq_true p270
      replace q270 := eq_true q270
      go_wp2
      go_roundg k1
      case measure => have := HK1.out; omega
      case rel => exact ⟨(wrap64 (x5_1 + 1)), (by first | rfl | (simp; done) | (simp [*]; done)), H', ⟨by have := HK1.out; omega⟩, by repeat (first | exact Drawn0.refl _ | apply Drawn0.step)⟩
    ·rw [if_neg c4] at H
     exact absurd H (by simp)
   ·rw [if_neg c3] at H
    have c3b0 : decide (x5_1 < (l0.length : Int)) = false := decide_eq_false c3
    clear c3
    obtain rfl := Option.some.inj H
    go_wp2
    go_ret
    exact ⟨by first | rfl | (simp; done) | (simp [*]; done), by repeat (first | exact Drawn0.refl _ | apply Drawn0.step)⟩
def spec_l2End.l0 : Nat → List (S105) → Int → Int → Option (Int)
 | 0, _, _, _ => none
 | k + 1, x0, x1, x5 => if x5 < (x0.length : Int) then (if 0 ≤ x5 then (if 0 ≤ x1 then (if x1 < (x0.length : Int) then (if ((rd_T105 x0 x5).f1) > ((rd_T105 x0 x1).f1) then (spec_l2End.l0 k x0 x1 (wrap64 (x5 + 1))) else (some x5)) else (none)) else (none)) else (none)) else (some x5)
def spec_l2End.f (k : Nat) (l0 : List (S105)) (a1 : Int) : Option (Int) := spec_l2End.l0 k l0 a1 (wrap64 (a1 + 1))
theorem spec_l2End.mono_l : ∀ k, (∀ y0 y1 y2, LeO (spec_l2End.l0 k y0 y1 y2) (spec_l2End.l0 (k + 1) y0 y1 y2))
 | 0 => fun _ _ _ r h => by simp [spec_l2End.l0] at h
 | k + 1 => by
  have ih0 := spec_l2End.mono_l k
  ·intro y0 y1 y2
   unfold spec_l2End.l0
   repeat' first
   | (with_reducible exact ih0 _ _ _)
   | (with_reducible exact LeO.refl _)
   | (with_reducible exact LeO.none _)
   | (with_reducible refine LeO.ite ?_ ?_)
   | (with_reducible refine LeO.bind ?_ (fun _ => ?_))
   | exact ih0 _ _ _
   | exact LeO.none _
   | refine LeO.ite ?_ ?_
   | refine LeO.bind ?_ (fun _ => ?_)
theorem spec_l2End.mono : ∀ a0 a1 k, LeO (spec_l2End.f k a0 a1) (spec_l2End.f (k + 1) a0 a1) := by
 intro a0 a1 k
 have ih0 := spec_l2End.mono_l k
 unfold spec_l2End.f
 repeat' first
   | (with_reducible exact ih0 _ _ _)
   | (with_reducible exact LeO.refl _)
   | (with_reducible exact LeO.none _)
   | (with_reducible refine LeO.ite ?_ ?_)
   | (with_reducible refine LeO.bind ?_ (fun _ => ?_))
   | exact ih0 _ _ _
   | exact LeO.none _
   | refine LeO.ite ?_ ?_
   | refine LeO.bind ?_ (fun _ => ?_)
set_option maxHeartbeats 8000000 in
set_option maxRecDepth 100000 in
theorem spec_l2End.calls (k : Nat) (A0 : Option Addr) (c0 : Nat) (l0 : List (S105)) (a1 : Int) (r : Int) (w : World) (hr0 : Kd.C k105 w A0 l0.length l0) (hc0 : l0.length ≤ c0) (h : spec_l2End.f k l0 a1 = some r) :
  Calls Tryd.prog 77 #[.slice A0 l0.length c0, .int .i64 a1] w fun e w' => e = .returned (.int .i64 r) ∧ Drawn0 w w' := by
 have HR0 := Aside0.mk hr0
 have HC0 := Aside0.mk hc0
 clear hr0 hc0
 have H : (spec_l2End.l0 k l0 a1 (wrap64 (a1 + 1))) = some r := h
 clear h
 have H' := Aside0.mk H
 clear H
 go_enter Tryd.func77, Tryd.ntmps77
 go_wp2
 repeat (go_quiet (fail); try go_wp2)
 go_loopg [5] k (fun kq v5 w' => ∃ (x5_1 : Int), v5 = .int .i64 x5_1 ∧ Aside0 (spec_l2End.l0 kq l0 a1 x5_1 = some r) ∧ Aside0 (kq ≤ k) ∧ Drawn0 w w')
 case atStart => exact ⟨(wrap64 (a1 + 1)), (by first | rfl | (simp; done) | (simp [*]; done)), H', ⟨Nat.le_refl _⟩, by repeat (first | exact Drawn0.refl _ | apply Drawn0.step)⟩
 case round =>
  clear H'
  try clear p2
  obtain ⟨x5_1, rfl, HA, HK1, ⟨m1, rfl⟩⟩ := hrel
  cases gk with
  | zero => exact absurd HA.out (by simp [spec_l2End.l0])
  | succ k1 =>
   have H := HA.out
   clear HA
   simp only [spec_l2End.l0] at H
   by_cases c3 : x5_1 < (l0.length : Int)
   ·rw [if_pos c3] at H
    have c3b0 : decide (x5_1 < (l0.length : Int)) = true := decide_eq_true c3
    clear c3
    by_cases c4 : 0 ≤ x5_1
    ·rw [if_pos c4] at H
     have c4b0 : decide (0 ≤ x5_1) = true := decide_eq_true c4
     clear c4
     by_cases c5 : 0 ≤ a1
     ·rw [if_pos c5] at H
      have c5b0 : decide (0 ≤ a1) = true := decide_eq_true c5
      clear c5
      by_cases c6 : a1 < (l0.length : Int)
      ·rw [if_pos c6] at H
       have c6b0 : decide (a1 < (l0.length : Int)) = true := decide_eq_true c6
       clear c6
       by_cases c7 : ((rd_T105 l0 x5_1).f1) > ((rd_T105 l0 a1).f1)
       ·rw [if_pos c7] at H
        have c7b0 : decide (((rd_T105 l0 a1).f1) < ((rd_T105 l0 x5_1).f1)) = true := decide_eq_true c7
        clear c7
        have H' := Aside0.mk H
        clear H
        have p271 : 0 ≤ (x5_1 : Int) := of_decide_eq_true (by first | (with_reducible assumption) | assumption)
        have q271 : x5_1 < (l0.length : Int) := of_decide_eq_true (by first | (with_reducible assumption) | assumption)
        obtain ⟨ad271, e271, hx271_0, hx271_1, hx271_2⟩ := at_T105 HR0.out x5_1 p271 q271
        cases e271
        replace p271 := eq_true p271
        replace q271 := eq_true q271
        have p272 : 0 ≤ (a1 : Int) := of_decide_eq_true (by first | (with_reducible assumption) | assumption)
        have q272 : a1 < (l0.length : Int) := of_decide_eq_true (by first | (with_reducible assumption) | assumption)
        obtain ⟨ad272, e272, hx272_0, hx272_1, hx272_2⟩ := at_T105 HR0.out a1 p272 q272
        obtain rfl : ad271 = ad272 := (by injection e272)
        replace p272 := eq_true p272
        replace q272 := eq_true q272
        go_wp2
        repeat (go_quiet (fail); try go_wp2)
        go_roundg k1
        case measure => have := HK1.out; omega
        case rel => exact ⟨(wrap64 (x5_1 + 1)), (by first | rfl | (simp; done) | (simp [*]; done)), H', ⟨by have := HK1.out; omega⟩, by repeat (first | exact Drawn0.refl _ | apply Drawn0.step)⟩
       ·rw [if_neg c7] at H
        have c7b0 : decide (((rd_T105 l0 a1).f1) < ((rd_T105 l0 x5_1).f1)) = false := decide_eq_false c7
        clear c7
        obtain rfl := Option.some.inj H
        have p271 : 0 ≤ (x5_1 : Int) := of_decide_eq_true (by first | (with_reducible assumption) | assumption)
        have q271 : x5_1 < (l0.length : Int) := of_decide_eq_true (by first | (with_reducible assumption) | assumption)
        obtain ⟨ad271, e271, hx271_0, hx271_1, hx271_2⟩ := at_T105 HR0.out x5_1 p271 q271
        cases e271
        replace p271 := eq_true p271
        replace q271 := eq_true q271
        have p272 : 0 ≤ (a1 : Int) := of_decide_eq_true (by first | (with_reducible assumption) | assumption)
        have q272 : a1 < (l0.length : Int) := of_decide_eq_true (by first | (with_reducible assumption) | assumption)
        obtain ⟨ad272, e272, hx272_0, hx272_1, hx272_2⟩ := at_T105 HR0.out a1 p272 q272
        obtain rfl : ad271 = ad272 := (by injection e272)
        replace p272 := eq_true p272
        replace q272 := eq_true q272
        go_wp2
        repeat (go_quiet (fail); try go_wp2)
        go_ret
        exact ⟨by first | rfl | (simp; done) | (simp [*]; done), by repeat (first | exact Drawn0.refl _ | apply Drawn0.step)⟩
      ·rw [if_neg c6] at H
       exact absurd H (by simp)
     ·rw [if_neg c5] at H
      exact absurd H (by simp)
    ·rw [if_neg c4] at H
     exact absurd H (by simp)
   ·rw [if_neg c3] at H
    have c3b0 : decide (x5_1 < (l0.length : Int)) = false := decide_eq_false c3
    clear c3
    obtain rfl := Option.some.inj H
    go_wp2
    repeat (go_quiet (fail); try go_wp2)
    go_ret
    exact ⟨by first | rfl | (simp; done) | (simp [*]; done), by repeat (first | exact Drawn0.refl _ | apply Drawn0.step)⟩
def spec_l2Kids.l0 : Nat → List (S105) → List Int → Int → Int → Option (List Int)
 | 0, _, _, _, _ => none
 | k + 1, x0, x5, x6, x7 => (spec_l2End.f k x0 x6).bind fun t277 => (if x7 < t277 then (if 0 ≤ x7 then (if x7 < (x0.length : Int) then (if 0 ≤ x6 then (if x6 < (x0.length : Int) then (if ((rd_T105 x0 x7).f1) = (wrap64 (((rd_T105 x0 x6).f1) + 1)) then (if x5.length < 17592186044416 then (spec_l2Kids.l0 k x0 (x5 ++ [(rd_T105 x0 x7).f0]) x6 (wrap64 (x7 + 1))) else (none)) else (spec_l2Kids.l0 k x0 x5 x6 (wrap64 (x7 + 1)))) else (none)) else (none)) else (none)) else (none)) else (some x5))
def spec_l2Kids.f (k : Nat) (l0 : List (S105)) (a1 : Int) : Option (List Int) := (some (([] : List Int) : List Int)).bind fun y273 => ((spec_l2At.f k l0 a1).bind fun t276 => (if t276 < 0 then (some y273) else (spec_l2Kids.l0 k l0 y273 t276 (wrap64 (t276 + 1)))))
theorem spec_l2Kids.mono_l : ∀ k, (∀ y0 y1 y2 y3, LeO (spec_l2Kids.l0 k y0 y1 y2 y3) (spec_l2Kids.l0 (k + 1) y0 y1 y2 y3))
 | 0 => fun _ _ _ _ r h => by simp [spec_l2Kids.l0] at h
 | k + 1 => by
  have ih0 := spec_l2Kids.mono_l k
  ·intro y0 y1 y2 y3
   unfold spec_l2Kids.l0
   repeat' first
   | (with_reducible exact ih0 _ _ _ _)
   | (with_reducible exact spec_l2At.mono _ _ _)
   | (with_reducible exact spec_l2End.mono _ _ _)
   | (with_reducible exact LeO.refl _)
   | (with_reducible exact LeO.none _)
   | (with_reducible refine LeO.ite ?_ ?_)
   | (with_reducible refine LeO.bind ?_ (fun _ => ?_))
   | exact ih0 _ _ _ _
   | exact spec_l2At.mono _ _ _
   | exact spec_l2End.mono _ _ _
   | exact LeO.none _
   | refine LeO.ite ?_ ?_
   | refine LeO.bind ?_ (fun _ => ?_)
theorem spec_l2Kids.mono : ∀ a0 a1 k, LeO (spec_l2Kids.f k a0 a1) (spec_l2Kids.f (k + 1) a0 a1) := by
 intro a0 a1 k
 have ih0 := spec_l2Kids.mono_l k
 unfold spec_l2Kids.f
 repeat' first
   | (with_reducible exact ih0 _ _ _ _)
   | (with_reducible exact spec_l2At.mono _ _ _)
   | (with_reducible exact spec_l2End.mono _ _ _)
   | (with_reducible exact LeO.refl _)
   | (with_reducible exact LeO.none _)
   | (with_reducible refine LeO.ite ?_ ?_)
   | (with_reducible refine LeO.bind ?_ (fun _ => ?_))
   | exact ih0 _ _ _ _
   | exact spec_l2At.mono _ _ _
   | exact spec_l2End.mono _ _ _
   | exact LeO.none _
   | refine LeO.ite ?_ ?_
   | refine LeO.bind ?_ (fun _ => ?_)
set_option maxHeartbeats 8000000 in
set_option maxRecDepth 100000 in
theorem spec_l2Kids.calls (k : Nat) (A0 : Option Addr) (c0 : Nat) (l0 : List (S105)) (a1 : Int) (r : List Int) (w : World) (hr0 : Kd.C k105 w A0 l0.length l0) (hc0 : l0.length ≤ c0) (h : spec_l2Kids.f k l0 a1 = some r) :
  Calls Tryd.prog 72 #[.slice A0 l0.length c0, .int .i64 a1] w fun e w' => ∃ v0_ : Value, e = .returned (v0_) ∧ Kd.R (Kd.int .i64) 3 w' w.heap.size (fun _ => True) v0_ r ∧ Below w.heap.size w w' := by
 have HR0 := Aside0.mk hr0
 have HC0 := Aside0.mk hc0
 clear hr0 hc0
 have HB := Aside0.mk (Below.refl w.heap.size w)
 have H : ((some (([] : List Int) : List Int)).bind fun y273 => ((spec_l2At.f k l0 a1).bind fun t276 => (if t276 < 0 then (some y273) else (spec_l2Kids.l0 k l0 y273 t276 (wrap64 (t276 + 1)))))) = some r := h
 clear h
 obtain ⟨y273, hy273⟩ : ∃ y_ : List Int, y_ = (([] : List Int)) := ⟨_, rfl⟩
 replace H : ((spec_l2At.f k l0 a1).bind fun t276 => (if t276 < 0 then (some y273) else (spec_l2Kids.l0 k l0 y273 t276 (wrap64 (t276 + 1))))) = some r := by first | (rw [hy273]; with_reducible exact H) | (have H2_ := (Option.bind_some _ _).symm.trans H; rw [hy273]; with_reducible exact H2_) | (have H2_ := (Option.bind_some _ _).symm.trans H; with_reducible exact H2_) | with_reducible exact H | (rw [hy273]; exact H) | exact H
 have Ny273 := Aside0.mk hy273
 clear hy273
 replace H := Option.bind_eq_some_iff.mp H
 obtain ⟨t276, A30, H⟩ := H
 (try dsimp only at H)
 have A3 := Aside0.mk A30
 clear A30
 by_cases c4 : t276 < 0
 ·rw [if_pos c4] at H
  have c4b0 : decide (t276 < 0) = true := decide_eq_true c4
  clear c4
  obtain rfl := Option.some.inj H
  go_enter Tryd.func72, Tryd.ntmps72
  go_wp2_with (first | ((with_reducible refine gate_dst (N := 8) rfl ?_); refine Kd.R_lit (Kd.int .i64) _ 3 ?hg (N := 8) ?hd (xs := ([] : List Int)) (inner := []) (ok := fun _ => True) (okp := fun _ => True) ?hr ?hp (fun _ hk => hk) trivial (Below.refl _ _) (Nat.le_refl _) (by simp) ?_; (case hd => rfl); (case hg => rfl); (case hr => first | (go_simp; done) | (go_simp; rfl)); (case hp => exact (Reps.none _ _)); intro v274 w5 ho6 hb hg_ hnew_; clear hg_ hnew_; (first | rw [← Ny273.out] at ho6 | (simp only [Int.reduceToNat] at ho6; rw [← Ny273.out] at ho6)); have n0_ := Aside0.mk (Kd.R_lower ho6 (below_size belowA)); have n1_ := Aside0.mk (below_step belowA hb); clear HB; have HO275 := n0_; have HB := n1_; clear n0_ n1_; clear hb ho6) | (go_at_call 74; (with_reducible refine (spec_l2At.calls k _ _ l0 a1 t276 _ ?side1 ?side2 A3.out).mono ?_); (case side1 => exact CA (Kd.C_below HR0.out HB.out)); (case side2 => exact HC0.out); rintro e w' ⟨rfl, ⟨nd, rfl⟩⟩; (try first | exact ⟨rfl, _, World.drewN_drewN _ _ _⟩ | exact ⟨rfl, _, Eq.trans (World.drewN_drewN _ _ _) (congrArg (World.drewN _) (Nat.add_assoc _ _ _))⟩)))
  repeat (go_quiet (first | ((with_reducible refine gate_dst (N := 8) rfl ?_); refine Kd.R_lit (Kd.int .i64) _ 3 ?hg (N := 8) ?hd (xs := ([] : List Int)) (inner := []) (ok := fun _ => True) (okp := fun _ => True) ?hr ?hp (fun _ hk => hk) trivial (Below.refl _ _) (Nat.le_refl _) (by simp) ?_; (case hd => rfl); (case hg => rfl); (case hr => first | (go_simp; done) | (go_simp; rfl)); (case hp => exact (Reps.none _ _)); intro v274 w5 ho6 hb hg_ hnew_; clear hg_ hnew_; (first | rw [← Ny273.out] at ho6 | (simp only [Int.reduceToNat] at ho6; rw [← Ny273.out] at ho6)); have n0_ := Aside0.mk (Kd.R_lower ho6 (below_size belowA)); have n1_ := Aside0.mk (below_step belowA hb); clear HB; have HO275 := n0_; have HB := n1_; clear n0_ n1_; clear hb ho6) | (go_at_call 74; (with_reducible refine (spec_l2At.calls k _ _ l0 a1 t276 _ ?side1 ?side2 A3.out).mono ?_); (case side1 => exact CA (Kd.C_below HR0.out HB.out)); (case side2 => exact HC0.out); rintro e w' ⟨rfl, ⟨nd, rfl⟩⟩; (try first | exact ⟨rfl, _, World.drewN_drewN _ _ _⟩ | exact ⟨rfl, _, Eq.trans (World.drewN_drewN _ _ _) (congrArg (World.drewN _) (Nat.add_assoc _ _ _))⟩))); try go_wp2_with (first | ((with_reducible refine gate_dst (N := 8) rfl ?_); refine Kd.R_lit (Kd.int .i64) _ 3 ?hg (N := 8) ?hd (xs := ([] : List Int)) (inner := []) (ok := fun _ => True) (okp := fun _ => True) ?hr ?hp (fun _ hk => hk) trivial (Below.refl _ _) (Nat.le_refl _) (by simp) ?_; (case hd => rfl); (case hg => rfl); (case hr => first | (go_simp; done) | (go_simp; rfl)); (case hp => exact (Reps.none _ _)); intro v274 w5 ho6 hb hg_ hnew_; clear hg_ hnew_; (first | rw [← Ny273.out] at ho6 | (simp only [Int.reduceToNat] at ho6; rw [← Ny273.out] at ho6)); have n0_ := Aside0.mk (Kd.R_lower ho6 (below_size belowA)); have n1_ := Aside0.mk (below_step belowA hb); clear HB; have HO275 := n0_; have HB := n1_; clear n0_ n1_; clear hb ho6) | (go_at_call 74; (with_reducible refine (spec_l2At.calls k _ _ l0 a1 t276 _ ?side1 ?side2 A3.out).mono ?_); (case side1 => exact CA (Kd.C_below HR0.out HB.out)); (case side2 => exact HC0.out); rintro e w' ⟨rfl, ⟨nd, rfl⟩⟩; (try first | exact ⟨rfl, _, World.drewN_drewN _ _ _⟩ | exact ⟨rfl, _, Eq.trans (World.drewN_drewN _ _ _) (congrArg (World.drewN _) (Nat.add_assoc _ _ _))⟩))))
  go_ret
  exact ⟨_, endA, RA HO275, belowA⟩
 ·rw [if_neg c4] at H
  have c4b0 : decide (t276 < 0) = false := decide_eq_false c4
  clear c4
  have H' := Aside0.mk H
  clear H
  go_enter Tryd.func72, Tryd.ntmps72
  go_wp2_with (first | ((with_reducible refine gate_dst (N := 8) rfl ?_); refine Kd.R_lit (Kd.int .i64) _ 3 ?hg (N := 8) ?hd (xs := ([] : List Int)) (inner := []) (ok := fun _ => True) (okp := fun _ => True) ?hr ?hp (fun _ hk => hk) trivial (Below.refl _ _) (Nat.le_refl _) (by simp) ?_; (case hd => rfl); (case hg => rfl); (case hr => first | (go_simp; done) | (go_simp; rfl)); (case hp => exact (Reps.none _ _)); intro v274 w7 ho8 hb hg_ hnew_; clear hg_ hnew_; (first | rw [← Ny273.out] at ho8 | (simp only [Int.reduceToNat] at ho8; rw [← Ny273.out] at ho8)); have n0_ := Aside0.mk (Kd.R_lower ho8 (below_size belowA)); have n1_ := Aside0.mk (below_step belowA hb); clear HB; have HO275 := n0_; have HB := n1_; clear n0_ n1_; clear hb ho8) | (go_at_call 74; (with_reducible refine (spec_l2At.calls k _ _ l0 a1 t276 _ ?side1 ?side2 A3.out).mono ?_); (case side1 => exact CA (Kd.C_below HR0.out HB.out)); (case side2 => exact HC0.out); rintro e w' ⟨rfl, ⟨nd, rfl⟩⟩; (try first | exact ⟨rfl, _, World.drewN_drewN _ _ _⟩ | exact ⟨rfl, _, Eq.trans (World.drewN_drewN _ _ _) (congrArg (World.drewN _) (Nat.add_assoc _ _ _))⟩)))
  repeat (go_quiet (first | ((with_reducible refine gate_dst (N := 8) rfl ?_); refine Kd.R_lit (Kd.int .i64) _ 3 ?hg (N := 8) ?hd (xs := ([] : List Int)) (inner := []) (ok := fun _ => True) (okp := fun _ => True) ?hr ?hp (fun _ hk => hk) trivial (Below.refl _ _) (Nat.le_refl _) (by simp) ?_; (case hd => rfl); (case hg => rfl); (case hr => first | (go_simp; done) | (go_simp; rfl)); (case hp => exact (Reps.none _ _)); intro v274 w7 ho8 hb hg_ hnew_; clear hg_ hnew_; (first | rw [← Ny273.out] at ho8 | (simp only [Int.reduceToNat] at ho8; rw [← Ny273.out] at ho8)); have n0_ := Aside0.mk (Kd.R_lower ho8 (below_size belowA)); have n1_ := Aside0.mk (below_step belowA hb); clear HB; have HO275 := n0_; have HB := n1_; clear n0_ n1_; clear hb ho8) | (go_at_call 74; (with_reducible refine (spec_l2At.calls k _ _ l0 a1 t276 _ ?side1 ?side2 A3.out).mono ?_); (case side1 => exact CA (Kd.C_below HR0.out HB.out)); (case side2 => exact HC0.out); rintro e w' ⟨rfl, ⟨nd, rfl⟩⟩; (try first | exact ⟨rfl, _, World.drewN_drewN _ _ _⟩ | exact ⟨rfl, _, Eq.trans (World.drewN_drewN _ _ _) (congrArg (World.drewN _) (Nat.add_assoc _ _ _))⟩))); try go_wp2_with (first | ((with_reducible refine gate_dst (N := 8) rfl ?_); refine Kd.R_lit (Kd.int .i64) _ 3 ?hg (N := 8) ?hd (xs := ([] : List Int)) (inner := []) (ok := fun _ => True) (okp := fun _ => True) ?hr ?hp (fun _ hk => hk) trivial (Below.refl _ _) (Nat.le_refl _) (by simp) ?_; (case hd => rfl); (case hg => rfl); (case hr => first | (go_simp; done) | (go_simp; rfl)); (case hp => exact (Reps.none _ _)); intro v274 w7 ho8 hb hg_ hnew_; clear hg_ hnew_; (first | rw [← Ny273.out] at ho8 | (simp only [Int.reduceToNat] at ho8; rw [← Ny273.out] at ho8)); have n0_ := Aside0.mk (Kd.R_lower ho8 (below_size belowA)); have n1_ := Aside0.mk (below_step belowA hb); clear HB; have HO275 := n0_; have HB := n1_; clear n0_ n1_; clear hb ho8) | (go_at_call 74; (with_reducible refine (spec_l2At.calls k _ _ l0 a1 t276 _ ?side1 ?side2 A3.out).mono ?_); (case side1 => exact CA (Kd.C_below HR0.out HB.out)); (case side2 => exact HC0.out); rintro e w' ⟨rfl, ⟨nd, rfl⟩⟩; (try first | exact ⟨rfl, _, World.drewN_drewN _ _ _⟩ | exact ⟨rfl, _, Eq.trans (World.drewN_drewN _ _ _) (congrArg (World.drewN _) (Nat.add_assoc _ _ _))⟩))))
  go_loopg [5, 7] k (fun kq v5 v7 w' => ∃ (x5_1 : List Int) (x7_1 : Int), v7 = .int .i64 x7_1 ∧ Aside0 (spec_l2Kids.l0 kq l0 x5_1 t276 x7_1 = some r) ∧ Aside0 (kq ≤ k) ∧ Aside0 (Kd.R (Kd.int .i64) 3 w' w.heap.size (fun _ => True) v5 x5_1) ∧ Aside0 (Below w.heap.size w w'))
  case atStart => exact ⟨(y273), (wrap64 (t276 + 1)), (by first | rfl | (simp; done) | (simp [*]; done)), H', ⟨Nat.le_refl _⟩, ⟨RA HO275⟩, ⟨belowA⟩⟩
  case round =>
   clear H'
   try clear p2
   try clear c4
   try clear c4b0
   try clear p6
   try clear c7
   obtain ⟨x5_1, x7_1, rfl, HA, HK1, HO_5, HB⟩ := hrel
   cases gk with
   | zero => exact absurd HA.out (by simp [spec_l2Kids.l0])
   | succ k1 =>
    have H := HA.out
    clear HA
    simp only [spec_l2Kids.l0] at H
    replace H := Option.bind_eq_some_iff.mp H
    obtain ⟨t277, A90, H⟩ := H
    (try dsimp only at H)
    have A9 := Aside0.mk A90
    clear A90
    by_cases c10 : x7_1 < t277
    ·rw [if_pos c10] at H
     have c10b0 : decide (x7_1 < t277) = true := decide_eq_true c10
     clear c10
     by_cases c11 : 0 ≤ x7_1
     ·rw [if_pos c11] at H
      have c11b0 : decide (0 ≤ x7_1) = true := decide_eq_true c11
      clear c11
      by_cases c12 : x7_1 < (l0.length : Int)
      ·rw [if_pos c12] at H
       have c12b0 : decide (x7_1 < (l0.length : Int)) = true := decide_eq_true c12
       clear c12
       by_cases c13 : 0 ≤ t276
       ·rw [if_pos c13] at H
        have c13b0 : decide (0 ≤ t276) = true := decide_eq_true c13
        clear c13
        by_cases c14 : t276 < (l0.length : Int)
        ·rw [if_pos c14] at H
         have c14b0 : decide (t276 < (l0.length : Int)) = true := decide_eq_true c14
         clear c14
         by_cases c15 : ((rd_T105 l0 x7_1).f1) = (wrap64 (((rd_T105 l0 t276).f1) + 1))
         ·rw [if_pos c15] at H
          have c15b0 : (((rd_T105 l0 x7_1).f1) == (wrap64 (((rd_T105 l0 t276).f1) + 1))) = true := beq_iff_eq.mpr c15
          have c15b1 : (((rd_T105 l0 x7_1).f1) != (wrap64 (((rd_T105 l0 t276).f1) + 1))) = false := bne_eq_false_iff_eq.mpr c15
          clear c15
          by_cases c16 : x5_1.length < 17592186044416
          ·rw [if_pos c16] at H
           have LMc16 := Aside0.mk c16
           clear c16
           obtain ⟨y281, hy281⟩ : ∃ y_ : List Int, y_ = (x5_1 ++ [(rd_T105 l0 x7_1).f0]) := ⟨_, rfl⟩
           replace H : (spec_l2Kids.l0 k1 l0 y281 t276 (wrap64 (x7_1 + 1))) = some r := by first | (rw [hy281]; with_reducible exact H) | (have H2_ := (Option.bind_some _ _).symm.trans H; rw [hy281]; with_reducible exact H2_) | (have H2_ := (Option.bind_some _ _).symm.trans H; with_reducible exact H2_) | with_reducible exact H | (rw [hy281]; exact H) | exact H
           have Ny281 := Aside0.mk hy281
           clear hy281
           have H' := Aside0.mk H
           clear H
           go_wp2_with (first | (go_at_call 77; (with_reducible refine (spec_l2End.calls k1 _ _ l0 t276 t277 _ ?side1 ?side2 A9.out).mono ?_); (case side1 => exact CA (Kd.C_below HR0.out HB.out)); (case side2 => exact HC0.out); rintro e w' ⟨rfl, ⟨nd, rfl⟩⟩; (try first | exact ⟨rfl, _, World.drewN_drewN _ _ _⟩ | exact ⟨rfl, _, Eq.trans (World.drewN_drewN _ _ _) (congrArg (World.drewN _) (Nat.add_assoc _ _ _))⟩); have p278 : 0 ≤ (x7_1 : Int) := of_decide_eq_true (by first | (with_reducible assumption) | assumption); have q278 : x7_1 < (l0.length : Int) := of_decide_eq_true (by first | (with_reducible assumption) | assumption); obtain ⟨ad278, e278, hx278_0, hx278_1, hx278_2⟩ := at_T105 HR0.out x7_1 p278 q278; cases e278; replace hx278_0 := bcellD HB hx278_0; replace hx278_1 := bcellD HB hx278_1; replace hx278_2 := bcellD HB hx278_2; replace p278 := eq_true p278; replace q278 := eq_true q278; have p279 : 0 ≤ (t276 : Int) := of_decide_eq_true (by first | (with_reducible assumption) | assumption); have q279 : t276 < (l0.length : Int) := of_decide_eq_true (by first | (with_reducible assumption) | assumption); obtain ⟨ad279, e279, hx279_0, hx279_1, hx279_2⟩ := at_T105 HR0.out t276 p279 q279; obtain rfl : ad278 = ad279 := (by injection e279); replace hx279_0 := bcellD HB hx279_0; replace hx279_1 := bcellD HB hx279_1; replace hx279_2 := bcellD HB hx279_2; replace p279 := eq_true p279; replace q279 := eq_true q279; have p280 : 0 ≤ (x7_1 : Int) := of_decide_eq_true (by first | (with_reducible assumption) | assumption); have q280 : x7_1 < (l0.length : Int) := of_decide_eq_true (by first | (with_reducible assumption) | assumption); obtain ⟨ad280, e280, hx280_0, hx280_1, hx280_2⟩ := at_T105 HR0.out x7_1 p280 q280; obtain rfl : ad278 = ad280 := (by injection e280); replace hx280_0 := bcellD HB hx280_0; replace hx280_1 := bcellD HB hx280_1; replace hx280_2 := bcellD HB hx280_2; replace p280 := eq_true p280; replace q280 := eq_true q280) | ((with_reducible refine gate_builtin (b := .append) (xs := #[.tmp 36, .tmp 42]) rfl ?_); at_builtin; refine Kd.R_append (Kd.int .i64) (w0 := w) w.heap.size rfl (.tmp 36) (.tmp 42) 65 3 (.int .i64 0) 8 rfl Tryd.underlying65 info3 rfl (by decide) (by omega) u5 x5_1 ((rd_T105 l0 x7_1).f0) [.int .i64 ((rd_T105 l0 x7_1).f0)] (fun _ => True) (fun _ => False) rfl rfl ?aP (fun _ hk => hk.elim) ?aF ?aO ?aB ?aS ?aL ?_; (case aP => exact rfl); (case aB => exact belowA); (case aF => exact (fun _ _ => trivial)); (case aO => exact (RA HO_5)); (case aS => exact (below_size belowA)); (case aL => have := LMc16.out; omega); intro v282 w17 ho hb hg hat; rw [← Ny281.out] at ho; have n0_ := Aside0.mk (hb); have n1_ := Aside0.mk (ho); clear HB; clear HO_5; have HB := n0_; have HO283 := n1_; clear n0_ n1_; clear ho hb hg hat))
           repeat (go_quiet (first | (go_at_call 77; (with_reducible refine (spec_l2End.calls k1 _ _ l0 t276 t277 _ ?side1 ?side2 A9.out).mono ?_); (case side1 => exact CA (Kd.C_below HR0.out HB.out)); (case side2 => exact HC0.out); rintro e w' ⟨rfl, ⟨nd, rfl⟩⟩; (try first | exact ⟨rfl, _, World.drewN_drewN _ _ _⟩ | exact ⟨rfl, _, Eq.trans (World.drewN_drewN _ _ _) (congrArg (World.drewN _) (Nat.add_assoc _ _ _))⟩); have p278 : 0 ≤ (x7_1 : Int) := of_decide_eq_true (by first | (with_reducible assumption) | assumption); have q278 : x7_1 < (l0.length : Int) := of_decide_eq_true (by first | (with_reducible assumption) | assumption); obtain ⟨ad278, e278, hx278_0, hx278_1, hx278_2⟩ := at_T105 HR0.out x7_1 p278 q278; cases e278; replace hx278_0 := bcellD HB hx278_0; replace hx278_1 := bcellD HB hx278_1; replace hx278_2 := bcellD HB hx278_2; replace p278 := eq_true p278; replace q278 := eq_true q278; have p279 : 0 ≤ (t276 : Int) := of_decide_eq_true (by first | (with_reducible assumption) | assumption); have q279 : t276 < (l0.length : Int) := of_decide_eq_true (by first | (with_reducible assumption) | assumption); obtain ⟨ad279, e279, hx279_0, hx279_1, hx279_2⟩ := at_T105 HR0.out t276 p279 q279; obtain rfl : ad278 = ad279 := (by injection e279); replace hx279_0 := bcellD HB hx279_0; replace hx279_1 := bcellD HB hx279_1; replace hx279_2 := bcellD HB hx279_2; replace p279 := eq_true p279; replace q279 := eq_true q279; have p280 : 0 ≤ (x7_1 : Int) := of_decide_eq_true (by first | (with_reducible assumption) | assumption); have q280 : x7_1 < (l0.length : Int) := of_decide_eq_true (by first | (with_reducible assumption) | assumption); obtain ⟨ad280, e280, hx280_0, hx280_1, hx280_2⟩ := at_T105 HR0.out x7_1 p280 q280; obtain rfl : ad278 = ad280 := (by injection e280); replace hx280_0 := bcellD HB hx280_0; replace hx280_1 := bcellD HB hx280_1; replace hx280_2 := bcellD HB hx280_2; replace p280 := eq_true p280; replace q280 := eq_true q280) | ((with_reducible refine gate_builtin (b := .append) (xs := #[.tmp 36, .tmp 42]) rfl ?_); at_builtin; refine Kd.R_append (Kd.int .i64) (w0 := w) w.heap.size rfl (.tmp 36) (.tmp 42) 65 3 (.int .i64 0) 8 rfl Tryd.underlying65 info3 rfl (by decide) (by omega) u5 x5_1 ((rd_T105 l0 x7_1).f0) [.int .i64 ((rd_T105 l0 x7_1).f0)] (fun _ => True) (fun _ => False) rfl rfl ?aP (fun _ hk => hk.elim) ?aF ?aO ?aB ?aS ?aL ?_; (case aP => exact rfl); (case aB => exact belowA); (case aF => exact (fun _ _ => trivial)); (case aO => exact (RA HO_5)); (case aS => exact (below_size belowA)); (case aL => have := LMc16.out; omega); intro v282 w17 ho hb hg hat; rw [← Ny281.out] at ho; have n0_ := Aside0.mk (hb); have n1_ := Aside0.mk (ho); clear HB; clear HO_5; have HB := n0_; have HO283 := n1_; clear n0_ n1_; clear ho hb hg hat)); try go_wp2_with (first | (go_at_call 77; (with_reducible refine (spec_l2End.calls k1 _ _ l0 t276 t277 _ ?side1 ?side2 A9.out).mono ?_); (case side1 => exact CA (Kd.C_below HR0.out HB.out)); (case side2 => exact HC0.out); rintro e w' ⟨rfl, ⟨nd, rfl⟩⟩; (try first | exact ⟨rfl, _, World.drewN_drewN _ _ _⟩ | exact ⟨rfl, _, Eq.trans (World.drewN_drewN _ _ _) (congrArg (World.drewN _) (Nat.add_assoc _ _ _))⟩); have p278 : 0 ≤ (x7_1 : Int) := of_decide_eq_true (by first | (with_reducible assumption) | assumption); have q278 : x7_1 < (l0.length : Int) := of_decide_eq_true (by first | (with_reducible assumption) | assumption); obtain ⟨ad278, e278, hx278_0, hx278_1, hx278_2⟩ := at_T105 HR0.out x7_1 p278 q278; cases e278; replace hx278_0 := bcellD HB hx278_0; replace hx278_1 := bcellD HB hx278_1; replace hx278_2 := bcellD HB hx278_2; replace p278 := eq_true p278; replace q278 := eq_true q278; have p279 : 0 ≤ (t276 : Int) := of_decide_eq_true (by first | (with_reducible assumption) | assumption); have q279 : t276 < (l0.length : Int) := of_decide_eq_true (by first | (with_reducible assumption) | assumption); obtain ⟨ad279, e279, hx279_0, hx279_1, hx279_2⟩ := at_T105 HR0.out t276 p279 q279; obtain rfl : ad278 = ad279 := (by injection e279); replace hx279_0 := bcellD HB hx279_0; replace hx279_1 := bcellD HB hx279_1; replace hx279_2 := bcellD HB hx279_2; replace p279 := eq_true p279; replace q279 := eq_true q279; have p280 : 0 ≤ (x7_1 : Int) := of_decide_eq_true (by first | (with_reducible assumption) | assumption); have q280 : x7_1 < (l0.length : Int) := of_decide_eq_true (by first | (with_reducible assumption) | assumption); obtain ⟨ad280, e280, hx280_0, hx280_1, hx280_2⟩ := at_T105 HR0.out x7_1 p280 q280; obtain rfl : ad278 = ad280 := (by injection e280); replace hx280_0 := bcellD HB hx280_0; replace hx280_1 := bcellD HB hx280_1; replace hx280_2 := bcellD HB hx280_2; replace p280 := eq_true p280; replace q280 := eq_true q280) | ((with_reducible refine gate_builtin (b := .append) (xs := #[.tmp 36, .tmp 42]) rfl ?_); at_builtin; refine Kd.R_append (Kd.int .i64) (w0 := w) w.heap.size rfl (.tmp 36) (.tmp 42) 65 3 (.int .i64 0) 8 rfl Tryd.underlying65 info3 rfl (by decide) (by omega) u5 x5_1 ((rd_T105 l0 x7_1).f0) [.int .i64 ((rd_T105 l0 x7_1).f0)] (fun _ => True) (fun _ => False) rfl rfl ?aP (fun _ hk => hk.elim) ?aF ?aO ?aB ?aS ?aL ?_; (case aP => exact rfl); (case aB => exact belowA); (case aF => exact (fun _ _ => trivial)); (case aO => exact (RA HO_5)); (case aS => exact (below_size belowA)); (case aL => have := LMc16.out; omega); intro v282 w17 ho hb hg hat; rw [← Ny281.out] at ho; have n0_ := Aside0.mk (hb); have n1_ := Aside0.mk (ho); clear HB; clear HO_5; have HB := n0_; have HO283 := n1_; clear n0_ n1_; clear ho hb hg hat)))
           go_roundg k1
           case measure => have := HK1.out; omega
           case rel => exact ⟨(y281), (wrap64 (x7_1 + 1)), (by first | rfl | (simp; done) | (simp [*]; done)), H', ⟨by have := HK1.out; omega⟩, ⟨RA HO283⟩, ⟨belowA⟩⟩
          ·rw [if_neg c16] at H
           exact absurd H (by simp)
         ·rw [if_neg c15] at H
          have c15b0 : (((rd_T105 l0 x7_1).f1) == (wrap64 (((rd_T105 l0 t276).f1) + 1))) = false := beq_eq_false_iff_ne.mpr c15
          have c15b1 : (((rd_T105 l0 x7_1).f1) != (wrap64 (((rd_T105 l0 t276).f1) + 1))) = true := bne_iff_ne.mpr c15
          have H' := Aside0.mk H
          clear H
          go_wp2_with (first | (go_at_call 77; (with_reducible refine (spec_l2End.calls k1 _ _ l0 t276 t277 _ ?side1 ?side2 A9.out).mono ?_); (case side1 => exact CA (Kd.C_below HR0.out HB.out)); (case side2 => exact HC0.out); rintro e w' ⟨rfl, ⟨nd, rfl⟩⟩; (try first | exact ⟨rfl, _, World.drewN_drewN _ _ _⟩ | exact ⟨rfl, _, Eq.trans (World.drewN_drewN _ _ _) (congrArg (World.drewN _) (Nat.add_assoc _ _ _))⟩); have p278 : 0 ≤ (x7_1 : Int) := of_decide_eq_true (by first | (with_reducible assumption) | assumption); have q278 : x7_1 < (l0.length : Int) := of_decide_eq_true (by first | (with_reducible assumption) | assumption); obtain ⟨ad278, e278, hx278_0, hx278_1, hx278_2⟩ := at_T105 HR0.out x7_1 p278 q278; cases e278; replace hx278_0 := bcellD HB hx278_0; replace hx278_1 := bcellD HB hx278_1; replace hx278_2 := bcellD HB hx278_2; replace p278 := eq_true p278; replace q278 := eq_true q278; have p279 : 0 ≤ (t276 : Int) := of_decide_eq_true (by first | (with_reducible assumption) | assumption); have q279 : t276 < (l0.length : Int) := of_decide_eq_true (by first | (with_reducible assumption) | assumption); obtain ⟨ad279, e279, hx279_0, hx279_1, hx279_2⟩ := at_T105 HR0.out t276 p279 q279; obtain rfl : ad278 = ad279 := (by injection e279); replace hx279_0 := bcellD HB hx279_0; replace hx279_1 := bcellD HB hx279_1; replace hx279_2 := bcellD HB hx279_2; replace p279 := eq_true p279; replace q279 := eq_true q279))
          repeat (go_quiet (first | (go_at_call 77; (with_reducible refine (spec_l2End.calls k1 _ _ l0 t276 t277 _ ?side1 ?side2 A9.out).mono ?_); (case side1 => exact CA (Kd.C_below HR0.out HB.out)); (case side2 => exact HC0.out); rintro e w' ⟨rfl, ⟨nd, rfl⟩⟩; (try first | exact ⟨rfl, _, World.drewN_drewN _ _ _⟩ | exact ⟨rfl, _, Eq.trans (World.drewN_drewN _ _ _) (congrArg (World.drewN _) (Nat.add_assoc _ _ _))⟩); have p278 : 0 ≤ (x7_1 : Int) := of_decide_eq_true (by first | (with_reducible assumption) | assumption); have q278 : x7_1 < (l0.length : Int) := of_decide_eq_true (by first | (with_reducible assumption) | assumption); obtain ⟨ad278, e278, hx278_0, hx278_1, hx278_2⟩ := at_T105 HR0.out x7_1 p278 q278; cases e278; replace hx278_0 := bcellD HB hx278_0; replace hx278_1 := bcellD HB hx278_1; replace hx278_2 := bcellD HB hx278_2; replace p278 := eq_true p278; replace q278 := eq_true q278; have p279 : 0 ≤ (t276 : Int) := of_decide_eq_true (by first | (with_reducible assumption) | assumption); have q279 : t276 < (l0.length : Int) := of_decide_eq_true (by first | (with_reducible assumption) | assumption); obtain ⟨ad279, e279, hx279_0, hx279_1, hx279_2⟩ := at_T105 HR0.out t276 p279 q279; obtain rfl : ad278 = ad279 := (by injection e279); replace hx279_0 := bcellD HB hx279_0; replace hx279_1 := bcellD HB hx279_1; replace hx279_2 := bcellD HB hx279_2; replace p279 := eq_true p279; replace q279 := eq_true q279)); try go_wp2_with (first | (go_at_call 77; (with_reducible refine (spec_l2End.calls k1 _ _ l0 t276 t277 _ ?side1 ?side2 A9.out).mono ?_); (case side1 => exact CA (Kd.C_below HR0.out HB.out)); (case side2 => exact HC0.out); rintro e w' ⟨rfl, ⟨nd, rfl⟩⟩; (try first | exact ⟨rfl, _, World.drewN_drewN _ _ _⟩ | exact ⟨rfl, _, Eq.trans (World.drewN_drewN _ _ _) (congrArg (World.drewN _) (Nat.add_assoc _ _ _))⟩); have p278 : 0 ≤ (x7_1 : Int) := of_decide_eq_true (by first | (with_reducible assumption) | assumption); have q278 : x7_1 < (l0.length : Int) := of_decide_eq_true (by first | (with_reducible assumption) | assumption); obtain ⟨ad278, e278, hx278_0, hx278_1, hx278_2⟩ := at_T105 HR0.out x7_1 p278 q278; cases e278; replace hx278_0 := bcellD HB hx278_0; replace hx278_1 := bcellD HB hx278_1; replace hx278_2 := bcellD HB hx278_2; replace p278 := eq_true p278; replace q278 := eq_true q278; have p279 : 0 ≤ (t276 : Int) := of_decide_eq_true (by first | (with_reducible assumption) | assumption); have q279 : t276 < (l0.length : Int) := of_decide_eq_true (by first | (with_reducible assumption) | assumption); obtain ⟨ad279, e279, hx279_0, hx279_1, hx279_2⟩ := at_T105 HR0.out t276 p279 q279; obtain rfl : ad278 = ad279 := (by injection e279); replace hx279_0 := bcellD HB hx279_0; replace hx279_1 := bcellD HB hx279_1; replace hx279_2 := bcellD HB hx279_2; replace p279 := eq_true p279; replace q279 := eq_true q279)))
          go_roundg k1
          case measure => have := HK1.out; omega
          case rel => exact ⟨(x5_1), (wrap64 (x7_1 + 1)), (by first | rfl | (simp; done) | (simp [*]; done)), H', ⟨by have := HK1.out; omega⟩, ⟨RA HO_5⟩, ⟨belowA⟩⟩
        ·rw [if_neg c14] at H
         exact absurd H (by simp)
       ·rw [if_neg c13] at H
        exact absurd H (by simp)
      ·rw [if_neg c12] at H
       exact absurd H (by simp)
     ·rw [if_neg c11] at H
      exact absurd H (by simp)
    ·rw [if_neg c10] at H
     have c10b0 : decide (x7_1 < t277) = false := decide_eq_false c10
     clear c10
     obtain rfl := Option.some.inj H
     go_wp2_with (first | (go_at_call 77; (with_reducible refine (spec_l2End.calls k1 _ _ l0 t276 t277 _ ?side1 ?side2 A9.out).mono ?_); (case side1 => exact CA (Kd.C_below HR0.out HB.out)); (case side2 => exact HC0.out); rintro e w' ⟨rfl, ⟨nd, rfl⟩⟩; (try first | exact ⟨rfl, _, World.drewN_drewN _ _ _⟩ | exact ⟨rfl, _, Eq.trans (World.drewN_drewN _ _ _) (congrArg (World.drewN _) (Nat.add_assoc _ _ _))⟩)))
     repeat (go_quiet (first | (go_at_call 77; (with_reducible refine (spec_l2End.calls k1 _ _ l0 t276 t277 _ ?side1 ?side2 A9.out).mono ?_); (case side1 => exact CA (Kd.C_below HR0.out HB.out)); (case side2 => exact HC0.out); rintro e w' ⟨rfl, ⟨nd, rfl⟩⟩; (try first | exact ⟨rfl, _, World.drewN_drewN _ _ _⟩ | exact ⟨rfl, _, Eq.trans (World.drewN_drewN _ _ _) (congrArg (World.drewN _) (Nat.add_assoc _ _ _))⟩))); try go_wp2_with (first | (go_at_call 77; (with_reducible refine (spec_l2End.calls k1 _ _ l0 t276 t277 _ ?side1 ?side2 A9.out).mono ?_); (case side1 => exact CA (Kd.C_below HR0.out HB.out)); (case side2 => exact HC0.out); rintro e w' ⟨rfl, ⟨nd, rfl⟩⟩; (try first | exact ⟨rfl, _, World.drewN_drewN _ _ _⟩ | exact ⟨rfl, _, Eq.trans (World.drewN_drewN _ _ _) (congrArg (World.drewN _) (Nat.add_assoc _ _ _))⟩))))
     go_ret
     exact ⟨_, endA, RA HO_5, belowA⟩
def spec_RowMade.f (a0 : Int) (a1 : Int) : Option (Int) := (spec_l6In.f a0 1 3).bind fun t284 => (if t284 = true then ((spec_l6In.f a1 1 6).bind fun t285 => (if t285 = true then (some (wrap64 ((wrap64 (10 * a0)) + a1))) else (some 0))) else (some 0))
set_option maxHeartbeats 8000000 in
set_option maxRecDepth 100000 in
theorem spec_RowMade.calls (a0 : Int) (a1 : Int) (r : Int) (w : World) (h : spec_RowMade.f a0 a1 = some r) :
  Calls Tryd.prog 73 #[.int .i64 a0, .int .i64 a1] w fun e w' => e = .returned (.int .i64 r) ∧ Drawn0 w w' := by
 have H : ((spec_l6In.f a0 1 3).bind fun t284 => (if t284 = true then ((spec_l6In.f a1 1 6).bind fun t285 => (if t285 = true then (some (wrap64 ((wrap64 (10 * a0)) + a1))) else (some 0))) else (some 0))) = some r := h
 clear h
 replace H := Option.bind_eq_some_iff.mp H
 obtain ⟨t284, A30, H⟩ := H
 (try dsimp only at H)
 have A3 := Aside0.mk A30
 clear A30
 by_cases c4 : t284 = true
 ·subst c4
  have H1 : ((spec_l6In.f a1 1 6).bind fun t285 => (if t285 = true then (some (wrap64 ((wrap64 (10 * a0)) + a1))) else (some 0))) = some r := by rw [if_pos rfl] at H; exact H
  clear H
  have H := H1
  clear H1
  replace H := Option.bind_eq_some_iff.mp H
  obtain ⟨t285, A50, H⟩ := H
  (try dsimp only at H)
  have A5 := Aside0.mk A50
  clear A50
  by_cases c6 : t285 = true
  ·subst c6
   have H1 : (some (wrap64 ((wrap64 (10 * a0)) + a1))) = some r := by rw [if_pos rfl] at H; exact H
   clear H
   have H := H1
   clear H1
   obtain rfl := Option.some.inj H
   go_enter Tryd.func73, Tryd.ntmps73
   go_wp2_with (first | ((with_reducible refine gate_callee (f := 43) rfl ?_); refine goesL_ (some 6) rfl rfl Tryd.func43 (by kernel_rfl) rfl #[.int .i64 a0, .int .i64 1, .int .i64 3] rfl argsA ?_; (with_reducible refine (spec_l6In.calls a0 1 3 true _ A3.out).mono ?_); rintro e w' ⟨rfl, ⟨nd, rfl⟩⟩; refine ⟨_, rfl, ?_⟩) | (go_at_call 43; (with_reducible refine (spec_l6In.calls a1 1 6 true _ A5.out).mono ?_); rintro e w' ⟨rfl, ⟨nd, rfl⟩⟩))
   go_ret
   exact ⟨by first | rfl | (simp; done) | (simp [*]; done), by repeat (first | exact Drawn0.refl _ | apply Drawn0.step)⟩
  ·replace c6 := Bool.eq_false_iff.mpr c6
   subst c6
   have H1 : (some 0) = some r := by rw [if_neg (show ¬ (false = true) by decide)] at H; exact H
   clear H
   have H := H1
   clear H1
   obtain rfl := Option.some.inj H
   go_enter Tryd.func73, Tryd.ntmps73
   go_wp2_with (first | ((with_reducible refine gate_callee (f := 43) rfl ?_); refine goesL_ (some 6) rfl rfl Tryd.func43 (by kernel_rfl) rfl #[.int .i64 a0, .int .i64 1, .int .i64 3] rfl argsA ?_; (with_reducible refine (spec_l6In.calls a0 1 3 true _ A3.out).mono ?_); rintro e w' ⟨rfl, ⟨nd, rfl⟩⟩; refine ⟨_, rfl, ?_⟩) | (go_at_call 43; (with_reducible refine (spec_l6In.calls a1 1 6 false _ A5.out).mono ?_); rintro e w' ⟨rfl, ⟨nd, rfl⟩⟩))
   go_ret
   exact ⟨by first | rfl | (simp; done) | (simp [*]; done), by repeat (first | exact Drawn0.refl _ | apply Drawn0.step)⟩
 ·replace c4 := Bool.eq_false_iff.mpr c4
  subst c4
  have H1 : (some 0) = some r := by rw [if_neg (show ¬ (false = true) by decide)] at H; exact H
  clear H
  have H := H1
  clear H1
  obtain rfl := Option.some.inj H
  go_enter Tryd.func73, Tryd.ntmps73
  go_wp2_with (first | ((with_reducible refine gate_callee (f := 43) rfl ?_); refine goesL_ (some 6) rfl rfl Tryd.func43 (by kernel_rfl) rfl #[.int .i64 a0, .int .i64 1, .int .i64 3] rfl argsA ?_; (with_reducible refine (spec_l6In.calls a0 1 3 false _ A3.out).mono ?_); rintro e w' ⟨rfl, ⟨nd, rfl⟩⟩; refine ⟨_, rfl, ?_⟩))
  go_ret
  exact ⟨by first | rfl | (simp; done) | (simp [*]; done), by repeat (first | exact Drawn0.refl _ | apply Drawn0.step)⟩
end Go.Proofs.YtlpfjabfhgfpmaaDoor.P
