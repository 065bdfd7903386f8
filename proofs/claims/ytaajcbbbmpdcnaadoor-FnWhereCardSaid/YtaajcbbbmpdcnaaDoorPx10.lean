
-- Written by wip/tools/pprint.py (a program of this session) over the kit's printer; not trusted: Lean checks it.
import Derived.Test.YtaajcbbbmpdcnaaDoorPx0
import Derived.Test.YtaajcbbbmpdcnaaDoorPx1
import Derived.Test.YtaajcbbbmpdcnaaDoorPx3
import Derived.Test.YtaajcbbbmpdcnaaDoorPx4
import Derived.Test.YtaajcbbbmpdcnaaDoorPx5
import Derived.Test.YtaajcbbbmpdcnaaDoorPx8
import Derived.Test.YtaajcbbbmpdcnaaDoorPx9
import Derived.Test.YtaajcbbbmpdcnaaDoorV
namespace Go.Proofs.YtaajcbbbmpdcnaaDoor.P
open Go.RowKit Go.Proofs.YtaajcbbbmpdcnaaDoorW.PrintWords Go.Proofs.YtaajcbbbmpdcnaaDoorW.PrintLast Go.Proofs.YtaajcbbbmpdcnaaDoorW.PrintMore
attribute [local go_sem] cell_set_set cell_set_far_set max2_int min2_int max_two min_two max_three min_three max_four min_four   -- for this text's walks alone
set_option linter.unusedVariables false
set_option linter.unusedSimpArgs false
mutual
def spec_l71Fits.j0 : Nat → List (S47) → Int → Bool → List Int → Int → Int → Int → Int → Int → ByteArray → Option ((List (S47)) × Int × Int × Int × Int × ByteArray × Int)
 | 0, _, _, _, _, _, _, _, _, _, _ => none
 | k + 1, x4, x5, x26, x1000, x1001, x409000, x409001, x409002, x409003, x409004 => if x26 = true then (spec_l71Fits.j1 k x4 x1000 x1001 x409000 x5 x409002 x409003 x409004) else (spec_l71Fits.j1 k x4 x1000 x1001 x409000 x409001 x409002 x409003 x409004)
def spec_l71Fits.j1 : Nat → List (S47) → List Int → Int → Int → Int → Int → Int → ByteArray → Option ((List (S47)) × Int × Int × Int × Int × ByteArray × Int)
 | 0, _, _, _, _, _, _, _, _ => none
 | k + 1, x4, x1000, x1001, x409000, x409001, x409002, x409003, x409004 => (spec_l6Rd_pick.f k x1000 x1001 3).bind fun bt412 => (if bt412.1 = 0 then (if x409000 = 3 then (spec_l71Fits.j2 k x4 true x1000 bt412.2 x409000 x409001 x409002 x409003 x409004) else (spec_l71Fits.j2 k x4 (x409000 == 1) x1000 bt412.2 x409000 x409001 x409002 x409003 x409004)) else (spec_l71Fits.j2 k x4 false x1000 bt412.2 x409000 x409001 x409002 x409003 x409004))
def spec_l71Fits.j2 : Nat → List (S47) → Bool → List Int → Int → Int → Int → Int → Int → ByteArray → Option ((List (S47)) × Int × Int × Int × Int × ByteArray × Int)
 | 0, _, _, _, _, _, _, _, _, _ => none
 | k + 1, x4, x41, x1000, x1001, x409000, x409001, x409002, x409003, x409004 => if x41 = true then ((spec_l6Rd_pick.f k x1000 x1001 (x4.length : Int)).bind fun bt414 => (if 0 ≤ bt414.1 then (if bt414.1 < (x4.length : Int) then ((spec_l2Kids.f k x4 ((rd_T47 x4 bt414.1).f0)).bind fun t417 => (if (t417.length : Int) > 0 then ((spec_l6Rd_pick.f k x1000 bt414.2 (t417.length : Int)).bind fun bt420 => (if 0 ≤ bt420.1 then (if bt420.1 < (t417.length : Int) then (some (x4, x409000, x409001, (rd_T47 x4 bt414.1).f0, rd t417 bt420.1, x409004, bt420.2)) else (none)) else (none))) else (some (x4, x409000, x409001, (rd_T47 x4 bt414.1).f0, x409003, x409004, bt414.2)))) else (none)) else (none))) else (some (x4, x409000, x409001, x409002, x409003, x409004, x1001))
end
def spec_l71Fits.f (k : Nat) (s0_0 : List Int) (s0_1 : Int) : Option ((List (S47)) × Int × Int × Int × Int × ByteArray × Int) := (spec_l71Row.f k s0_0 s0_1).bind fun bt397 => ((spec_l71Op.f k s0_0 bt397.2.2).bind fun bt402 => ((spec_l6Rd_pick.f k s0_0 bt402.2.2.2.2.2 5).bind fun bt409 => (if bt409.1 > 0 then (if bt402.1 = 1 then (spec_l71Fits.j0 k bt397.1 bt397.2.1 false s0_0 bt409.2 bt402.1 bt402.2.1 bt402.2.2.1 bt402.2.2.2.1 bt402.2.2.2.2.1) else ((spec_l1Made.f bt397.2.1).bind fun t411 => (spec_l71Fits.j0 k bt397.1 bt397.2.1 t411 s0_0 bt409.2 bt402.1 bt402.2.1 bt402.2.2.1 bt402.2.2.2.1 bt402.2.2.2.2.1))) else (spec_l71Fits.j0 k bt397.1 bt397.2.1 false s0_0 bt409.2 bt402.1 bt402.2.1 bt402.2.2.1 bt402.2.2.2.1 bt402.2.2.2.2.1))))
theorem spec_l71Fits.mono_l : ∀ k, (∀ y0 y1 y2 y3 y4 y5 y6 y7 y8 y9, LeO (spec_l71Fits.j0 k y0 y1 y2 y3 y4 y5 y6 y7 y8 y9) (spec_l71Fits.j0 (k + 1) y0 y1 y2 y3 y4 y5 y6 y7 y8 y9)) ∧ (∀ y0 y1 y2 y3 y4 y5 y6 y7, LeO (spec_l71Fits.j1 k y0 y1 y2 y3 y4 y5 y6 y7) (spec_l71Fits.j1 (k + 1) y0 y1 y2 y3 y4 y5 y6 y7)) ∧ (∀ y0 y1 y2 y3 y4 y5 y6 y7 y8, LeO (spec_l71Fits.j2 k y0 y1 y2 y3 y4 y5 y6 y7 y8) (spec_l71Fits.j2 (k + 1) y0 y1 y2 y3 y4 y5 y6 y7 y8))
 | 0 => ⟨fun _ _ _ _ _ _ _ _ _ _ r h => by simp [spec_l71Fits.j0] at h, fun _ _ _ _ _ _ _ _ r h => by simp [spec_l71Fits.j1] at h, fun _ _ _ _ _ _ _ _ _ r h => by simp [spec_l71Fits.j2] at h⟩
 | k + 1 => by
  obtain ⟨ih0, ih1, ih2⟩ := spec_l71Fits.mono_l k
  refine ⟨?_, ?_, ?_⟩
  ·intro y0 y1 y2 y3 y4 y5 y6 y7 y8 y9
   unfold spec_l71Fits.j0
   repeat' first
   | (with_reducible exact ih0 _ _ _ _ _ _ _ _ _ _)
   | (with_reducible exact ih1 _ _ _ _ _ _ _ _)
   | (with_reducible exact ih2 _ _ _ _ _ _ _ _ _)
   | (with_reducible exact spec_l2Kids.mono _ _ _)
   | (with_reducible exact spec_l6Rd_pick.mono _ _ _ _)
   | (with_reducible exact spec_l71Op.mono _ _ _)
   | (with_reducible exact spec_l71Row.mono _ _ _)
   | (with_reducible exact LeO.refl _)
   | (with_reducible exact LeO.none _)
   | (with_reducible refine LeO.ite ?_ ?_)
   | (with_reducible refine LeO.bind ?_ (fun _ => ?_))
   | exact ih0 _ _ _ _ _ _ _ _ _ _
   | exact ih1 _ _ _ _ _ _ _ _
   | exact ih2 _ _ _ _ _ _ _ _ _
   | exact spec_l2Kids.mono _ _ _
   | exact spec_l6Rd_pick.mono _ _ _ _
   | exact spec_l71Op.mono _ _ _
   | exact spec_l71Row.mono _ _ _
   | exact LeO.none _
   | refine LeO.ite ?_ ?_
   | refine LeO.bind ?_ (fun _ => ?_)
  ·intro y0 y1 y2 y3 y4 y5 y6 y7
   unfold spec_l71Fits.j1
   repeat' first
   | (with_reducible exact ih0 _ _ _ _ _ _ _ _ _ _)
   | (with_reducible exact ih1 _ _ _ _ _ _ _ _)
   | (with_reducible exact ih2 _ _ _ _ _ _ _ _ _)
   | (with_reducible exact spec_l2Kids.mono _ _ _)
   | (with_reducible exact spec_l6Rd_pick.mono _ _ _ _)
   | (with_reducible exact spec_l71Op.mono _ _ _)
   | (with_reducible exact spec_l71Row.mono _ _ _)
   | (with_reducible exact LeO.refl _)
   | (with_reducible exact LeO.none _)
   | (with_reducible refine LeO.ite ?_ ?_)
   | (with_reducible refine LeO.bind ?_ (fun _ => ?_))
   | exact ih0 _ _ _ _ _ _ _ _ _ _
   | exact ih1 _ _ _ _ _ _ _ _
   | exact ih2 _ _ _ _ _ _ _ _ _
   | exact spec_l2Kids.mono _ _ _
   | exact spec_l6Rd_pick.mono _ _ _ _
   | exact spec_l71Op.mono _ _ _
   | exact spec_l71Row.mono _ _ _
   | exact LeO.none _
   | refine LeO.ite ?_ ?_
   | refine LeO.bind ?_ (fun _ => ?_)
  ·intro y0 y1 y2 y3 y4 y5 y6 y7 y8
   unfold spec_l71Fits.j2
   repeat' first
   | (with_reducible exact ih0 _ _ _ _ _ _ _ _ _ _)
   | (with_reducible exact ih1 _ _ _ _ _ _ _ _)
   | (with_reducible exact ih2 _ _ _ _ _ _ _ _ _)
   | (with_reducible exact spec_l2Kids.mono _ _ _)
   | (with_reducible exact spec_l6Rd_pick.mono _ _ _ _)
   | (with_reducible exact spec_l71Op.mono _ _ _)
   | (with_reducible exact spec_l71Row.mono _ _ _)
   | (with_reducible exact LeO.refl _)
   | (with_reducible exact LeO.none _)
   | (with_reducible refine LeO.ite ?_ ?_)
   | (with_reducible refine LeO.bind ?_ (fun _ => ?_))
   | exact ih0 _ _ _ _ _ _ _ _ _ _
   | exact ih1 _ _ _ _ _ _ _ _
   | exact ih2 _ _ _ _ _ _ _ _ _
   | exact spec_l2Kids.mono _ _ _
   | exact spec_l6Rd_pick.mono _ _ _ _
   | exact spec_l71Op.mono _ _ _
   | exact spec_l71Row.mono _ _ _
   | exact LeO.none _
   | refine LeO.ite ?_ ?_
   | refine LeO.bind ?_ (fun _ => ?_)
theorem spec_l71Fits.mono : ∀ a0 a1 k, LeO (spec_l71Fits.f k a0 a1) (spec_l71Fits.f (k + 1) a0 a1) := by
 intro a0 a1 k
 obtain ⟨ih0, ih1, ih2⟩ := spec_l71Fits.mono_l k
 unfold spec_l71Fits.f
 repeat' first
   | (with_reducible exact ih0 _ _ _ _ _ _ _ _ _ _)
   | (with_reducible exact ih1 _ _ _ _ _ _ _ _)
   | (with_reducible exact ih2 _ _ _ _ _ _ _ _ _)
   | (with_reducible exact spec_l2Kids.mono _ _ _)
   | (with_reducible exact spec_l6Rd_pick.mono _ _ _ _)
   | (with_reducible exact spec_l71Op.mono _ _ _)
   | (with_reducible exact spec_l71Row.mono _ _ _)
   | (with_reducible exact LeO.refl _)
   | (with_reducible exact LeO.none _)
   | (with_reducible refine LeO.ite ?_ ?_)
   | (with_reducible refine LeO.bind ?_ (fun _ => ?_))
   | exact ih0 _ _ _ _ _ _ _ _ _ _
   | exact ih1 _ _ _ _ _ _ _ _
   | exact ih2 _ _ _ _ _ _ _ _ _
   | exact spec_l2Kids.mono _ _ _
   | exact spec_l6Rd_pick.mono _ _ _ _
   | exact spec_l71Op.mono _ _ _
   | exact spec_l71Row.mono _ _ _
   | exact LeO.none _
   | refine LeO.ite ?_ ?_
   | refine LeO.bind ?_ (fun _ => ?_)
set_option maxHeartbeats 8000000 in
set_option maxRecDepth 100000 in
theorem spec_l71Fits.calls (k : Nat) (g : Nat) (s0_0 : List Int) (s0_1 : Int) (r1 : List (S47)) (r2 : Int) (r3 : Int) (r4 : Int) (r5 : Int) (r6 : ByteArray) (r7 : Int) (w0 w : World) (hI : IsS113 w0 w g s0_0 s0_1) (hB : Below w0.heap.size w0 w) (h : spec_l71Fits.f k s0_0 s0_1 = some (r1, r2, r3, r4, r5, r6, r7)) :
  Calls Tryd.prog 90 #[.pointer (some ⟨g, 0, none⟩)] w fun e w' => ∃ v0_ : Value, e = .returned (.tuple #[v0_, .agg #[.int .i64 r2, .int .i64 r3, .int .i64 r4, .int .i64 r5, .string r6]]) ∧ Kd.Q k47 47 w' w.heap.size (fun _ => True) v0_ r1 ∧ IsS113 w0 w' g s0_0 r7 ∧ Below w0.heap.size w0 w' ∧ KeepBut w w' g none := by
 have hu40 := Tryd.underlying40
 have HI0 := Aside0.mk hI
 have HK := Aside0.mk (KeepBut.refl w g none)
 have HL := Aside0.mk hB.size
 clear hI
 have HW0 := Aside0.mk hB.size
 have HB := Aside0.mk hB
 clear hB
 have H : ((spec_l71Row.f k s0_0 s0_1).bind fun bt397 => ((spec_l71Op.f k s0_0 bt397.2.2).bind fun bt402 => ((spec_l6Rd_pick.f k s0_0 bt402.2.2.2.2.2 5).bind fun bt409 => (if bt409.1 > 0 then (if bt402.1 = 1 then (spec_l71Fits.j0 k bt397.1 bt397.2.1 false s0_0 bt409.2 bt402.1 bt402.2.1 bt402.2.2.1 bt402.2.2.2.1 bt402.2.2.2.2.1) else ((spec_l1Made.f bt397.2.1).bind fun t411 => (spec_l71Fits.j0 k bt397.1 bt397.2.1 t411 s0_0 bt409.2 bt402.1 bt402.2.1 bt402.2.2.1 bt402.2.2.2.1 bt402.2.2.2.2.1))) else (spec_l71Fits.j0 k bt397.1 bt397.2.1 false s0_0 bt409.2 bt402.1 bt402.2.1 bt402.2.2.1 bt402.2.2.2.1 bt402.2.2.2.2.1))))) = some (r1, r2, r3, r4, r5, r6, r7) := h
 clear h
 replace H := Option.bind_eq_some_iff.mp H
 obtain ⟨⟨t397, t400, t401⟩, A20, H⟩ := H
 (try dsimp only at H)
 have A2 := Aside0.mk A20
 clear A20
 replace H := Option.bind_eq_some_iff.mp H
 obtain ⟨⟨t402, t403, t404, t405, t406, t407⟩, A30, H⟩ := H
 (try dsimp only at H)
 have A3 := Aside0.mk A30
 clear A30
 have HC4 := Aside0.mk H
 clear H
 go_enter Tryd.func90, Tryd.ntmps90
 go_upto_region 3 with (first | ((with_reducible refine gate_dst (N := 3) rfl ?_); refine box_event ?hg (N := 3) ?hd (cs := #[.int .i64 0, .int .i64 0, .int .i64 0, .int .i64 0, .string (⟨#[]⟩ : ByteArray)]) (t := 40) ?hr ?_; (case hd => rfl); (case hg => rfl); (case hr => first | (go_simp; done) | (go_simp; rfl)); intro gb396 hg w5 hbox hb; have n0_ := Aside0.mk (IsS113.below stA hb); have n1_ := Aside0.mk (KeepBut.trans keepA (KeepBut.of_below hb g none) (.inl rfl)); have n2_ := Aside0.mk (below_step belowA hb); have n3_ := Aside0.mk (hbox); have n4_ := Aside0.mk ((by rw [hg]; exact (keep_size (w := w) (g := g) (row := none) keepA) : w.heap.size ≤ gb396)); have n5_ := Aside0.mk ((Nat.le_trans HW0.out (by rw [hg]; exact (keep_size (w := w) (g := g) (row := none) keepA) : w.heap.size ≤ gb396) : w0.heap.size ≤ gb396)); have n6_ := Aside0.mk ((by rw [hg]; exact Nat.ne_of_lt (IsS113.lt (show IsS113 w0 _ g s0_0 s0_1 from stA)) : g ≠ gb396)); have n7_ := Aside0.mk ((by rw [hg]; exact Nat.ne_of_gt (IsS113.lt (show IsS113 w0 _ g s0_0 s0_1 from stA)) : gb396 ≠ g)); clear HI0; clear HK; clear HB; have HI0 := n0_; have HK := n1_; have HB := n2_; have BK396 := n3_; have GW396 := n4_; have GE396 := n5_; have NB0_396 := n6_; have NB396_0 := n7_; clear n0_ n1_ n2_ n3_ n4_ n5_ n6_ n7_; clear hb hbox hg) | ((with_reducible refine gate_callee (f := 85) rfl ?_); refine goesL_ (some 10) rfl rfl Tryd.func85 (by kernel_rfl) rfl #[.pointer (some ⟨g, 0, none⟩)] rfl argsA ?_; (with_reducible refine (spec_l71Row.calls k g s0_0 s0_1 t397 t400 t401 w0 _ ?side1 ?side2 A2.out).mono ?_); (case side1 => exact stA); (case side2 => exact belowA); rintro e w6 ⟨v398, rfl, ho0, hi, hb, hk⟩; refine ⟨_, rfl, ?_⟩; have n0_ := Aside0.mk (KeepBut.blk hk (g' := gb396) (o := .cells #[.int .i64 0, .int .i64 0, .int .i64 0, .int .i64 0, .string (⟨#[]⟩ : ByteArray)] 40 (0, 0)) blkA NB396_0.out (by simp)); have n1_ := Aside0.mk (Kd.Q_lower ho0 (keep_size (w := w) (g := g) (row := none) keepA)); have n2_ := Aside0.mk (KeepBut.trans keepA hk (.inl rfl)); have n3_ := Aside0.mk (hb); have n4_ := Aside0.mk (hi); clear BK396; clear HK; clear HB; clear HI0; have BK396 := n0_; have HO399 := n1_; have HK := n2_; have HB := n3_; have HI0 := n4_; clear n0_ n1_ n2_ n3_ n4_; (try clear hb); (try clear hb2); (try clear hk); (try clear hi); (try clear ho0)) | ((with_reducible refine gate_callee (f := 107) rfl ?_); refine goesL_ (some 14) rfl rfl Tryd.func107 (by kernel_rfl) rfl #[.pointer (some ⟨g, 0, none⟩)] rfl argsA ?_; (with_reducible refine (spec_l71Op.calls k g s0_0 t401 t402 t403 t404 t405 t406 t407 w0 _ ?side1 ?side2 A3.out).mono ?_); (case side1 => exact stA); (case side2 => exact belowA); rintro e w7 ⟨rfl, hi, hb, hk⟩; refine ⟨_, rfl, ?_⟩; have n0_ := Aside0.mk (KeepBut.blk hk (g' := gb396) (o := .cells #[.int .i64 0, .int .i64 0, .int .i64 0, .int .i64 0, .string (⟨#[]⟩ : ByteArray)] 40 (0, 0)) blkA NB396_0.out (by simp)); have n1_ := Aside0.mk (Kd.Q_mono (Kd.Q_keep (IsS113.apartQ (show IsS113 w0 _ g s0_0 t401 from stA) (by (with_reducible repeat (first | apply Kd.Q_alloc | apply Kd.Q_drewN | apply Kd.Q_drew)); exact HO399.out) (by decide)) hk (fun _ h => h.2)) (fun _ h => h.1)); have n2_ := Aside0.mk (KeepBut.trans keepA hk (.inl rfl)); have n3_ := Aside0.mk (hb); have n4_ := Aside0.mk (hi); clear BK396; clear HO399; clear HK; clear HB; clear HI0; have BK396 := n0_; have HO399 := n1_; have HK := n2_; have HB := n3_; have HI0 := n4_; clear n0_ n1_ n2_ n3_ n4_; (try clear hb); (try clear hb2); (try clear hk); (try clear hi)) | ((with_reducible refine gate_dst (N := 6) rfl ?_); refine box_event ?hg (N := 6) ?hd (cs := #[.int .i64 0, .int .i64 0, .int .i64 0, .int .i64 0, .string (⟨#[]⟩ : ByteArray)]) (t := 40) ?hr ?_; (case hd => rfl); (case hg => rfl); (case hr => first | (go_simp; done) | (go_simp; rfl)); intro gb408 hg w8 hbox hb; have n0_ := Aside0.mk (Kd.Q_below (by (with_reducible repeat (first | apply Kd.Q_alloc | apply Kd.Q_drewN | apply Kd.Q_drew)); exact HO399.out) hb); have n1_ := Aside0.mk (IsS113.below stA hb); have n2_ := Aside0.mk (blk_below (g := gb396) (o := .cells #[.int .i64 0, .int .i64 0, .int .i64 0, .int .i64 0, .string (⟨#[]⟩ : ByteArray)] 40 (0, 0)) blkA hb); have n3_ := Aside0.mk (KeepBut.trans keepA (KeepBut.of_below hb g none) (.inl rfl)); have n4_ := Aside0.mk (below_step belowA hb); have n5_ := Aside0.mk (hbox); have n6_ := Aside0.mk ((by rw [hg]; exact (keep_size (w := w) (g := g) (row := none) keepA) : w.heap.size ≤ gb408)); have n7_ := Aside0.mk ((Nat.le_trans HW0.out (by rw [hg]; exact (keep_size (w := w) (g := g) (row := none) keepA) : w.heap.size ≤ gb408) : w0.heap.size ≤ gb408)); have n8_ := Aside0.mk ((by rw [hg]; exact Nat.ne_of_lt (blk_lt (g := gb396) (o := .cells #[.int .i64 0, .int .i64 0, .int .i64 0, .int .i64 0, .string (⟨#[]⟩ : ByteArray)] 40 (0, 0)) blkA) : gb396 ≠ gb408)); have n9_ := Aside0.mk ((by rw [hg]; exact Nat.ne_of_gt (blk_lt (g := gb396) (o := .cells #[.int .i64 0, .int .i64 0, .int .i64 0, .int .i64 0, .string (⟨#[]⟩ : ByteArray)] 40 (0, 0)) blkA) : gb408 ≠ gb396)); have n10_ := Aside0.mk ((by rw [hg]; exact Nat.ne_of_lt (IsS113.lt (show IsS113 w0 _ g s0_0 t407 from stA)) : g ≠ gb408)); have n11_ := Aside0.mk ((by rw [hg]; exact Nat.ne_of_gt (IsS113.lt (show IsS113 w0 _ g s0_0 t407 from stA)) : gb408 ≠ g)); clear HO399; clear HI0; clear BK396; clear HK; clear HB; have HO399 := n0_; have HI0 := n1_; have BK396 := n2_; have HK := n3_; have HB := n4_; have BK408 := n5_; have GW408 := n6_; have GE408 := n7_; have NB396_408 := n8_; have NB408_396 := n9_; have NB0_408 := n10_; have NB408_0 := n11_; clear n0_ n1_ n2_ n3_ n4_ n5_ n6_ n7_ n8_ n9_ n10_ n11_; clear hb hbox hg; have hnb9 := NB408_396.out; have hnc9 := NB396_408.out; have hnb10 := NB408_0.out; have hnc10 := NB0_408.out; obtain ⟨hcz11_0, hcz11_1, hcz11_2, hcz11_3, hcz11_4, hfz11_0, hfz11_1, hfz11_2, hfz11_3, hfz11_4⟩ := blk_facts5 BK408.out))
 (try simp only [Act.put, List.setIfInBounds_toArray, List.set_cons_zero, List.set_cons_succ])
 go_cut [26] (fun v26 wc => ∃ (kq : Nat) (x26_3 : Bool) (x1001_3 : Int), v26 = .bool x26_3 ∧ Aside0 (spec_l71Fits.j0 kq t397 t400 x26_3 s0_0 x1001_3 t402 t403 t404 t405 t406 = some (r1, r2, r3, r4, r5, r6, r7)) ∧ Aside0 (kq ≤ k) ∧ Aside0 (Kd.Q k47 47 wc w.heap.size (fun _ => True) v398 t397) ∧ Aside0 (wc.heap[gb396]? = some (.cells #[.int .i64 0, .int .i64 0, .int .i64 0, .int .i64 0, .string (⟨#[]⟩ : ByteArray)] 40 (0, 0))) ∧ Aside0 (wc.heap[gb408]? = some (.cells #[.int .i64 t402, .int .i64 t403, .int .i64 t404, .int .i64 t405, .string t406] 40 (0, 0))) ∧ Aside0 (IsS113 w0 wc g s0_0 x1001_3) ∧ Aside0 (KeepBut w wc g none) ∧ Aside0 (Below w0.heap.size w0 wc))
 case first =>
  have H := HC4.out
  clear HC4
  replace H := Option.bind_eq_some_iff.mp H
  obtain ⟨⟨t409, t410⟩, A120, H⟩ := H
  (try dsimp only at H)
  have A12 := Aside0.mk A120
  clear A120
  by_cases c13 : t409 > 0
  ·rw [if_pos c13] at H
   have c13b0 : decide (0 < t409) = true := decide_eq_true c13
   clear c13
   (first | rw [c13b0] | (simp only [i64_w, i32_w]; rw [c13b0]) | skip)
   by_cases c14 : t402 = 1
   ·rw [if_pos c14] at H
    have c14b0 : (t402 == 1) = true := beq_iff_eq.mpr c14
    have c14b1 : (t402 != 1) = false := bne_eq_false_iff_eq.mpr c14
    clear c14
    have H' := Aside0.mk H
    clear H
    go_wp2_with (first | ((with_reducible refine gate_callee (f := 84) rfl ?_); refine goesL_ (some 16) rfl rfl Tryd.func84 (by kernel_rfl) rfl #[.pointer (some ⟨g, 0, none⟩), .int .i64 5] rfl argsA ?_; (with_reducible refine (spec_l6Rd_pick.calls k g s0_0 t407 5 t409 t410 w0 _ ?side1 ?side2 A12.out).mono ?_); (case side1 => exact stA); (case side2 => exact belowA); rintro e w15 ⟨rfl, hi, hb, hk⟩; refine ⟨_, rfl, ?_⟩; have n0_ := Aside0.mk (KeepBut.blk hk (g' := gb396) (o := .cells #[.int .i64 0, .int .i64 0, .int .i64 0, .int .i64 0, .string (⟨#[]⟩ : ByteArray)] 40 (0, 0)) blkA NB396_0.out (by simp)); have n1_ := Aside0.mk (Kd.Q_mono (Kd.Q_keep (IsS113.apartQ (show IsS113 w0 _ g s0_0 t407 from stA) (by (with_reducible repeat (first | apply Kd.Q_alloc | apply Kd.Q_drewN | apply Kd.Q_drew)); exact (Kd.Q_mono (Kd.Q_far (p := ⟨gb408, 4, none⟩) (Kd.Q_far (p := ⟨gb408, 3, none⟩) (Kd.Q_far (p := ⟨gb408, 2, none⟩) (Kd.Q_far (p := ⟨gb408, 1, none⟩) (Kd.Q_far (p := ⟨gb408, 0, none⟩) (Kd.Q_types HO399.out BK408.out (by decide)) (fun _ hk => hk.2) (.int .i64 t402)) (fun _ hk => hk.2) (.int .i64 t403)) (fun _ hk => hk.2) (.int .i64 t404)) (fun _ hk => hk.2) (.int .i64 t405)) (fun _ hk => hk.2) (.string t406)) (fun _ h_ => h_.1))) (by decide)) hk (fun _ h => h.2)) (fun _ h => h.1)); have n2_ := Aside0.mk (KeepBut.blk hk (g' := gb408) (o := .cells #[.int .i64 t402, .int .i64 t403, .int .i64 t404, .int .i64 t405, .string t406] 40 (0, 0)) (blk_put (blk_put (blk_put (blk_put (blk_put (blkC #[.int .i64 0, .int .i64 0, .int .i64 0, .int .i64 0, .string (⟨#[]⟩ : ByteArray)]) 0 _ rfl) 1 _ rfl) 2 _ rfl) 3 _ rfl) 4 _ rfl) NB408_0.out (by simp)); have n3_ := Aside0.mk (KeepBut.trans keepA hk (.inl rfl)); have n4_ := Aside0.mk (hb); have n5_ := Aside0.mk (hi); clear BK396; clear HO399; clear BK408; clear HK; clear HB; clear HI0; have BK396 := n0_; have HO399 := n1_; have BK408 := n2_; have HK := n3_; have HB := n4_; have HI0 := n5_; clear n0_ n1_ n2_ n3_ n4_ n5_; (try clear hb); (try clear hb2); (try clear hk); (try clear hi); have hnb16 := NB408_396.out; have hnc16 := NB396_408.out; have hnb17 := NB408_0.out; have hnc17 := NB0_408.out; obtain ⟨hcz18_0, hcz18_1, hcz18_2, hcz18_3, hcz18_4, hfz18_0, hfz18_1, hfz18_2, hfz18_3, hfz18_4⟩ := blk_facts5 BK408.out))
    go_meet
    case rel => exact ⟨_, (false), (t410), (by first | rfl | (simp; done) | (simp [*]; done)), H', ⟨by first | omega | exact Nat.le_refl _⟩, ⟨by (with_reducible repeat (first | apply Kd.Q_alloc | apply Kd.Q_drewN | apply Kd.Q_drew)); exact HO399.out⟩, ⟨by (with_reducible repeat (first | refine blk_drewN ?_ _ | refine blk_drew ?_ | refine blk_alloc ?_ _)); exact BK396.out⟩, ⟨by (with_reducible repeat (first | refine blk_drewN ?_ _ | refine blk_drew ?_ | refine blk_alloc ?_ _)); exact BK408.out⟩, ⟨stA⟩, ⟨keepA⟩, ⟨belowA⟩⟩
   ·rw [if_neg c14] at H
    have c14b0 : (t402 == 1) = false := beq_eq_false_iff_ne.mpr c14
    have c14b1 : (t402 != 1) = true := bne_iff_ne.mpr c14
    replace H := Option.bind_eq_some_iff.mp H
    obtain ⟨t411, A190, H⟩ := H
    (try dsimp only at H)
    have A19 := Aside0.mk A190
    clear A190
    have H' := Aside0.mk H
    clear H
    go_wp2_with (first | ((with_reducible refine gate_callee (f := 84) rfl ?_); refine goesL_ (some 16) rfl rfl Tryd.func84 (by kernel_rfl) rfl #[.pointer (some ⟨g, 0, none⟩), .int .i64 5] rfl argsA ?_; (with_reducible refine (spec_l6Rd_pick.calls k g s0_0 t407 5 t409 t410 w0 _ ?side1 ?side2 A12.out).mono ?_); (case side1 => exact stA); (case side2 => exact belowA); rintro e w20 ⟨rfl, hi, hb, hk⟩; refine ⟨_, rfl, ?_⟩; have n0_ := Aside0.mk (KeepBut.blk hk (g' := gb396) (o := .cells #[.int .i64 0, .int .i64 0, .int .i64 0, .int .i64 0, .string (⟨#[]⟩ : ByteArray)] 40 (0, 0)) blkA NB396_0.out (by simp)); have n1_ := Aside0.mk (Kd.Q_mono (Kd.Q_keep (IsS113.apartQ (show IsS113 w0 _ g s0_0 t407 from stA) (by (with_reducible repeat (first | apply Kd.Q_alloc | apply Kd.Q_drewN | apply Kd.Q_drew)); exact (Kd.Q_mono (Kd.Q_far (p := ⟨gb408, 4, none⟩) (Kd.Q_far (p := ⟨gb408, 3, none⟩) (Kd.Q_far (p := ⟨gb408, 2, none⟩) (Kd.Q_far (p := ⟨gb408, 1, none⟩) (Kd.Q_far (p := ⟨gb408, 0, none⟩) (Kd.Q_types HO399.out BK408.out (by decide)) (fun _ hk => hk.2) (.int .i64 t402)) (fun _ hk => hk.2) (.int .i64 t403)) (fun _ hk => hk.2) (.int .i64 t404)) (fun _ hk => hk.2) (.int .i64 t405)) (fun _ hk => hk.2) (.string t406)) (fun _ h_ => h_.1))) (by decide)) hk (fun _ h => h.2)) (fun _ h => h.1)); have n2_ := Aside0.mk (KeepBut.blk hk (g' := gb408) (o := .cells #[.int .i64 t402, .int .i64 t403, .int .i64 t404, .int .i64 t405, .string t406] 40 (0, 0)) (blk_put (blk_put (blk_put (blk_put (blk_put (blkC #[.int .i64 0, .int .i64 0, .int .i64 0, .int .i64 0, .string (⟨#[]⟩ : ByteArray)]) 0 _ rfl) 1 _ rfl) 2 _ rfl) 3 _ rfl) 4 _ rfl) NB408_0.out (by simp)); have n3_ := Aside0.mk (KeepBut.trans keepA hk (.inl rfl)); have n4_ := Aside0.mk (hb); have n5_ := Aside0.mk (hi); clear BK396; clear HO399; clear BK408; clear HK; clear HB; clear HI0; have BK396 := n0_; have HO399 := n1_; have BK408 := n2_; have HK := n3_; have HB := n4_; have HI0 := n5_; clear n0_ n1_ n2_ n3_ n4_ n5_; (try clear hb); (try clear hb2); (try clear hk); (try clear hi); have hnb21 := NB408_396.out; have hnc21 := NB396_408.out; have hnb22 := NB408_0.out; have hnc22 := NB0_408.out; obtain ⟨hcz23_0, hcz23_1, hcz23_2, hcz23_3, hcz23_4, hfz23_0, hfz23_1, hfz23_2, hfz23_3, hfz23_4⟩ := blk_facts5 BK408.out) | (go_at_call 79; (with_reducible refine (spec_l1Made.calls t400 t411 _ A19.out).mono ?_); rintro e w' ⟨rfl, ⟨nd, rfl⟩⟩))
    go_meet
    case rel => exact ⟨_, (t411), (t410), (by first | rfl | (simp; done) | (simp [*]; done)), H', ⟨by first | omega | exact Nat.le_refl _⟩, ⟨by (with_reducible repeat (first | apply Kd.Q_alloc | apply Kd.Q_drewN | apply Kd.Q_drew)); exact HO399.out⟩, ⟨by (with_reducible repeat (first | refine blk_drewN ?_ _ | refine blk_drew ?_ | refine blk_alloc ?_ _)); exact BK396.out⟩, ⟨by (with_reducible repeat (first | refine blk_drewN ?_ _ | refine blk_drew ?_ | refine blk_alloc ?_ _)); exact BK408.out⟩, ⟨stA⟩, ⟨keepA⟩, ⟨belowA⟩⟩
  ·rw [if_neg c13] at H
   have c13b0 : decide (0 < t409) = false := decide_eq_false c13
   clear c13
   (first | rw [c13b0] | (simp only [i64_w, i32_w]; rw [c13b0]) | skip)
   have H' := Aside0.mk H
   clear H
   go_wp2_with (first | ((with_reducible refine gate_callee (f := 84) rfl ?_); refine goesL_ (some 16) rfl rfl Tryd.func84 (by kernel_rfl) rfl #[.pointer (some ⟨g, 0, none⟩), .int .i64 5] rfl argsA ?_; (with_reducible refine (spec_l6Rd_pick.calls k g s0_0 t407 5 t409 t410 w0 _ ?side1 ?side2 A12.out).mono ?_); (case side1 => exact stA); (case side2 => exact belowA); rintro e w24 ⟨rfl, hi, hb, hk⟩; refine ⟨_, rfl, ?_⟩; have n0_ := Aside0.mk (KeepBut.blk hk (g' := gb396) (o := .cells #[.int .i64 0, .int .i64 0, .int .i64 0, .int .i64 0, .string (⟨#[]⟩ : ByteArray)] 40 (0, 0)) blkA NB396_0.out (by simp)); have n1_ := Aside0.mk (Kd.Q_mono (Kd.Q_keep (IsS113.apartQ (show IsS113 w0 _ g s0_0 t407 from stA) (by (with_reducible repeat (first | apply Kd.Q_alloc | apply Kd.Q_drewN | apply Kd.Q_drew)); exact (Kd.Q_mono (Kd.Q_far (p := ⟨gb408, 4, none⟩) (Kd.Q_far (p := ⟨gb408, 3, none⟩) (Kd.Q_far (p := ⟨gb408, 2, none⟩) (Kd.Q_far (p := ⟨gb408, 1, none⟩) (Kd.Q_far (p := ⟨gb408, 0, none⟩) (Kd.Q_types HO399.out BK408.out (by decide)) (fun _ hk => hk.2) (.int .i64 t402)) (fun _ hk => hk.2) (.int .i64 t403)) (fun _ hk => hk.2) (.int .i64 t404)) (fun _ hk => hk.2) (.int .i64 t405)) (fun _ hk => hk.2) (.string t406)) (fun _ h_ => h_.1))) (by decide)) hk (fun _ h => h.2)) (fun _ h => h.1)); have n2_ := Aside0.mk (KeepBut.blk hk (g' := gb408) (o := .cells #[.int .i64 t402, .int .i64 t403, .int .i64 t404, .int .i64 t405, .string t406] 40 (0, 0)) (blk_put (blk_put (blk_put (blk_put (blk_put (blkC #[.int .i64 0, .int .i64 0, .int .i64 0, .int .i64 0, .string (⟨#[]⟩ : ByteArray)]) 0 _ rfl) 1 _ rfl) 2 _ rfl) 3 _ rfl) 4 _ rfl) NB408_0.out (by simp)); have n3_ := Aside0.mk (KeepBut.trans keepA hk (.inl rfl)); have n4_ := Aside0.mk (hb); have n5_ := Aside0.mk (hi); clear BK396; clear HO399; clear BK408; clear HK; clear HB; clear HI0; have BK396 := n0_; have HO399 := n1_; have BK408 := n2_; have HK := n3_; have HB := n4_; have HI0 := n5_; clear n0_ n1_ n2_ n3_ n4_ n5_; (try clear hb); (try clear hb2); (try clear hk); (try clear hi)))
   go_meet
   case rel => exact ⟨_, (false), (t410), (by first | rfl | (simp; done) | (simp [*]; done)), H', ⟨by first | omega | exact Nat.le_refl _⟩, ⟨by (with_reducible repeat (first | apply Kd.Q_alloc | apply Kd.Q_drewN | apply Kd.Q_drew)); exact HO399.out⟩, ⟨by (with_reducible repeat (first | refine blk_drewN ?_ _ | refine blk_drew ?_ | refine blk_alloc ?_ _)); exact BK396.out⟩, ⟨by (with_reducible repeat (first | refine blk_drewN ?_ _ | refine blk_drew ?_ | refine blk_alloc ?_ _)); exact BK408.out⟩, ⟨stA⟩, ⟨keepA⟩, ⟨belowA⟩⟩
 case rest =>
  clear HC4
  try clear c1
  try clear c2
  try clear p2
  try clear c8
  try clear c9
  try clear c10
  try clear c13
  try clear c13b0
  try clear c14
  try clear c14b0
  try clear c14b1
  try clear c16
  try clear c17
  try clear c21
  try clear c22
  try clear hcz11_0
  try clear hcz11_1
  try clear hcz11_2
  try clear hcz11_3
  try clear hcz11_4
  try clear hcz18_0
  try clear hcz18_1
  try clear hcz18_2
  try clear hcz18_3
  try clear hcz18_4
  try clear hcz23_0
  try clear hcz23_1
  try clear hcz23_2
  try clear hcz23_3
  try clear hcz23_4
  try clear hfz11_0
  try clear hfz11_1
  try clear hfz11_2
  try clear hfz11_3
  try clear hfz11_4
  try clear hfz18_0
  try clear hfz18_1
  try clear hfz18_2
  try clear hfz18_3
  try clear hfz18_4
  try clear hfz23_0
  try clear hfz23_1
  try clear hfz23_2
  try clear hfz23_3
  try clear hfz23_4
  obtain ⟨kq, x26_3, x1001_3, rfl, HA, HJ3, HO_4, BK396, BK408, HI0, HK, HB⟩ := hcut
  cases kq with
  | zero => exact absurd HA.out (by simp [spec_l71Fits.j0])
  | succ kj3 =>
   have H := HA.out
   clear HA
   simp only [spec_l71Fits.j0] at H
   have HC25 := Aside0.mk H
   clear H
   go_upto_if 26 with (fail)
   go_cut [] (fun wc => ∃ (kq : Nat) (x409001_24 : Int), Aside0 (spec_l71Fits.j1 kq t397 s0_0 x1001_3 t402 x409001_24 t404 t405 t406 = some (r1, r2, r3, r4, r5, r6, r7)) ∧ Aside0 (kq ≤ kj3) ∧ Aside0 (Kd.Q k47 47 wc w.heap.size (fun _ => True) v398 t397) ∧ Aside0 (wc.heap[gb396]? = some (.cells #[.int .i64 0, .int .i64 0, .int .i64 0, .int .i64 0, .string (⟨#[]⟩ : ByteArray)] 40 (0, 0))) ∧ Aside0 (wc.heap[gb408]? = some (.cells #[.int .i64 t402, .int .i64 x409001_24, .int .i64 t404, .int .i64 t405, .string t406] 40 (0, 0))) ∧ Aside0 (IsS113 w0 wc g s0_0 x1001_3) ∧ Aside0 (KeepBut w wc g none) ∧ Aside0 (Below w0.heap.size w0 wc))
   case first =>
    have H := HC25.out
    clear HC25
    by_cases c26 : x26_3 = true
    ·subst c26
     have H1 : (spec_l71Fits.j1 kj3 t397 s0_0 x1001_3 t402 t400 t404 t405 t406) = some (r1, r2, r3, r4, r5, r6, r7) := by rw [if_pos rfl] at H; exact H
     clear H
     have H := H1
     clear H1
     have H' := Aside0.mk H
     clear H
     have hnb27 := NB408_396.out
     have hnc27 := NB396_408.out
     have hnb28 := NB408_0.out
     have hnc28 := NB0_408.out
     obtain ⟨hcz29_0, hcz29_1, hcz29_2, hcz29_3, hcz29_4, hfz29_0, hfz29_1, hfz29_2, hfz29_3, hfz29_4⟩ := blk_facts5 BK408.out
     go_wp2
     go_meet
     case rel => exact ⟨_, (t400), H', ⟨by have := HJ3.out; first | omega | exact Nat.le_refl _⟩, ⟨by (with_reducible repeat (first | apply Kd.Q_alloc | apply Kd.Q_drewN | apply Kd.Q_drew)); exact Kd.Q_mono (Kd.Q_far (p := ⟨gb408, 1, none⟩) (Kd.Q_types HO_4.out BK408.out (by decide)) (fun _ hk => hk.2) (.int .i64 t400)) (fun _ hk => trivial)⟩, ⟨by (with_reducible repeat (first | refine blk_drewN ?_ _ | refine blk_drew ?_ | refine blk_alloc ?_ _)); refine blk_far ?_ NB396_408.out _; (with_reducible repeat (first | refine blk_drewN ?_ _ | refine blk_drew ?_ | refine blk_alloc ?_ _)); exact BK396.out⟩, ⟨by (with_reducible repeat (first | refine blk_drewN ?_ _ | refine blk_drew ?_ | refine blk_alloc ?_ _)); refine blk_put (cs := #[.int .i64 t402, .int .i64 t403, .int .i64 t404, .int .i64 t405, .string t406]) ?_ 1 _ rfl; (with_reducible repeat (first | refine blk_drewN ?_ _ | refine blk_drew ?_ | refine blk_alloc ?_ _)); exact BK408.out⟩, ⟨stA⟩, ⟨keepA⟩, ⟨belowA⟩⟩
    ·replace c26 := Bool.eq_false_iff.mpr c26
     subst c26
     have H1 : (spec_l71Fits.j1 kj3 t397 s0_0 x1001_3 t402 t403 t404 t405 t406) = some (r1, r2, r3, r4, r5, r6, r7) := by rw [if_neg (show ¬ (false = true) by decide)] at H; exact H
     clear H
     have H := H1
     clear H1
     have H' := Aside0.mk H
     clear H
     go_wp2
     go_meet
     case rel => exact ⟨_, (t403), H', ⟨by have := HJ3.out; first | omega | exact Nat.le_refl _⟩, ⟨by (with_reducible repeat (first | apply Kd.Q_alloc | apply Kd.Q_drewN | apply Kd.Q_drew)); exact HO_4.out⟩, ⟨by (with_reducible repeat (first | refine blk_drewN ?_ _ | refine blk_drew ?_ | refine blk_alloc ?_ _)); exact BK396.out⟩, ⟨by (with_reducible repeat (first | refine blk_drewN ?_ _ | refine blk_drew ?_ | refine blk_alloc ?_ _)); exact BK408.out⟩, ⟨stA⟩, ⟨keepA⟩, ⟨belowA⟩⟩
   case rest =>
    clear HC25
    try clear c1
    try clear c2
    try clear p2
    try clear c8
    try clear c9
    try clear c10
    try clear c13
    try clear c13b0
    try clear c14
    try clear c14b0
    try clear c14b1
    try clear c16
    try clear c17
    try clear c21
    try clear c22
    try clear c26
    try clear c27
    try clear c28
    try clear hcz11_0
    try clear hcz11_1
    try clear hcz11_2
    try clear hcz11_3
    try clear hcz11_4
    try clear hcz18_0
    try clear hcz18_1
    try clear hcz18_2
    try clear hcz18_3
    try clear hcz18_4
    try clear hcz23_0
    try clear hcz23_1
    try clear hcz23_2
    try clear hcz23_3
    try clear hcz23_4
    try clear hcz29_0
    try clear hcz29_1
    try clear hcz29_2
    try clear hcz29_3
    try clear hcz29_4
    try clear hfz11_0
    try clear hfz11_1
    try clear hfz11_2
    try clear hfz11_3
    try clear hfz11_4
    try clear hfz18_0
    try clear hfz18_1
    try clear hfz18_2
    try clear hfz18_3
    try clear hfz18_4
    try clear hfz23_0
    try clear hfz23_1
    try clear hfz23_2
    try clear hfz23_3
    try clear hfz23_4
    try clear hfz29_0
    try clear hfz29_1
    try clear hfz29_2
    try clear hfz29_3
    try clear hfz29_4
    try clear p2
    obtain ⟨kq, x409001_24, HA, HJ24, HO_4, BK396, BK408, HI0, HK, HB⟩ := hcut
    cases kq with
    | zero => exact absurd HA.out (by simp [spec_l71Fits.j1])
    | succ kj24 =>
     have H := HA.out
     clear HA
     simp only [spec_l71Fits.j1] at H
     have HC30 := Aside0.mk H
     clear H
     go_upto_region 5 with (fail)
     go_cut [41] (fun v41 wc => ∃ (kq : Nat) (x41_29 : Bool) (x1001_29 : Int), v41 = .bool x41_29 ∧ Aside0 (spec_l71Fits.j2 kq t397 x41_29 s0_0 x1001_29 t402 x409001_24 t404 t405 t406 = some (r1, r2, r3, r4, r5, r6, r7)) ∧ Aside0 (kq ≤ kj24) ∧ Aside0 (Kd.Q k47 47 wc w.heap.size (fun _ => True) v398 t397) ∧ Aside0 (wc.heap[gb396]? = some (.cells #[.int .i64 0, .int .i64 0, .int .i64 0, .int .i64 0, .string (⟨#[]⟩ : ByteArray)] 40 (0, 0))) ∧ Aside0 (wc.heap[gb408]? = some (.cells #[.int .i64 t402, .int .i64 x409001_24, .int .i64 t404, .int .i64 t405, .string t406] 40 (0, 0))) ∧ Aside0 (IsS113 w0 wc g s0_0 x1001_29) ∧ Aside0 (KeepBut w wc g none) ∧ Aside0 (Below w0.heap.size w0 wc))
     case first =>
      have H := HC30.out
      clear HC30
      replace H := Option.bind_eq_some_iff.mp H
      obtain ⟨⟨t412, t413⟩, A310, H⟩ := H
      (try dsimp only at H)
      have A31 := Aside0.mk A310
      clear A310
      by_cases c32 : t412 = 0
      ·rw [if_pos c32] at H
       have c32b0 : (t412 == 0) = true := beq_iff_eq.mpr c32
       have c32b1 : (t412 != 0) = false := bne_eq_false_iff_eq.mpr c32
       clear c32
       (first | rw [c32b0] | (simp only [i64_w, i32_w]; rw [c32b0]) | skip)
       by_cases c33 : t402 = 3
       ·rw [if_pos c33] at H
        have c33b0 : (t402 == 3) = true := beq_iff_eq.mpr c33
        have c33b1 : (t402 != 3) = false := bne_eq_false_iff_eq.mpr c33
        clear c33
        have H' := Aside0.mk H
        clear H
        go_wp2_with (first | ((with_reducible refine gate_callee (f := 84) rfl ?_); refine goesL_ (some 30) rfl rfl Tryd.func84 (by kernel_rfl) rfl #[.pointer (some ⟨g, 0, none⟩), .int .i64 3] rfl argsA ?_; (with_reducible refine (spec_l6Rd_pick.calls kj24 g s0_0 x1001_3 3 t412 t413 w0 _ ?side1 ?side2 A31.out).mono ?_); (case side1 => exact stA); (case side2 => exact belowA); rintro e w34 ⟨rfl, hi, hb, hk⟩; refine ⟨_, rfl, ?_⟩; have n0_ := Aside0.mk (Kd.Q_mono (Kd.Q_keep (IsS113.apartQ (show IsS113 w0 _ g s0_0 x1001_3 from stA) (by (with_reducible repeat (first | apply Kd.Q_alloc | apply Kd.Q_drewN | apply Kd.Q_drew)); exact HO_4.out) (by decide)) hk (fun _ h => h.2)) (fun _ h => h.1)); have n1_ := Aside0.mk (KeepBut.blk hk (g' := gb396) (o := .cells #[.int .i64 0, .int .i64 0, .int .i64 0, .int .i64 0, .string (⟨#[]⟩ : ByteArray)] 40 (0, 0)) blkA NB396_0.out (by simp)); have n2_ := Aside0.mk (KeepBut.blk hk (g' := gb408) (o := .cells #[.int .i64 t402, .int .i64 x409001_24, .int .i64 t404, .int .i64 t405, .string t406] 40 (0, 0)) blkA NB408_0.out (by simp)); have n3_ := Aside0.mk (KeepBut.trans keepA hk (.inl rfl)); have n4_ := Aside0.mk (hb); have n5_ := Aside0.mk (hi); clear HO_4; clear BK396; clear BK408; clear HK; clear HB; clear HI0; have HO_4 := n0_; have BK396 := n1_; have BK408 := n2_; have HK := n3_; have HB := n4_; have HI0 := n5_; clear n0_ n1_ n2_ n3_ n4_ n5_; (try clear hb); (try clear hb2); (try clear hk); (try clear hi); have hnb35 := NB408_396.out; have hnc35 := NB396_408.out; have hnb36 := NB408_0.out; have hnc36 := NB0_408.out; obtain ⟨hcz37_0, hcz37_1, hcz37_2, hcz37_3, hcz37_4, hfz37_0, hfz37_1, hfz37_2, hfz37_3, hfz37_4⟩ := blk_facts5 BK408.out))
        go_meet
        case rel => exact ⟨_, (true), (t413), (by first | rfl | (simp; done) | (simp [*]; done)), H', ⟨by have := HJ3.out; have := HJ24.out; first | omega | exact Nat.le_refl _⟩, ⟨by (with_reducible repeat (first | apply Kd.Q_alloc | apply Kd.Q_drewN | apply Kd.Q_drew)); exact HO_4.out⟩, ⟨by (with_reducible repeat (first | refine blk_drewN ?_ _ | refine blk_drew ?_ | refine blk_alloc ?_ _)); exact BK396.out⟩, ⟨by (with_reducible repeat (first | refine blk_drewN ?_ _ | refine blk_drew ?_ | refine blk_alloc ?_ _)); exact BK408.out⟩, ⟨stA⟩, ⟨keepA⟩, ⟨belowA⟩⟩
       ·rw [if_neg c33] at H
        have c33b0 : (t402 == 3) = false := beq_eq_false_iff_ne.mpr c33
        have c33b1 : (t402 != 3) = true := bne_iff_ne.mpr c33
        have H' := Aside0.mk H
        clear H
        go_wp2_with (first | ((with_reducible refine gate_callee (f := 84) rfl ?_); refine goesL_ (some 30) rfl rfl Tryd.func84 (by kernel_rfl) rfl #[.pointer (some ⟨g, 0, none⟩), .int .i64 3] rfl argsA ?_; (with_reducible refine (spec_l6Rd_pick.calls kj24 g s0_0 x1001_3 3 t412 t413 w0 _ ?side1 ?side2 A31.out).mono ?_); (case side1 => exact stA); (case side2 => exact belowA); rintro e w38 ⟨rfl, hi, hb, hk⟩; refine ⟨_, rfl, ?_⟩; have n0_ := Aside0.mk (Kd.Q_mono (Kd.Q_keep (IsS113.apartQ (show IsS113 w0 _ g s0_0 x1001_3 from stA) (by (with_reducible repeat (first | apply Kd.Q_alloc | apply Kd.Q_drewN | apply Kd.Q_drew)); exact HO_4.out) (by decide)) hk (fun _ h => h.2)) (fun _ h => h.1)); have n1_ := Aside0.mk (KeepBut.blk hk (g' := gb396) (o := .cells #[.int .i64 0, .int .i64 0, .int .i64 0, .int .i64 0, .string (⟨#[]⟩ : ByteArray)] 40 (0, 0)) blkA NB396_0.out (by simp)); have n2_ := Aside0.mk (KeepBut.blk hk (g' := gb408) (o := .cells #[.int .i64 t402, .int .i64 x409001_24, .int .i64 t404, .int .i64 t405, .string t406] 40 (0, 0)) blkA NB408_0.out (by simp)); have n3_ := Aside0.mk (KeepBut.trans keepA hk (.inl rfl)); have n4_ := Aside0.mk (hb); have n5_ := Aside0.mk (hi); clear HO_4; clear BK396; clear BK408; clear HK; clear HB; clear HI0; have HO_4 := n0_; have BK396 := n1_; have BK408 := n2_; have HK := n3_; have HB := n4_; have HI0 := n5_; clear n0_ n1_ n2_ n3_ n4_ n5_; (try clear hb); (try clear hb2); (try clear hk); (try clear hi); have hnb39 := NB408_396.out; have hnc39 := NB396_408.out; have hnb40 := NB408_0.out; have hnc40 := NB0_408.out; obtain ⟨hcz41_0, hcz41_1, hcz41_2, hcz41_3, hcz41_4, hfz41_0, hfz41_1, hfz41_2, hfz41_3, hfz41_4⟩ := blk_facts5 BK408.out))
        go_meet
        case rel => exact ⟨_, ((t402 == 1)), (t413), (by first | rfl | (simp; done) | (simp [*]; done)), H', ⟨by have := HJ3.out; have := HJ24.out; first | omega | exact Nat.le_refl _⟩, ⟨by (with_reducible repeat (first | apply Kd.Q_alloc | apply Kd.Q_drewN | apply Kd.Q_drew)); exact HO_4.out⟩, ⟨by (with_reducible repeat (first | refine blk_drewN ?_ _ | refine blk_drew ?_ | refine blk_alloc ?_ _)); exact BK396.out⟩, ⟨by (with_reducible repeat (first | refine blk_drewN ?_ _ | refine blk_drew ?_ | refine blk_alloc ?_ _)); exact BK408.out⟩, ⟨stA⟩, ⟨keepA⟩, ⟨belowA⟩⟩
      ·rw [if_neg c32] at H
       have c32b0 : (t412 == 0) = false := beq_eq_false_iff_ne.mpr c32
       have c32b1 : (t412 != 0) = true := bne_iff_ne.mpr c32
       (first | rw [c32b0] | (simp only [i64_w, i32_w]; rw [c32b0]) | skip)
       have H' := Aside0.mk H
       clear H
       go_wp2_with (first | ((with_reducible refine gate_callee (f := 84) rfl ?_); refine goesL_ (some 30) rfl rfl Tryd.func84 (by kernel_rfl) rfl #[.pointer (some ⟨g, 0, none⟩), .int .i64 3] rfl argsA ?_; (with_reducible refine (spec_l6Rd_pick.calls kj24 g s0_0 x1001_3 3 t412 t413 w0 _ ?side1 ?side2 A31.out).mono ?_); (case side1 => exact stA); (case side2 => exact belowA); rintro e w42 ⟨rfl, hi, hb, hk⟩; refine ⟨_, rfl, ?_⟩; have n0_ := Aside0.mk (Kd.Q_mono (Kd.Q_keep (IsS113.apartQ (show IsS113 w0 _ g s0_0 x1001_3 from stA) (by (with_reducible repeat (first | apply Kd.Q_alloc | apply Kd.Q_drewN | apply Kd.Q_drew)); exact HO_4.out) (by decide)) hk (fun _ h => h.2)) (fun _ h => h.1)); have n1_ := Aside0.mk (KeepBut.blk hk (g' := gb396) (o := .cells #[.int .i64 0, .int .i64 0, .int .i64 0, .int .i64 0, .string (⟨#[]⟩ : ByteArray)] 40 (0, 0)) blkA NB396_0.out (by simp)); have n2_ := Aside0.mk (KeepBut.blk hk (g' := gb408) (o := .cells #[.int .i64 t402, .int .i64 x409001_24, .int .i64 t404, .int .i64 t405, .string t406] 40 (0, 0)) blkA NB408_0.out (by simp)); have n3_ := Aside0.mk (KeepBut.trans keepA hk (.inl rfl)); have n4_ := Aside0.mk (hb); have n5_ := Aside0.mk (hi); clear HO_4; clear BK396; clear BK408; clear HK; clear HB; clear HI0; have HO_4 := n0_; have BK396 := n1_; have BK408 := n2_; have HK := n3_; have HB := n4_; have HI0 := n5_; clear n0_ n1_ n2_ n3_ n4_ n5_; (try clear hb); (try clear hb2); (try clear hk); (try clear hi)))
       go_meet
       case rel => exact ⟨_, (false), (t413), (by first | rfl | (simp; done) | (simp [*]; done)), H', ⟨by have := HJ3.out; have := HJ24.out; first | omega | exact Nat.le_refl _⟩, ⟨by (with_reducible repeat (first | apply Kd.Q_alloc | apply Kd.Q_drewN | apply Kd.Q_drew)); exact HO_4.out⟩, ⟨by (with_reducible repeat (first | refine blk_drewN ?_ _ | refine blk_drew ?_ | refine blk_alloc ?_ _)); exact BK396.out⟩, ⟨by (with_reducible repeat (first | refine blk_drewN ?_ _ | refine blk_drew ?_ | refine blk_alloc ?_ _)); exact BK408.out⟩, ⟨stA⟩, ⟨keepA⟩, ⟨belowA⟩⟩
     case rest =>
      clear HC30
      try clear c1
      try clear c2
      try clear p2
      try clear c3
      try clear c4
      try clear c8
      try clear c9
      try clear c10
      try clear c13
      try clear c13b0
      try clear c14
      try clear c14b0
      try clear c14b1
      try clear c16
      try clear c17
      try clear c21
      try clear c22
      try clear c26
      try clear c27
      try clear c28
      try clear c32
      try clear c32b0
      try clear c32b1
      try clear c33
      try clear c33b0
      try clear c33b1
      try clear c35
      try clear c36
      try clear c39
      try clear c40
      try clear hcz11_0
      try clear hcz11_1
      try clear hcz11_2
      try clear hcz11_3
      try clear hcz11_4
      try clear hcz18_0
      try clear hcz18_1
      try clear hcz18_2
      try clear hcz18_3
      try clear hcz18_4
      try clear hcz23_0
      try clear hcz23_1
      try clear hcz23_2
      try clear hcz23_3
      try clear hcz23_4
      try clear hcz29_0
      try clear hcz29_1
      try clear hcz29_2
      try clear hcz29_3
      try clear hcz29_4
      try clear hcz37_0
      try clear hcz37_1
      try clear hcz37_2
      try clear hcz37_3
      try clear hcz37_4
      try clear hcz41_0
      try clear hcz41_1
      try clear hcz41_2
      try clear hcz41_3
      try clear hcz41_4
      try clear hfz11_0
      try clear hfz11_1
      try clear hfz11_2
      try clear hfz11_3
      try clear hfz11_4
      try clear hfz18_0
      try clear hfz18_1
      try clear hfz18_2
      try clear hfz18_3
      try clear hfz18_4
      try clear hfz23_0
      try clear hfz23_1
      try clear hfz23_2
      try clear hfz23_3
      try clear hfz23_4
      try clear hfz29_0
      try clear hfz29_1
      try clear hfz29_2
      try clear hfz29_3
      try clear hfz29_4
      try clear hfz37_0
      try clear hfz37_1
      try clear hfz37_2
      try clear hfz37_3
      try clear hfz37_4
      try clear hfz41_0
      try clear hfz41_1
      try clear hfz41_2
      try clear hfz41_3
      try clear hfz41_4
      try clear p2
      obtain ⟨kq, x41_29, x1001_29, rfl, HA, HJ29, HO_4, BK396, BK408, HI0, HK, HB⟩ := hcut
      cases kq with
      | zero => exact absurd HA.out (by simp [spec_l71Fits.j2])
      | succ kj29 =>
       have H := HA.out
       clear HA
       simp only [spec_l71Fits.j2] at H
       by_cases c43 : x41_29 = true
       ·subst c43
        have H1 : ((spec_l6Rd_pick.f kj29 s0_0 x1001_29 (t397.length : Int)).bind fun bt414 => (if 0 ≤ bt414.1 then (if bt414.1 < (t397.length : Int) then ((spec_l2Kids.f kj29 t397 ((rd_T47 t397 bt414.1).f0)).bind fun t417 => (if (t417.length : Int) > 0 then ((spec_l6Rd_pick.f kj29 s0_0 bt414.2 (t417.length : Int)).bind fun bt420 => (if 0 ≤ bt420.1 then (if bt420.1 < (t417.length : Int) then (some (t397, t402, x409001_24, (rd_T47 t397 bt414.1).f0, rd t417 bt420.1, t406, bt420.2)) else (none)) else (none))) else (some (t397, t402, x409001_24, (rd_T47 t397 bt414.1).f0, t405, t406, bt414.2)))) else (none)) else (none))) = some (r1, r2, r3, r4, r5, r6, r7) := by rw [if_pos rfl] at H; exact H
        clear H
        have H := H1
        clear H1
        replace H := Option.bind_eq_some_iff.mp H
        obtain ⟨⟨t414, t415⟩, A440, H⟩ := H
        (try dsimp only at H)
        have A44 := Aside0.mk A440
        clear A440
        by_cases c45 : 0 ≤ t414
        ·rw [if_pos c45] at H
         have c45b0 : decide (0 ≤ t414) = true := decide_eq_true c45
         clear c45
         by_cases c46 : t414 < (t397.length : Int)
         ·rw [if_pos c46] at H
          have c46b0 : decide (t414 < (t397.length : Int)) = true := decide_eq_true c46
          clear c46
          replace H := Option.bind_eq_some_iff.mp H
          obtain ⟨t417, A470, H⟩ := H
          (try dsimp only at H)
          have A47 := Aside0.mk A470
          clear A470
          by_cases c48 : (t417.length : Int) > 0
          ·rw [if_pos c48] at H
           have c48b0 : decide (0 < (t417.length : Int)) = true := decide_eq_true c48
           have c48b1 : decide (0 < t417.length) = true := decide_eq_true (by omega)
           clear c48
           replace H := Option.bind_eq_some_iff.mp H
           obtain ⟨⟨t420, t421⟩, A490, H⟩ := H
           (try dsimp only at H)
           have A49 := Aside0.mk A490
           clear A490
           by_cases c50 : 0 ≤ t420
           ·rw [if_pos c50] at H
            have c50b0 : decide (0 ≤ t420) = true := decide_eq_true c50
            clear c50
            by_cases c51 : t420 < (t417.length : Int)
            ·rw [if_pos c51] at H
             have c51b0 : decide (t420 < (t417.length : Int)) = true := decide_eq_true c51
             clear c51
             simp only [Option.some.injEq, Prod.mk.injEq] at H
             obtain ⟨rfl, rfl, rfl, rfl, rfl, rfl, rfl⟩ := H
             obtain ⟨Ao52, co52, eo52, _⟩ := Kd.Q_slice HO_4.out
             subst eo52
             try go_wp2_with (first | ((with_reducible refine gate_callee (f := 84) rfl ?_); refine goesL_ (some 46) rfl rfl Tryd.func84 (by kernel_rfl) rfl #[.pointer (some ⟨g, 0, none⟩), .int .i64 (t397.length : Int)] rfl argsA ?_; (with_reducible refine (spec_l6Rd_pick.calls kj29 g s0_0 x1001_29 (t397.length : Int) t414 t415 w0 _ ?side1 ?side2 A44.out).mono ?_); (case side1 => exact stA); (case side2 => exact belowA); rintro e w53 ⟨rfl, hi, hb, hk⟩; refine ⟨_, rfl, ?_⟩; have n0_ := Aside0.mk (Kd.Q_mono (Kd.Q_keep (IsS113.apartQ (show IsS113 w0 _ g s0_0 x1001_29 from stA) (by (with_reducible repeat (first | apply Kd.Q_alloc | apply Kd.Q_drewN | apply Kd.Q_drew)); exact HO_4.out) (by decide)) hk (fun _ h => h.2)) (fun _ h => h.1)); have n1_ := Aside0.mk (KeepBut.blk hk (g' := gb396) (o := .cells #[.int .i64 0, .int .i64 0, .int .i64 0, .int .i64 0, .string (⟨#[]⟩ : ByteArray)] 40 (0, 0)) blkA NB396_0.out (by simp)); have n2_ := Aside0.mk (KeepBut.blk hk (g' := gb408) (o := .cells #[.int .i64 t402, .int .i64 x409001_24, .int .i64 t404, .int .i64 t405, .string t406] 40 (0, 0)) blkA NB408_0.out (by simp)); have n3_ := Aside0.mk (KeepBut.trans keepA hk (.inl rfl)); have n4_ := Aside0.mk (hb); have n5_ := Aside0.mk (hi); clear HO_4; clear BK396; clear BK408; clear HK; clear HB; clear HI0; have HO_4 := n0_; have BK396 := n1_; have BK408 := n2_; have HK := n3_; have HB := n4_; have HI0 := n5_; clear n0_ n1_ n2_ n3_ n4_ n5_; (try clear hb); (try clear hb2); (try clear hk); (try clear hi); have p416 : 0 ≤ (t414 : Int) := of_decide_eq_true (by first | (with_reducible assumption) | assumption); have q416 : t414 < (t397.length : Int) := of_decide_eq_true (by first | (with_reducible assumption) | assumption); obtain ⟨ad416, e416, hx416_0, hx416_1, hx416_2⟩ := at_T47 (Kd.Q_reads' HO_4.out).2.2 t414 p416 q416; cases e416; replace p416 := eq_true p416; replace q416 := eq_true q416; have hnb54 := NB408_396.out; have hnc54 := NB396_408.out; have hnb55 := NB408_0.out; have hnc55 := NB0_408.out; obtain ⟨hcz56_0, hcz56_1, hcz56_2, hcz56_3, hcz56_4, hfz56_0, hfz56_1, hfz56_2, hfz56_3, hfz56_4⟩ := blk_facts5 BK408.out) | ((with_reducible refine gate_callee (f := 76) rfl ?_); refine goesL_ (some 54) rfl rfl Tryd.func76 (by kernel_rfl) rfl #[.slice (some ad416) t397.length co52, .int .i64 ((rd_T47 t397 t414).f0)] rfl argsA ?_; (with_reducible refine (spec_l2Kids.calls kj29 _ _ t397 ((rd_T47 t397 t414).f0) t417 _ ?side1 ?side2 A47.out).mono ?_); (case side1 => refine (Kd.Q_reads' (e := 47) (base := w.heap.size) (ok := fun k_ => True) (n := t397.length) (c := co52) ?_).2.2; exact (by (with_reducible repeat (first | apply Kd.Q_alloc | apply Kd.Q_drewN | apply Kd.Q_drew)); exact (Kd.Q_mono (Kd.Q_far (p := ⟨gb408, 2, none⟩) (Kd.Q_types HO_4.out BK408.out (by decide)) (fun _ hk => hk.2) (.int .i64 ((rd_T47 t397 t414).f0))) (fun _ h_ => h_.1)))); (case side2 => exact (Kd.Q_reads' HO_4.out).2.1); rintro e w57 ⟨v418, rfl, ho0, hb⟩; refine ⟨_, rfl, ?_⟩; have n0_ := Aside0.mk (Kd.Q_below (by (with_reducible repeat (first | apply Kd.Q_alloc | apply Kd.Q_drewN | apply Kd.Q_drew)); exact (Kd.Q_mono (Kd.Q_far (p := ⟨gb408, 2, none⟩) (Kd.Q_types HO_4.out BK408.out (by decide)) (fun _ hk => hk.2) (.int .i64 ((rd_T47 t397 t414).f0))) (fun _ h_ => h_.1))) hb); have n1_ := Aside0.mk (Kd.R_lower ho0 (keep_size (w := w) (g := g) (row := none) keepA)); have n2_ := Aside0.mk (blk_below (g := gb396) (o := .cells #[.int .i64 0, .int .i64 0, .int .i64 0, .int .i64 0, .string (⟨#[]⟩ : ByteArray)] 40 (0, 0)) blkA hb); have n3_ := Aside0.mk (blk_below (g := gb408) (o := .cells #[.int .i64 t402, .int .i64 x409001_24, .int .i64 ((rd_T47 t397 t414).f0), .int .i64 t405, .string t406] 40 (0, 0)) (blk_put (blkC #[.int .i64 t402, .int .i64 x409001_24, .int .i64 t404, .int .i64 t405, .string t406]) 2 _ rfl) hb); have n4_ := Aside0.mk (IsS113.below (show IsS113 w0 (w53.setCell ⟨gb408, 2, none⟩ (.int .i64 ((rd_T47 t397 t414).f0))) g s0_0 t415 from stA) hb); have n5_ := Aside0.mk (KeepBut.trans keepA (KeepBut.of_below hb g none) (.inl rfl)); have n6_ := Aside0.mk (below_step belowA hb); clear HO_4; clear BK396; clear BK408; clear HI0; clear HK; clear HB; have HO_4 := n0_; have HO419 := n1_; have BK396 := n2_; have BK408 := n3_; have HI0 := n4_; have HK := n5_; have HB := n6_; clear n0_ n1_ n2_ n3_ n4_ n5_ n6_; (try clear hb); (try clear hb2); (try clear hk); (try clear hi); (try clear ho0); obtain ⟨Ao58, co58, eo58⟩ := Kd.R_slice HO419.out; subst eo58) | ((with_reducible refine gate_callee (f := 84) rfl ?_); refine goesL_ (some 62) rfl rfl Tryd.func84 (by kernel_rfl) rfl #[.pointer (some ⟨g, 0, none⟩), .int .i64 (t417.length : Int)] rfl argsA ?_; (with_reducible refine (spec_l6Rd_pick.calls kj29 g s0_0 t415 (t417.length : Int) t420 t421 w0 _ ?side1 ?side2 A49.out).mono ?_); (case side1 => exact stA); (case side2 => exact belowA); rintro e w59 ⟨rfl, hi, hb, hk⟩; refine ⟨_, rfl, ?_⟩; have n0_ := Aside0.mk (Kd.Q_mono (Kd.Q_keep (IsS113.apartQ (show IsS113 w0 _ g s0_0 t415 from stA) (by (with_reducible repeat (first | apply Kd.Q_alloc | apply Kd.Q_drewN | apply Kd.Q_drew)); exact HO_4.out) (by decide)) hk (fun _ h => h.2)) (fun _ h => h.1)); have n1_ := Aside0.mk (KeepBut.blk hk (g' := gb396) (o := .cells #[.int .i64 0, .int .i64 0, .int .i64 0, .int .i64 0, .string (⟨#[]⟩ : ByteArray)] 40 (0, 0)) blkA NB396_0.out (by simp)); have n2_ := Aside0.mk (KeepBut.blk hk (g' := gb408) (o := .cells #[.int .i64 t402, .int .i64 x409001_24, .int .i64 ((rd_T47 t397 t414).f0), .int .i64 t405, .string t406] 40 (0, 0)) blkA NB408_0.out (by simp)); have n3_ := Aside0.mk (Kd.R_mono (Kd.R_keep (IsS113.apart (show IsS113 w0 _ g s0_0 t415 from stA) (by (with_reducible repeat (first | apply Kd.R_alloc | apply Kd.R_drewN | apply Kd.R_drew)); exact HO419.out) (by decide)) hk (fun _ h => h.2)) (fun _ h => h.1)); have n4_ := Aside0.mk (KeepBut.trans keepA hk (.inl rfl)); have n5_ := Aside0.mk (hb); have n6_ := Aside0.mk (hi); clear HO_4; clear BK396; clear BK408; clear HO419; clear HK; clear HB; clear HI0; have HO_4 := n0_; have BK396 := n1_; have BK408 := n2_; have HO419 := n3_; have HK := n4_; have HB := n5_; have HI0 := n6_; clear n0_ n1_ n2_ n3_ n4_ n5_ n6_; (try clear hb); (try clear hb2); (try clear hk); (try clear hi); have p422 : 0 ≤ (t420 : Int) := of_decide_eq_true (by first | (with_reducible assumption) | assumption); have q422 : t420 < (t417.length : Int) := of_decide_eq_true (by first | (with_reducible assumption) | assumption); obtain ⟨ad422, e422, hx422_0⟩ := Kd.at_int (Kd.R_reads' HO419.out).2.2 t420 p422 q422; cases e422; replace p422 := eq_true p422; replace q422 := eq_true q422; obtain ⟨hcz60_0, hcz60_1, hcz60_2, hcz60_3, hcz60_4, hfz60_0, hfz60_1, hfz60_2, hfz60_3, hfz60_4⟩ := blk_facts5 BK408.out))
             have n0_ : Aside0 (Kd.Q k47 47 (w59.setCell ⟨gb408, 3, none⟩ (.int .i64 (rd t417 t420))) w.heap.size (fun _ => True) (.slice (some ad416) t397.length co52) t397) := ⟨by (with_reducible repeat (first | apply Kd.Q_alloc | apply Kd.Q_drewN | apply Kd.Q_drew)); exact Kd.Q_mono (Kd.Q_far (p := ⟨gb408, 3, none⟩) (Kd.Q_types HO_4.out BK408.out (by decide)) (fun _ hk => hk.2) (.int .i64 (rd t417 t420))) (fun _ hk => trivial)⟩
             have n1_ : Aside0 (Kd.R (Kd.int .i64) 3 (w59.setCell ⟨gb408, 3, none⟩ (.int .i64 (rd t417 t420))) w.heap.size (fun _ => True) (.slice (some ad422) t417.length co58) t417) := ⟨by (with_reducible repeat (first | apply Kd.R_alloc | apply Kd.R_drewN | apply Kd.R_drew)); exact Kd.R_mono (Kd.R_far (p := ⟨gb408, 3, none⟩) (Kd.R_types HO419.out BK408.out (by decide)) (fun _ hk => hk.2) (.int .i64 (rd t417 t420))) (fun _ hk => trivial)⟩
             have n2_ : Aside0 ((w59.setCell ⟨gb408, 3, none⟩ (.int .i64 (rd t417 t420))).heap[gb396]? = some (.cells #[.int .i64 0, .int .i64 0, .int .i64 0, .int .i64 0, .string (⟨#[]⟩ : ByteArray)] 40 (0, 0))) := ⟨by (with_reducible repeat (first | refine blk_drewN ?_ _ | refine blk_drew ?_ | refine blk_alloc ?_ _)); refine blk_far ?_ NB396_408.out _; (with_reducible repeat (first | refine blk_drewN ?_ _ | refine blk_drew ?_ | refine blk_alloc ?_ _)); exact BK396.out⟩
             have n3_ : Aside0 ((w59.setCell ⟨gb408, 3, none⟩ (.int .i64 (rd t417 t420))).heap[gb408]? = some (.cells #[.int .i64 t402, .int .i64 x409001_24, .int .i64 ((rd_T47 t397 t414).f0), .int .i64 (rd t417 t420), .string t406] 40 (0, 0))) := ⟨by (with_reducible repeat (first | refine blk_drewN ?_ _ | refine blk_drew ?_ | refine blk_alloc ?_ _)); refine blk_put (cs := #[.int .i64 t402, .int .i64 x409001_24, .int .i64 ((rd_T47 t397 t414).f0), .int .i64 t405, .string t406]) ?_ 3 _ rfl; (with_reducible repeat (first | refine blk_drewN ?_ _ | refine blk_drew ?_ | refine blk_alloc ?_ _)); exact BK408.out⟩
             have n4_ : Aside0 (IsS113 w0 (w59.setCell ⟨gb408, 3, none⟩ (.int .i64 (rd t417 t420))) g s0_0 t421) := ⟨stA⟩
             have n5_ : Aside0 (KeepBut w (w59.setCell ⟨gb408, 3, none⟩ (.int .i64 (rd t417 t420))) g none) := ⟨keepA⟩
             have n6_ : Aside0 (Below w0.heap.size w0 (w59.setCell ⟨gb408, 3, none⟩ (.int .i64 (rd t417 t420)))) := ⟨belowA⟩
             (try clear HO_4)
             (try clear HO419)
             (try clear BK396)
             (try clear BK408)
             (try clear HI0)
             (try clear HK)
             (try clear HB)
             generalize (w59.setCell ⟨gb408, 3, none⟩ (.int .i64 (rd t417 t420))) = w61 at n0_ n1_ n2_ n3_ n4_ n5_ n6_ ⊢
             have HO_4 := n0_
             have HO419 := n1_
             have BK396 := n2_
             have BK408 := n3_
             have HI0 := n4_
             have HK := n5_
             have HB := n6_
             clear n0_ n1_ n2_ n3_ n4_ n5_ n6_
             have n0_ := Aside0.mk (Kd.Q_drew HO_4.out)
             have n1_ := Aside0.mk (Kd.R_drew HO419.out)
             have n2_ := Aside0.mk (blk_drew BK396.out)
             have n3_ := Aside0.mk (blk_drew BK408.out)
             have n4_ := Aside0.mk (IsS113.drew HI0.out)
             have n5_ := Aside0.mk (keep_drew HK.out)
             have n6_ := Aside0.mk (below_drew1 HB.out)
             clear HO_4
             clear HO419
             clear BK396
             clear BK408
             clear HI0
             clear HK
             clear HB
             have HO_4 := n0_
             have HO419 := n1_
             have BK396 := n2_
             have BK408 := n3_
             have HI0 := n4_
             have HK := n5_
             have HB := n6_
             clear n0_ n1_ n2_ n3_ n4_ n5_ n6_
             refine start_ (n := 4) (S := fun w' => w'.cell? ⟨gb408, 0, none⟩ = some (.int .i64 t402) ∧ w'.cell? ⟨gb408, 1, none⟩ = some (.int .i64 x409001_24) ∧ w'.cell? ⟨gb408, 2, none⟩ = some (.int .i64 ((rd_T47 t397 t414).f0)) ∧ w'.cell? ⟨gb408, 3, none⟩ = some (.int .i64 (rd t417 t420)) ∧ w'.cell? ⟨gb408, 4, none⟩ = some (.string t406)) (ds := []) #[false, false, false, false] (by kernel_rfl) rfl rfl ⟨(blk_cell BK408.out 0).trans rfl, (blk_cell BK408.out 1).trans rfl, (blk_cell BK408.out 2).trans rfl, (blk_cell BK408.out 3).trans rfl, (blk_cell BK408.out 4).trans rfl⟩ (fun hHeld => ?_)
             generalize w61.drew = w62 at HO_4 HO419 BK396 BK408 HI0 HK HB hHeld ⊢
             refine pure_ (i := 0) (N := some 66) #[true, false, false, false] rfl rfl (by kernel_rfl) (fun _ _ _ h => h) yldA putA ?_
             refine pure_ (i := 2) (N := some 2) #[true, false, true, false] rfl rfl (by kernel_rfl) (fun _ _ _ h => h) yldA putA ?_
             refine take_ (i := 1) (N := some 67) #[true, true, true, false] rfl rfl (by kernel_rfl) (fun _ _ _ h => h) (Or.inl ⟨by rfl, by rintro w' ⟨s0, s1, s2, s3, s4⟩; go_simp; with_reducible rfl⟩) hHeld putA ?_
             refine one_ (i := 3) (N := none) #[true, true, true, true] rfl rfl (by kernel_rfl) (by decide) (fun K hK => ?_)
             have hs63 : w62.cell? ⟨gb396, 0, none⟩ = some (.int .i64 0) := (blk_cell BK396.out 0).trans rfl
             have hfs63 := blk_frozen BK396.out 0
             have hns63_1 := NB408_396.out
             have hms63_1 := NB396_408.out
             have hs64 : w62.cell? ⟨gb396, 1, none⟩ = some (.int .i64 0) := (blk_cell BK396.out 1).trans rfl
             have hfs64 := blk_frozen BK396.out 1
             have hns64_1 := NB408_396.out
             have hms64_1 := NB396_408.out
             have hs65 : w62.cell? ⟨gb396, 2, none⟩ = some (.int .i64 0) := (blk_cell BK396.out 2).trans rfl
             have hfs65 := blk_frozen BK396.out 2
             have hns65_1 := NB408_396.out
             have hms65_1 := NB396_408.out
             have hs66 : w62.cell? ⟨gb396, 3, none⟩ = some (.int .i64 0) := (blk_cell BK396.out 3).trans rfl
             have hfs66 := blk_frozen BK396.out 3
             have hns66_1 := NB408_396.out
             have hms66_1 := NB396_408.out
             have hs67 : w62.cell? ⟨gb396, 4, none⟩ = some (.string (⟨#[]⟩ : ByteArray)) := (blk_cell BK396.out 4).trans rfl
             have hfs67 := blk_frozen BK396.out 4
             have hns67_1 := NB408_396.out
             have hms67_1 := NB396_408.out
             refine skip_ (w1 := ?_) (by rfl) rfl ?_ ?_
             rotate_left
             ·go_simp
              rfl
             refine hK.out _ _ ⟨((cell_far (p := ⟨gb396, _, none⟩) NB408_396.out _).trans (((cell_far (p := ⟨gb396, _, none⟩) NB408_396.out _).trans (((cell_far (p := ⟨gb396, _, none⟩) NB408_396.out _).trans (((cell_far (p := ⟨gb396, _, none⟩) NB408_396.out _).trans (((cell_far (p := ⟨gb396, _, none⟩) NB408_396.out _).trans (hHeld.1)))))))))), ((cell_far (p := ⟨gb396, _, none⟩) NB408_396.out _).trans (((cell_far (p := ⟨gb396, _, none⟩) NB408_396.out _).trans (((cell_far (p := ⟨gb396, _, none⟩) NB408_396.out _).trans (((cell_far (p := ⟨gb396, _, none⟩) NB408_396.out _).trans (((cell_far (p := ⟨gb396, _, none⟩) NB408_396.out _).trans (hHeld.2.1)))))))))), ((cell_far (p := ⟨gb396, _, none⟩) NB408_396.out _).trans (((cell_far (p := ⟨gb396, _, none⟩) NB408_396.out _).trans (((cell_far (p := ⟨gb396, _, none⟩) NB408_396.out _).trans (((cell_far (p := ⟨gb396, _, none⟩) NB408_396.out _).trans (((cell_far (p := ⟨gb396, _, none⟩) NB408_396.out _).trans (hHeld.2.2.1)))))))))), ((cell_far (p := ⟨gb396, _, none⟩) NB408_396.out _).trans (((cell_far (p := ⟨gb396, _, none⟩) NB408_396.out _).trans (((cell_far (p := ⟨gb396, _, none⟩) NB408_396.out _).trans (((cell_far (p := ⟨gb396, _, none⟩) NB408_396.out _).trans (((cell_far (p := ⟨gb396, _, none⟩) NB408_396.out _).trans (hHeld.2.2.2.1)))))))))), ((cell_far (p := ⟨gb396, _, none⟩) NB408_396.out _).trans (((cell_far (p := ⟨gb396, _, none⟩) NB408_396.out _).trans (((cell_far (p := ⟨gb396, _, none⟩) NB408_396.out _).trans (((cell_far (p := ⟨gb396, _, none⟩) NB408_396.out _).trans (((cell_far (p := ⟨gb396, _, none⟩) NB408_396.out _).trans (hHeld.2.2.2.2))))))))))⟩ (fun hHeld => ?_)
             clear hK K
             refine done_ (by kernel_rfl) ?_
             try go_wp2
             refine bodyPost_ret (results_tc rfl _ _ gb396 40 #[.int .i64 t402, .int .i64 x409001_24, .int .i64 ((rd_T47 t397 t414).f0), .int .i64 (rd t417 t420), .string t406] (0, 0) _ rfl (blk_put (blk_put (blk_put (blk_put (blk_put (blkC #[.int .i64 0, .int .i64 0, .int .i64 0, .int .i64 0, .string (⟨#[]⟩ : ByteArray)]) 0 _ rfl) 1 _ rfl) 2 _ rfl) 3 _ rfl) 4 _ rfl) Tryd.underlying40 rfl (by kernel_rfl)) rfl ?_
             exact ⟨_, endA, by (with_reducible repeat (first | apply Kd.Q_alloc | apply Kd.Q_drewN | apply Kd.Q_drew)); exact Kd.Q_mono (Kd.Q_far (p := ⟨gb396, 4, none⟩) (Kd.Q_far (p := ⟨gb396, 3, none⟩) (Kd.Q_far (p := ⟨gb396, 2, none⟩) (Kd.Q_far (p := ⟨gb396, 1, none⟩) (Kd.Q_far (p := ⟨gb396, 0, none⟩) (Kd.Q_types HO_4.out BK396.out (by decide)) (fun _ hk => hk.2) (.int .i64 t402)) (fun _ hk => hk.2) (.int .i64 x409001_24)) (fun _ hk => hk.2) (.int .i64 ((rd_T47 t397 t414).f0))) (fun _ hk => hk.2) (.int .i64 (rd t417 t420))) (fun _ hk => hk.2) (.string t406)) (fun _ hk => trivial), stA, belowA, keepA⟩
            ·rw [if_neg c51] at H
             exact absurd H (by simp)
           ·rw [if_neg c50] at H
            exact absurd H (by simp)
          ·rw [if_neg c48] at H
           have c48b0 : decide (0 < (t417.length : Int)) = false := decide_eq_false c48
           have c48b1 : decide (0 < t417.length) = false := decide_eq_false (by omega)
           clear c48
           simp only [Option.some.injEq, Prod.mk.injEq] at H
           obtain ⟨rfl, rfl, rfl, rfl, rfl, rfl, rfl⟩ := H
           obtain ⟨Ao68, co68, eo68, _⟩ := Kd.Q_slice HO_4.out
           subst eo68
           try go_wp2_with (first | ((with_reducible refine gate_callee (f := 84) rfl ?_); refine goesL_ (some 46) rfl rfl Tryd.func84 (by kernel_rfl) rfl #[.pointer (some ⟨g, 0, none⟩), .int .i64 (t397.length : Int)] rfl argsA ?_; (with_reducible refine (spec_l6Rd_pick.calls kj29 g s0_0 x1001_29 (t397.length : Int) t414 t415 w0 _ ?side1 ?side2 A44.out).mono ?_); (case side1 => exact stA); (case side2 => exact belowA); rintro e w69 ⟨rfl, hi, hb, hk⟩; refine ⟨_, rfl, ?_⟩; have n0_ := Aside0.mk (Kd.Q_mono (Kd.Q_keep (IsS113.apartQ (show IsS113 w0 _ g s0_0 x1001_29 from stA) (by (with_reducible repeat (first | apply Kd.Q_alloc | apply Kd.Q_drewN | apply Kd.Q_drew)); exact HO_4.out) (by decide)) hk (fun _ h => h.2)) (fun _ h => h.1)); have n1_ := Aside0.mk (KeepBut.blk hk (g' := gb396) (o := .cells #[.int .i64 0, .int .i64 0, .int .i64 0, .int .i64 0, .string (⟨#[]⟩ : ByteArray)] 40 (0, 0)) blkA NB396_0.out (by simp)); have n2_ := Aside0.mk (KeepBut.blk hk (g' := gb408) (o := .cells #[.int .i64 t402, .int .i64 x409001_24, .int .i64 t404, .int .i64 t405, .string t406] 40 (0, 0)) blkA NB408_0.out (by simp)); have n3_ := Aside0.mk (KeepBut.trans keepA hk (.inl rfl)); have n4_ := Aside0.mk (hb); have n5_ := Aside0.mk (hi); clear HO_4; clear BK396; clear BK408; clear HK; clear HB; clear HI0; have HO_4 := n0_; have BK396 := n1_; have BK408 := n2_; have HK := n3_; have HB := n4_; have HI0 := n5_; clear n0_ n1_ n2_ n3_ n4_ n5_; (try clear hb); (try clear hb2); (try clear hk); (try clear hi); have p416 : 0 ≤ (t414 : Int) := of_decide_eq_true (by first | (with_reducible assumption) | assumption); have q416 : t414 < (t397.length : Int) := of_decide_eq_true (by first | (with_reducible assumption) | assumption); obtain ⟨ad416, e416, hx416_0, hx416_1, hx416_2⟩ := at_T47 (Kd.Q_reads' HO_4.out).2.2 t414 p416 q416; cases e416; replace p416 := eq_true p416; replace q416 := eq_true q416; have hnb70 := NB408_396.out; have hnc70 := NB396_408.out; have hnb71 := NB408_0.out; have hnc71 := NB0_408.out; obtain ⟨hcz72_0, hcz72_1, hcz72_2, hcz72_3, hcz72_4, hfz72_0, hfz72_1, hfz72_2, hfz72_3, hfz72_4⟩ := blk_facts5 BK408.out) | ((with_reducible refine gate_callee (f := 76) rfl ?_); refine goesL_ (some 54) rfl rfl Tryd.func76 (by kernel_rfl) rfl #[.slice (some ad416) t397.length co68, .int .i64 ((rd_T47 t397 t414).f0)] rfl argsA ?_; (with_reducible refine (spec_l2Kids.calls kj29 _ _ t397 ((rd_T47 t397 t414).f0) t417 _ ?side1 ?side2 A47.out).mono ?_); (case side1 => refine (Kd.Q_reads' (e := 47) (base := w.heap.size) (ok := fun k_ => True) (n := t397.length) (c := co68) ?_).2.2; exact (by (with_reducible repeat (first | apply Kd.Q_alloc | apply Kd.Q_drewN | apply Kd.Q_drew)); exact (Kd.Q_mono (Kd.Q_far (p := ⟨gb408, 2, none⟩) (Kd.Q_types HO_4.out BK408.out (by decide)) (fun _ hk => hk.2) (.int .i64 ((rd_T47 t397 t414).f0))) (fun _ h_ => h_.1)))); (case side2 => exact (Kd.Q_reads' HO_4.out).2.1); rintro e w73 ⟨v418, rfl, ho0, hb⟩; refine ⟨_, rfl, ?_⟩; have n0_ := Aside0.mk (Kd.Q_below (by (with_reducible repeat (first | apply Kd.Q_alloc | apply Kd.Q_drewN | apply Kd.Q_drew)); exact (Kd.Q_mono (Kd.Q_far (p := ⟨gb408, 2, none⟩) (Kd.Q_types HO_4.out BK408.out (by decide)) (fun _ hk => hk.2) (.int .i64 ((rd_T47 t397 t414).f0))) (fun _ h_ => h_.1))) hb); have n1_ := Aside0.mk (Kd.R_lower ho0 (keep_size (w := w) (g := g) (row := none) keepA)); have n2_ := Aside0.mk (blk_below (g := gb396) (o := .cells #[.int .i64 0, .int .i64 0, .int .i64 0, .int .i64 0, .string (⟨#[]⟩ : ByteArray)] 40 (0, 0)) blkA hb); have n3_ := Aside0.mk (blk_below (g := gb408) (o := .cells #[.int .i64 t402, .int .i64 x409001_24, .int .i64 ((rd_T47 t397 t414).f0), .int .i64 t405, .string t406] 40 (0, 0)) (blk_put (blkC #[.int .i64 t402, .int .i64 x409001_24, .int .i64 t404, .int .i64 t405, .string t406]) 2 _ rfl) hb); have n4_ := Aside0.mk (IsS113.below (show IsS113 w0 (w69.setCell ⟨gb408, 2, none⟩ (.int .i64 ((rd_T47 t397 t414).f0))) g s0_0 t415 from stA) hb); have n5_ := Aside0.mk (KeepBut.trans keepA (KeepBut.of_below hb g none) (.inl rfl)); have n6_ := Aside0.mk (below_step belowA hb); clear HO_4; clear BK396; clear BK408; clear HI0; clear HK; clear HB; have HO_4 := n0_; have HO419 := n1_; have BK396 := n2_; have BK408 := n3_; have HI0 := n4_; have HK := n5_; have HB := n6_; clear n0_ n1_ n2_ n3_ n4_ n5_ n6_; (try clear hb); (try clear hb2); (try clear hk); (try clear hi); (try clear ho0); obtain ⟨Ao74, co74, eo74⟩ := Kd.R_slice HO419.out; subst eo74))
           have n0_ := Aside0.mk (Kd.Q_drew HO_4.out)
           have n1_ := Aside0.mk (Kd.R_drew HO419.out)
           have n2_ := Aside0.mk (blk_drew BK396.out)
           have n3_ := Aside0.mk (blk_drew BK408.out)
           have n4_ := Aside0.mk (IsS113.drew HI0.out)
           have n5_ := Aside0.mk (keep_drew HK.out)
           have n6_ := Aside0.mk (below_drew1 HB.out)
           clear HO_4
           clear HO419
           clear BK396
           clear BK408
           clear HI0
           clear HK
           clear HB
           have HO_4 := n0_
           have HO419 := n1_
           have BK396 := n2_
           have BK408 := n3_
           have HI0 := n4_
           have HK := n5_
           have HB := n6_
           clear n0_ n1_ n2_ n3_ n4_ n5_ n6_
           refine start_ (n := 4) (S := fun w' => w'.cell? ⟨gb408, 0, none⟩ = some (.int .i64 t402) ∧ w'.cell? ⟨gb408, 1, none⟩ = some (.int .i64 x409001_24) ∧ w'.cell? ⟨gb408, 2, none⟩ = some (.int .i64 ((rd_T47 t397 t414).f0)) ∧ w'.cell? ⟨gb408, 3, none⟩ = some (.int .i64 t405) ∧ w'.cell? ⟨gb408, 4, none⟩ = some (.string t406)) (ds := []) #[false, false, false, false] (by kernel_rfl) rfl rfl ⟨(blk_cell BK408.out 0).trans rfl, (blk_cell BK408.out 1).trans rfl, (blk_cell BK408.out 2).trans rfl, (blk_cell BK408.out 3).trans rfl, (blk_cell BK408.out 4).trans rfl⟩ (fun hHeld => ?_)
           generalize w73.drew = w75 at HO_4 HO419 BK396 BK408 HI0 HK HB hHeld ⊢
           refine pure_ (i := 0) (N := some 66) #[true, false, false, false] rfl rfl (by kernel_rfl) (fun _ _ _ h => h) yldA putA ?_
           refine pure_ (i := 2) (N := some 2) #[true, false, true, false] rfl rfl (by kernel_rfl) (fun _ _ _ h => h) yldA putA ?_
           refine take_ (i := 1) (N := some 67) #[true, true, true, false] rfl rfl (by kernel_rfl) (fun _ _ _ h => h) (Or.inl ⟨by rfl, by rintro w' ⟨s0, s1, s2, s3, s4⟩; go_simp; with_reducible rfl⟩) hHeld putA ?_
           refine one_ (i := 3) (N := none) #[true, true, true, true] rfl rfl (by kernel_rfl) (by decide) (fun K hK => ?_)
           have hs76 : w75.cell? ⟨gb396, 0, none⟩ = some (.int .i64 0) := (blk_cell BK396.out 0).trans rfl
           have hfs76 := blk_frozen BK396.out 0
           have hns76_1 := NB408_396.out
           have hms76_1 := NB396_408.out
           have hs77 : w75.cell? ⟨gb396, 1, none⟩ = some (.int .i64 0) := (blk_cell BK396.out 1).trans rfl
           have hfs77 := blk_frozen BK396.out 1
           have hns77_1 := NB408_396.out
           have hms77_1 := NB396_408.out
           have hs78 : w75.cell? ⟨gb396, 2, none⟩ = some (.int .i64 0) := (blk_cell BK396.out 2).trans rfl
           have hfs78 := blk_frozen BK396.out 2
           have hns78_1 := NB408_396.out
           have hms78_1 := NB396_408.out
           have hs79 : w75.cell? ⟨gb396, 3, none⟩ = some (.int .i64 0) := (blk_cell BK396.out 3).trans rfl
           have hfs79 := blk_frozen BK396.out 3
           have hns79_1 := NB408_396.out
           have hms79_1 := NB396_408.out
           have hs80 : w75.cell? ⟨gb396, 4, none⟩ = some (.string (⟨#[]⟩ : ByteArray)) := (blk_cell BK396.out 4).trans rfl
           have hfs80 := blk_frozen BK396.out 4
           have hns80_1 := NB408_396.out
           have hms80_1 := NB396_408.out
           refine skip_ (w1 := ?_) (by rfl) rfl ?_ ?_
           rotate_left
           ·go_simp
            rfl
           refine hK.out _ _ ⟨((cell_far (p := ⟨gb396, _, none⟩) NB408_396.out _).trans (((cell_far (p := ⟨gb396, _, none⟩) NB408_396.out _).trans (((cell_far (p := ⟨gb396, _, none⟩) NB408_396.out _).trans (((cell_far (p := ⟨gb396, _, none⟩) NB408_396.out _).trans (((cell_far (p := ⟨gb396, _, none⟩) NB408_396.out _).trans (hHeld.1)))))))))), ((cell_far (p := ⟨gb396, _, none⟩) NB408_396.out _).trans (((cell_far (p := ⟨gb396, _, none⟩) NB408_396.out _).trans (((cell_far (p := ⟨gb396, _, none⟩) NB408_396.out _).trans (((cell_far (p := ⟨gb396, _, none⟩) NB408_396.out _).trans (((cell_far (p := ⟨gb396, _, none⟩) NB408_396.out _).trans (hHeld.2.1)))))))))), ((cell_far (p := ⟨gb396, _, none⟩) NB408_396.out _).trans (((cell_far (p := ⟨gb396, _, none⟩) NB408_396.out _).trans (((cell_far (p := ⟨gb396, _, none⟩) NB408_396.out _).trans (((cell_far (p := ⟨gb396, _, none⟩) NB408_396.out _).trans (((cell_far (p := ⟨gb396, _, none⟩) NB408_396.out _).trans (hHeld.2.2.1)))))))))), ((cell_far (p := ⟨gb396, _, none⟩) NB408_396.out _).trans (((cell_far (p := ⟨gb396, _, none⟩) NB408_396.out _).trans (((cell_far (p := ⟨gb396, _, none⟩) NB408_396.out _).trans (((cell_far (p := ⟨gb396, _, none⟩) NB408_396.out _).trans (((cell_far (p := ⟨gb396, _, none⟩) NB408_396.out _).trans (hHeld.2.2.2.1)))))))))), ((cell_far (p := ⟨gb396, _, none⟩) NB408_396.out _).trans (((cell_far (p := ⟨gb396, _, none⟩) NB408_396.out _).trans (((cell_far (p := ⟨gb396, _, none⟩) NB408_396.out _).trans (((cell_far (p := ⟨gb396, _, none⟩) NB408_396.out _).trans (((cell_far (p := ⟨gb396, _, none⟩) NB408_396.out _).trans (hHeld.2.2.2.2))))))))))⟩ (fun hHeld => ?_)
           clear hK K
           refine done_ (by kernel_rfl) ?_
           try go_wp2
           refine bodyPost_ret (results_tc rfl _ _ gb396 40 #[.int .i64 t402, .int .i64 x409001_24, .int .i64 ((rd_T47 t397 t414).f0), .int .i64 t405, .string t406] (0, 0) _ rfl (blk_put (blk_put (blk_put (blk_put (blk_put (blkC #[.int .i64 0, .int .i64 0, .int .i64 0, .int .i64 0, .string (⟨#[]⟩ : ByteArray)]) 0 _ rfl) 1 _ rfl) 2 _ rfl) 3 _ rfl) 4 _ rfl) Tryd.underlying40 rfl (by kernel_rfl)) rfl ?_
           exact ⟨_, endA, by (with_reducible repeat (first | apply Kd.Q_alloc | apply Kd.Q_drewN | apply Kd.Q_drew)); exact Kd.Q_mono (Kd.Q_far (p := ⟨gb396, 4, none⟩) (Kd.Q_far (p := ⟨gb396, 3, none⟩) (Kd.Q_far (p := ⟨gb396, 2, none⟩) (Kd.Q_far (p := ⟨gb396, 1, none⟩) (Kd.Q_far (p := ⟨gb396, 0, none⟩) (Kd.Q_types HO_4.out BK396.out (by decide)) (fun _ hk => hk.2) (.int .i64 t402)) (fun _ hk => hk.2) (.int .i64 x409001_24)) (fun _ hk => hk.2) (.int .i64 ((rd_T47 t397 t414).f0))) (fun _ hk => hk.2) (.int .i64 t405)) (fun _ hk => hk.2) (.string t406)) (fun _ hk => trivial), stA, belowA, keepA⟩
         ·rw [if_neg c46] at H
          exact absurd H (by simp)
        ·rw [if_neg c45] at H
         exact absurd H (by simp)
       ·replace c43 := Bool.eq_false_iff.mpr c43
        subst c43
        have H1 : (some (t397, t402, x409001_24, t404, t405, t406, x1001_29)) = some (r1, r2, r3, r4, r5, r6, r7) := by rw [if_neg (show ¬ (false = true) by decide)] at H; exact H
        clear H
        have H := H1
        clear H1
        simp only [Option.some.injEq, Prod.mk.injEq] at H
        obtain ⟨rfl, rfl, rfl, rfl, rfl, rfl, rfl⟩ := H
        try go_wp2
        have n0_ := Aside0.mk (Kd.Q_drew HO_4.out)
        have n1_ := Aside0.mk (blk_drew BK396.out)
        have n2_ := Aside0.mk (blk_drew BK408.out)
        have n3_ := Aside0.mk (IsS113.drew HI0.out)
        have n4_ := Aside0.mk (keep_drew HK.out)
        have n5_ := Aside0.mk (below_drew1 HB.out)
        clear HO_4
        clear BK396
        clear BK408
        clear HI0
        clear HK
        clear HB
        have HO_4 := n0_
        have BK396 := n1_
        have BK408 := n2_
        have HI0 := n3_
        have HK := n4_
        have HB := n5_
        clear n0_ n1_ n2_ n3_ n4_ n5_
        refine start_ (n := 4) (S := fun w' => w'.cell? ⟨gb408, 0, none⟩ = some (.int .i64 t402) ∧ w'.cell? ⟨gb408, 1, none⟩ = some (.int .i64 x409001_24) ∧ w'.cell? ⟨gb408, 2, none⟩ = some (.int .i64 t404) ∧ w'.cell? ⟨gb408, 3, none⟩ = some (.int .i64 t405) ∧ w'.cell? ⟨gb408, 4, none⟩ = some (.string t406)) (ds := []) #[false, false, false, false] (by kernel_rfl) rfl rfl ⟨(blk_cell BK408.out 0).trans rfl, (blk_cell BK408.out 1).trans rfl, (blk_cell BK408.out 2).trans rfl, (blk_cell BK408.out 3).trans rfl, (blk_cell BK408.out 4).trans rfl⟩ (fun hHeld => ?_)
        generalize wc.drew = w81 at HO_4 BK396 BK408 HI0 HK HB hHeld ⊢
        refine pure_ (i := 0) (N := some 66) #[true, false, false, false] rfl rfl (by kernel_rfl) (fun _ _ _ h => h) yldA putA ?_
        refine pure_ (i := 2) (N := some 2) #[true, false, true, false] rfl rfl (by kernel_rfl) (fun _ _ _ h => h) yldA putA ?_
        refine take_ (i := 1) (N := some 67) #[true, true, true, false] rfl rfl (by kernel_rfl) (fun _ _ _ h => h) (Or.inl ⟨by rfl, by rintro w' ⟨s0, s1, s2, s3, s4⟩; go_simp; with_reducible rfl⟩) hHeld putA ?_
        refine one_ (i := 3) (N := none) #[true, true, true, true] rfl rfl (by kernel_rfl) (by decide) (fun K hK => ?_)
        have hs82 : w81.cell? ⟨gb396, 0, none⟩ = some (.int .i64 0) := (blk_cell BK396.out 0).trans rfl
        have hfs82 := blk_frozen BK396.out 0
        have hns82_1 := NB408_396.out
        have hms82_1 := NB396_408.out
        have hs83 : w81.cell? ⟨gb396, 1, none⟩ = some (.int .i64 0) := (blk_cell BK396.out 1).trans rfl
        have hfs83 := blk_frozen BK396.out 1
        have hns83_1 := NB408_396.out
        have hms83_1 := NB396_408.out
        have hs84 : w81.cell? ⟨gb396, 2, none⟩ = some (.int .i64 0) := (blk_cell BK396.out 2).trans rfl
        have hfs84 := blk_frozen BK396.out 2
        have hns84_1 := NB408_396.out
        have hms84_1 := NB396_408.out
        have hs85 : w81.cell? ⟨gb396, 3, none⟩ = some (.int .i64 0) := (blk_cell BK396.out 3).trans rfl
        have hfs85 := blk_frozen BK396.out 3
        have hns85_1 := NB408_396.out
        have hms85_1 := NB396_408.out
        have hs86 : w81.cell? ⟨gb396, 4, none⟩ = some (.string (⟨#[]⟩ : ByteArray)) := (blk_cell BK396.out 4).trans rfl
        have hfs86 := blk_frozen BK396.out 4
        have hns86_1 := NB408_396.out
        have hms86_1 := NB396_408.out
        refine skip_ (w1 := ?_) (by rfl) rfl ?_ ?_
        rotate_left
        ·go_simp
         rfl
        refine hK.out _ _ ⟨((cell_far (p := ⟨gb396, _, none⟩) NB408_396.out _).trans (((cell_far (p := ⟨gb396, _, none⟩) NB408_396.out _).trans (((cell_far (p := ⟨gb396, _, none⟩) NB408_396.out _).trans (((cell_far (p := ⟨gb396, _, none⟩) NB408_396.out _).trans (((cell_far (p := ⟨gb396, _, none⟩) NB408_396.out _).trans (hHeld.1)))))))))), ((cell_far (p := ⟨gb396, _, none⟩) NB408_396.out _).trans (((cell_far (p := ⟨gb396, _, none⟩) NB408_396.out _).trans (((cell_far (p := ⟨gb396, _, none⟩) NB408_396.out _).trans (((cell_far (p := ⟨gb396, _, none⟩) NB408_396.out _).trans (((cell_far (p := ⟨gb396, _, none⟩) NB408_396.out _).trans (hHeld.2.1)))))))))), ((cell_far (p := ⟨gb396, _, none⟩) NB408_396.out _).trans (((cell_far (p := ⟨gb396, _, none⟩) NB408_396.out _).trans (((cell_far (p := ⟨gb396, _, none⟩) NB408_396.out _).trans (((cell_far (p := ⟨gb396, _, none⟩) NB408_396.out _).trans (((cell_far (p := ⟨gb396, _, none⟩) NB408_396.out _).trans (hHeld.2.2.1)))))))))), ((cell_far (p := ⟨gb396, _, none⟩) NB408_396.out _).trans (((cell_far (p := ⟨gb396, _, none⟩) NB408_396.out _).trans (((cell_far (p := ⟨gb396, _, none⟩) NB408_396.out _).trans (((cell_far (p := ⟨gb396, _, none⟩) NB408_396.out _).trans (((cell_far (p := ⟨gb396, _, none⟩) NB408_396.out _).trans (hHeld.2.2.2.1)))))))))), ((cell_far (p := ⟨gb396, _, none⟩) NB408_396.out _).trans (((cell_far (p := ⟨gb396, _, none⟩) NB408_396.out _).trans (((cell_far (p := ⟨gb396, _, none⟩) NB408_396.out _).trans (((cell_far (p := ⟨gb396, _, none⟩) NB408_396.out _).trans (((cell_far (p := ⟨gb396, _, none⟩) NB408_396.out _).trans (hHeld.2.2.2.2))))))))))⟩ (fun hHeld => ?_)
        clear hK K
        refine done_ (by kernel_rfl) ?_
        try go_wp2
        refine bodyPost_ret (results_tc rfl _ _ gb396 40 #[.int .i64 t402, .int .i64 x409001_24, .int .i64 t404, .int .i64 t405, .string t406] (0, 0) _ rfl (blk_put (blk_put (blk_put (blk_put (blk_put (blkC #[.int .i64 0, .int .i64 0, .int .i64 0, .int .i64 0, .string (⟨#[]⟩ : ByteArray)]) 0 _ rfl) 1 _ rfl) 2 _ rfl) 3 _ rfl) 4 _ rfl) Tryd.underlying40 rfl (by kernel_rfl)) rfl ?_
        exact ⟨_, endA, by (with_reducible repeat (first | apply Kd.Q_alloc | apply Kd.Q_drewN | apply Kd.Q_drew)); exact Kd.Q_mono (Kd.Q_far (p := ⟨gb396, 4, none⟩) (Kd.Q_far (p := ⟨gb396, 3, none⟩) (Kd.Q_far (p := ⟨gb396, 2, none⟩) (Kd.Q_far (p := ⟨gb396, 1, none⟩) (Kd.Q_far (p := ⟨gb396, 0, none⟩) (Kd.Q_types HO_4.out BK396.out (by decide)) (fun _ hk => hk.2) (.int .i64 t402)) (fun _ hk => hk.2) (.int .i64 x409001_24)) (fun _ hk => hk.2) (.int .i64 t404)) (fun _ hk => hk.2) (.int .i64 t405)) (fun _ hk => hk.2) (.string t406)) (fun _ hk => trivial), stA, belowA, keepA⟩
end Go.Proofs.YtaajcbbbmpdcnaaDoor.P
