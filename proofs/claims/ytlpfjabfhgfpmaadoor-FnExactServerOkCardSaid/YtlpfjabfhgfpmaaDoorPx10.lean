-- Written by wip/tools/pprint.py (a program of this session) over the kit's printer; not trusted: Lean checks it.
import Derived.Test.YtlpfjabfhgfpmaaDoorPx0
import Derived.Test.YtlpfjabfhgfpmaaDoorPx7
import Derived.Test.YtlpfjabfhgfpmaaDoorPx8
import Derived.Test.YtlpfjabfhgfpmaaDoorPx9
import Derived.Test.YtlpfjabfhgfpmaaDoorV
namespace Go.Proofs.YtlpfjabfhgfpmaaDoor.P
open Go.RowKit Go.Proofs.YtlpfjabfhgfpmaaDoorW.PrintWords Go.Proofs.YtlpfjabfhgfpmaaDoorW.PrintLast Go.Proofs.YtlpfjabfhgfpmaaDoorW.PrintMore
attribute [local go_sem] cell_set_set cell_set_far_set max2_int min2_int max_two min_two max_three min_three max_four min_four   -- for this text's walks alone
set_option linter.unusedVariables false
set_option linter.unusedSimpArgs false

/-! ### spec_l71Op: function 39 -/
mutual
def spec_l71Op.j1 : Nat → List Int → Int → Int → Int → Int → Int → ByteArray → Option (Int × Int × Int × Int × ByteArray × Int)
  | 0, _, _, _, _, _, _, _ => none
  | k + 1, x1000, x1001, x234000, x234001, x234002, x234003, x234004 => (spec_l6Rd_pick.f k x1000 x1001 30).bind fun bt252 => (if bt252.1 = 0 then ((spec_l6Rd_pick.f k x1000 bt252.2 5).bind fun bt254 => (some (bt254.1, x234001, x234002, x234003, x234004, bt254.2))) else (if bt252.1 = 1 then ((spec_l6Rd_pick.f k x1000 bt252.2 50).bind fun bt256 => (some (x234000, bt256.1, x234002, x234003, x234004, bt256.2))) else (if bt252.1 = 2 then ((spec_l6Rd_pick.f k x1000 bt252.2 50).bind fun bt258 => (some (x234000, x234001, bt258.1, x234003, x234004, bt258.2))) else (if bt252.1 = 3 then ((spec_l6Rd_pick.f k x1000 bt252.2 50).bind fun bt260 => (some (x234000, x234001, x234002, bt260.1, x234004, bt260.2))) else (some (x234000, x234001, x234002, x234003, x234004, bt252.2))))))
def spec_l71Op.j0 : Nat → Int → Int → Int → Bool → List Int → Int → Int → Int → Int → Int → ByteArray → Option (Int × Int × Int × Int × ByteArray × Int)
  | 0, _, _, _, _, _, _, _, _, _, _, _ => none
  | k + 1, x4, x5, x26, x27, x1000, x1001, x234000, x234001, x234002, x234003, x234004 => if x27 = true then (spec_l71Op.j1 k x1000 x1001 1 x234001 x4 x5 x234004) else (if x26 = 2 then (spec_l71Op.j1 k x1000 x1001 3 x234001 x4 x5 (⟨#[]⟩ : ByteArray)) else (if x26 = 3 then (spec_l71Op.j1 k x1000 x1001 3 x234001 x4 x5 (⟨#[]⟩ : ByteArray)) else (spec_l71Op.j1 k x1000 x1001 x234000 x234001 x234002 x234003 x234004)))
end
def spec_l71Op.f (k : Nat) (s0_0 : List Int) (s0_1 : Int) : Option (Int × Int × Int × Int × ByteArray × Int) := (spec_l71Id.f k s0_0 s0_1).bind fun bt229 => ((spec_l71Text.f k s0_0 bt229.2).bind fun bt231 => ((spec_l71Id.f k s0_0 bt231.2).bind fun bt234 => ((some (([1, 1, bt234.1, 2, 3] : List Int) : List Int)).bind fun y236 => ((spec_l6Rd_pick.f k s0_0 bt234.2 5).bind fun bt239 => (if 0 ≤ bt239.1 then (if bt239.1 < (y236.length : Int) then ((spec_l71Id.f k s0_0 bt239.2).bind fun bt242 => ((some (([0, bt242.1] : List Int) : List Int)).bind fun y244 => ((spec_l6Rd_pick.f k s0_0 bt242.2 2).bind fun bt247 => (if 0 ≤ bt247.1 then (if bt247.1 < (y244.length : Int) then ((spec_l6Rd_pick.f k s0_0 bt247.2 5).bind fun bt250 => (if bt250.1 = 0 then (spec_l71Op.j0 k (rd y236 bt239.1) (rd y244 bt247.1) bt250.1 (bt250.1 == 0) s0_0 bt250.2 2 bt229.1 0 0 bt231.1) else (spec_l71Op.j0 k (rd y236 bt239.1) (rd y244 bt247.1) bt250.1 (bt250.1 == 1) s0_0 bt250.2 2 bt229.1 0 0 bt231.1))) else (none)) else (none))))) else (none)) else (none))))))
theorem spec_l71Op.mono_l : ∀ k, (∀ y0 y1 y2 y3 y4 y5 y6, LeO (spec_l71Op.j1 k y0 y1 y2 y3 y4 y5 y6) (spec_l71Op.j1 (k + 1) y0 y1 y2 y3 y4 y5 y6)) ∧ (∀ y0 y1 y2 y3 y4 y5 y6 y7 y8 y9 y10, LeO (spec_l71Op.j0 k y0 y1 y2 y3 y4 y5 y6 y7 y8 y9 y10) (spec_l71Op.j0 (k + 1) y0 y1 y2 y3 y4 y5 y6 y7 y8 y9 y10))
  | 0 => ⟨fun _ _ _ _ _ _ _ r h => by simp [spec_l71Op.j1] at h, fun _ _ _ _ _ _ _ _ _ _ _ r h => by simp [spec_l71Op.j0] at h⟩
  | k + 1 => by
    obtain ⟨ih0, ih1⟩ := spec_l71Op.mono_l k
    refine ⟨?_, ?_⟩
    · intro y0 y1 y2 y3 y4 y5 y6
      unfold spec_l71Op.j1
      repeat' first
      | (with_reducible exact ih0 _ _ _ _ _ _ _)
      | (with_reducible exact ih1 _ _ _ _ _ _ _ _ _ _ _)
      | (with_reducible exact spec_l6Rd_pick.mono _ _ _ _)
      | (with_reducible exact spec_l71Id.mono _ _ _)
      | (with_reducible exact spec_l71Text.mono _ _ _)
      | (with_reducible exact LeO.refl _)
      | (with_reducible exact LeO.none _)
      | (with_reducible refine LeO.ite ?_ ?_)
      | (with_reducible refine LeO.bind ?_ (fun _ => ?_))
      | exact ih0 _ _ _ _ _ _ _
      | exact ih1 _ _ _ _ _ _ _ _ _ _ _
      | exact spec_l6Rd_pick.mono _ _ _ _
      | exact spec_l71Id.mono _ _ _
      | exact spec_l71Text.mono _ _ _
      | exact LeO.none _
      | refine LeO.ite ?_ ?_
      | refine LeO.bind ?_ (fun _ => ?_)
    · intro y0 y1 y2 y3 y4 y5 y6 y7 y8 y9 y10
      unfold spec_l71Op.j0
      repeat' first
      | (with_reducible exact ih0 _ _ _ _ _ _ _)
      | (with_reducible exact ih1 _ _ _ _ _ _ _ _ _ _ _)
      | (with_reducible exact spec_l6Rd_pick.mono _ _ _ _)
      | (with_reducible exact spec_l71Id.mono _ _ _)
      | (with_reducible exact spec_l71Text.mono _ _ _)
      | (with_reducible exact LeO.refl _)
      | (with_reducible exact LeO.none _)
      | (with_reducible refine LeO.ite ?_ ?_)
      | (with_reducible refine LeO.bind ?_ (fun _ => ?_))
      | exact ih0 _ _ _ _ _ _ _
      | exact ih1 _ _ _ _ _ _ _ _ _ _ _
      | exact spec_l6Rd_pick.mono _ _ _ _
      | exact spec_l71Id.mono _ _ _
      | exact spec_l71Text.mono _ _ _
      | exact LeO.none _
      | refine LeO.ite ?_ ?_
      | refine LeO.bind ?_ (fun _ => ?_)
theorem spec_l71Op.mono : ∀ a0 a1 k, LeO (spec_l71Op.f k a0 a1) (spec_l71Op.f (k + 1) a0 a1) := by
  intro a0 a1 k
  obtain ⟨ih0, ih1⟩ := spec_l71Op.mono_l k
  unfold spec_l71Op.f
  repeat' first
      | (with_reducible exact ih0 _ _ _ _ _ _ _)
      | (with_reducible exact ih1 _ _ _ _ _ _ _ _ _ _ _)
      | (with_reducible exact spec_l6Rd_pick.mono _ _ _ _)
      | (with_reducible exact spec_l71Id.mono _ _ _)
      | (with_reducible exact spec_l71Text.mono _ _ _)
      | (with_reducible exact LeO.refl _)
      | (with_reducible exact LeO.none _)
      | (with_reducible refine LeO.ite ?_ ?_)
      | (with_reducible refine LeO.bind ?_ (fun _ => ?_))
      | exact ih0 _ _ _ _ _ _ _
      | exact ih1 _ _ _ _ _ _ _ _ _ _ _
      | exact spec_l6Rd_pick.mono _ _ _ _
      | exact spec_l71Id.mono _ _ _
      | exact spec_l71Text.mono _ _ _
      | exact LeO.none _
      | refine LeO.ite ?_ ?_
      | refine LeO.bind ?_ (fun _ => ?_)
set_option maxHeartbeats 8000000 in
set_option maxRecDepth 100000 in
theorem spec_l71Op.calls (k : Nat) (g : Nat) (s0_0 : List Int) (s0_1 : Int) (r1 : Int) (r2 : Int) (r3 : Int) (r4 : Int) (r5 : ByteArray) (r6 : Int) (w0 w : World) (hI : IsS80 w0 w g s0_0 s0_1) (hB : Below w0.heap.size w0 w) (h : spec_l71Op.f k s0_0 s0_1 = some (r1, r2, r3, r4, r5, r6)) :
    Calls Tryd.prog 39 #[.pointer (some ⟨g, 0, none⟩)] w fun e w' => e = .returned (.agg #[.int .i64 r1, .int .i64 r2, .int .i64 r3, .int .i64 r4, .string r5]) ∧ IsS80 w0 w' g s0_0 r6 ∧ Below w0.heap.size w0 w' ∧ KeepBut w w' g none := by
  have hu24 := Tryd.underlying24
  have HI0 := Aside0.mk hI
  have HK := Aside0.mk (KeepBut.refl w g none)
  have HL := Aside0.mk hB.size
  clear hI
  have HW0 := Aside0.mk hB.size
  have HB := Aside0.mk hB
  clear hB
  have H : ((spec_l71Id.f k s0_0 s0_1).bind fun bt229 => ((spec_l71Text.f k s0_0 bt229.2).bind fun bt231 => ((spec_l71Id.f k s0_0 bt231.2).bind fun bt234 => ((some (([1, 1, bt234.1, 2, 3] : List Int) : List Int)).bind fun y236 => ((spec_l6Rd_pick.f k s0_0 bt234.2 5).bind fun bt239 => (if 0 ≤ bt239.1 then (if bt239.1 < (y236.length : Int) then ((spec_l71Id.f k s0_0 bt239.2).bind fun bt242 => ((some (([0, bt242.1] : List Int) : List Int)).bind fun y244 => ((spec_l6Rd_pick.f k s0_0 bt242.2 2).bind fun bt247 => (if 0 ≤ bt247.1 then (if bt247.1 < (y244.length : Int) then ((spec_l6Rd_pick.f k s0_0 bt247.2 5).bind fun bt250 => (if bt250.1 = 0 then (spec_l71Op.j0 k (rd y236 bt239.1) (rd y244 bt247.1) bt250.1 (bt250.1 == 0) s0_0 bt250.2 2 bt229.1 0 0 bt231.1) else (spec_l71Op.j0 k (rd y236 bt239.1) (rd y244 bt247.1) bt250.1 (bt250.1 == 1) s0_0 bt250.2 2 bt229.1 0 0 bt231.1))) else (none)) else (none))))) else (none)) else (none))))))) = some (r1, r2, r3, r4, r5, r6) := h
  clear h
  replace H := Option.bind_eq_some_iff.mp H
  obtain ⟨⟨t229, t230⟩, A20, H⟩ := H
  (try dsimp only at H)
  have A2 := Aside0.mk A20
  clear A20
  replace H := Option.bind_eq_some_iff.mp H
  obtain ⟨⟨t231, t232⟩, A30, H⟩ := H
  (try dsimp only at H)
  have A3 := Aside0.mk A30
  clear A30
  replace H := Option.bind_eq_some_iff.mp H
  obtain ⟨⟨t234, t235⟩, A40, H⟩ := H
  (try dsimp only at H)
  have A4 := Aside0.mk A40
  clear A40
  obtain ⟨y236, hy236⟩ : ∃ y_ : List Int, y_ = (([1, 1, t234, 2, 3] : List Int)) := ⟨_, rfl⟩
  replace H : ((spec_l6Rd_pick.f k s0_0 t235 5).bind fun bt239 => (if 0 ≤ bt239.1 then (if bt239.1 < (y236.length : Int) then ((spec_l71Id.f k s0_0 bt239.2).bind fun bt242 => ((some (([0, bt242.1] : List Int) : List Int)).bind fun y244 => ((spec_l6Rd_pick.f k s0_0 bt242.2 2).bind fun bt247 => (if 0 ≤ bt247.1 then (if bt247.1 < (y244.length : Int) then ((spec_l6Rd_pick.f k s0_0 bt247.2 5).bind fun bt250 => (if bt250.1 = 0 then (spec_l71Op.j0 k (rd y236 bt239.1) (rd y244 bt247.1) bt250.1 (bt250.1 == 0) s0_0 bt250.2 2 t229 0 0 t231) else (spec_l71Op.j0 k (rd y236 bt239.1) (rd y244 bt247.1) bt250.1 (bt250.1 == 1) s0_0 bt250.2 2 t229 0 0 t231))) else (none)) else (none))))) else (none)) else (none))) = some (r1, r2, r3, r4, r5, r6) := by first | (rw [hy236]; with_reducible exact H) | (have H2_ := (Option.bind_some _ _).symm.trans H; rw [hy236]; with_reducible exact H2_) | (have H2_ := (Option.bind_some _ _).symm.trans H; with_reducible exact H2_) | with_reducible exact H | (rw [hy236]; exact H) | exact H
  have Ny236 := Aside0.mk hy236
  clear hy236
  replace H := Option.bind_eq_some_iff.mp H
  obtain ⟨⟨t239, t240⟩, A50, H⟩ := H
  (try dsimp only at H)
  have A5 := Aside0.mk A50
  clear A50
  by_cases c6 : 0 ≤ t239
  · rw [if_pos c6] at H
    have c6b0 : decide (0 ≤ t239) = true := decide_eq_true c6
    clear c6
    by_cases c7 : t239 < (y236.length : Int)
    · rw [if_pos c7] at H
      have c7b0 : decide (t239 < (y236.length : Int)) = true := decide_eq_true c7
      clear c7
      replace H := Option.bind_eq_some_iff.mp H
      obtain ⟨⟨t242, t243⟩, A80, H⟩ := H
      (try dsimp only at H)
      have A8 := Aside0.mk A80
      clear A80
      obtain ⟨y244, hy244⟩ : ∃ y_ : List Int, y_ = (([0, t242] : List Int)) := ⟨_, rfl⟩
      replace H : ((spec_l6Rd_pick.f k s0_0 t243 2).bind fun bt247 => (if 0 ≤ bt247.1 then (if bt247.1 < (y244.length : Int) then ((spec_l6Rd_pick.f k s0_0 bt247.2 5).bind fun bt250 => (if bt250.1 = 0 then (spec_l71Op.j0 k (rd y236 t239) (rd y244 bt247.1) bt250.1 (bt250.1 == 0) s0_0 bt250.2 2 t229 0 0 t231) else (spec_l71Op.j0 k (rd y236 t239) (rd y244 bt247.1) bt250.1 (bt250.1 == 1) s0_0 bt250.2 2 t229 0 0 t231))) else (none)) else (none))) = some (r1, r2, r3, r4, r5, r6) := by first | (rw [hy244]; with_reducible exact H) | (have H2_ := (Option.bind_some _ _).symm.trans H; rw [hy244]; with_reducible exact H2_) | (have H2_ := (Option.bind_some _ _).symm.trans H; with_reducible exact H2_) | with_reducible exact H | (rw [hy244]; exact H) | exact H
      have Ny244 := Aside0.mk hy244
      clear hy244
      replace H := Option.bind_eq_some_iff.mp H
      obtain ⟨⟨t247, t248⟩, A90, H⟩ := H
      (try dsimp only at H)
      have A9 := Aside0.mk A90
      clear A90
      by_cases c10 : 0 ≤ t247
      · rw [if_pos c10] at H
        have c10b0 : decide (0 ≤ t247) = true := decide_eq_true c10
        clear c10
        by_cases c11 : t247 < (y244.length : Int)
        · rw [if_pos c11] at H
          have c11b0 : decide (t247 < (y244.length : Int)) = true := decide_eq_true c11
          clear c11
          replace H := Option.bind_eq_some_iff.mp H
          obtain ⟨⟨t250, t251⟩, A120, H⟩ := H
          (try dsimp only at H)
          have A12 := Aside0.mk A120
          clear A120
          have HC13 := Aside0.mk H
          clear H
          go_enter Tryd.func39, Tryd.ntmps39
          go_upto_block 0 with (first | ((with_reducible refine gate_dst (N := 2) rfl ?_); refine box_event ?hg (N := 2) ?hd (cs := #[.int .i64 0, .int .i64 0, .int .i64 0, .int .i64 0, .string (⟨#[]⟩ : ByteArray)]) (t := 24) ?hr ?_; (case hd => rfl); (case hg => rfl); (case hr => first | (go_simp; done) | (go_simp; rfl)); intro gb228 hg w14 hbox hb; have n0_ := Aside0.mk (IsS80.below stA hb); have n1_ := Aside0.mk (KeepBut.trans keepA (KeepBut.of_below hb g none) (.inl rfl)); have n2_ := Aside0.mk (below_step belowA hb); have n3_ := Aside0.mk (hbox); have n4_ := Aside0.mk ((by rw [hg]; exact (keep_size (w := w) (g := g) (row := none) keepA) : w.heap.size ≤ gb228)); have n5_ := Aside0.mk ((Nat.le_trans HW0.out (by rw [hg]; exact (keep_size (w := w) (g := g) (row := none) keepA) : w.heap.size ≤ gb228) : w0.heap.size ≤ gb228)); have n6_ := Aside0.mk ((by rw [hg]; exact Nat.ne_of_lt (IsS80.lt (show IsS80 w0 _ g s0_0 s0_1 from stA)) : g ≠ gb228)); have n7_ := Aside0.mk ((by rw [hg]; exact Nat.ne_of_gt (IsS80.lt (show IsS80 w0 _ g s0_0 s0_1 from stA)) : gb228 ≠ g)); clear HI0; clear HK; clear HB; have HI0 := n0_; have HK := n1_; have HB := n2_; have BK228 := n3_; have GW228 := n4_; have GE228 := n5_; have NB0_228 := n6_; have NB228_0 := n7_; clear n0_ n1_ n2_ n3_ n4_ n5_ n6_ n7_; clear hb hbox hg) | ((with_reducible refine gate_callee (f := 55) rfl ?_); refine goesL_ (some 7) rfl rfl Tryd.func55 (by kernel_rfl) rfl #[.pointer (some ⟨g, 0, none⟩)] rfl argsA ?_; (with_reducible refine (spec_l71Id.calls k g s0_0 s0_1 t229 t230 w0 _ ?side1 ?side2 A2.out).mono ?_); (case side1 => exact stA); (case side2 => exact belowA); rintro e w15 ⟨rfl, hi, hb, hk⟩; refine ⟨_, rfl, ?_⟩; have n0_ := Aside0.mk (KeepBut.blk hk (g' := gb228) (o := .cells #[.int .i64 0, .int .i64 0, .int .i64 0, .int .i64 0, .string (⟨#[]⟩ : ByteArray)] 24 (0, 0)) blkA NB228_0.out (by simp)); have n1_ := Aside0.mk (KeepBut.trans keepA hk (.inl rfl)); have n2_ := Aside0.mk (hb); have n3_ := Aside0.mk (hi); clear BK228; clear HK; clear HB; clear HI0; have BK228 := n0_; have HK := n1_; have HB := n2_; have HI0 := n3_; clear n0_ n1_ n2_ n3_; (try clear hb); (try clear hb2); (try clear hk); (try clear hi)) | ((with_reducible refine gate_callee (f := 56) rfl ?_); refine goesL_ (some 9) rfl rfl Tryd.func56 (by kernel_rfl) rfl #[.pointer (some ⟨g, 0, none⟩)] rfl argsA ?_; (with_reducible refine (spec_l71Text.calls k g s0_0 t230 t231 t232 w0 _ ?side1 ?side2 A3.out).mono ?_); (case side1 => exact stA); (case side2 => exact belowA); rintro e w16 ⟨rfl, hi, hb, hk⟩; refine ⟨_, rfl, ?_⟩; have n0_ := Aside0.mk (KeepBut.blk hk (g' := gb228) (o := .cells #[.int .i64 0, .int .i64 0, .int .i64 0, .int .i64 0, .string (⟨#[]⟩ : ByteArray)] 24 (0, 0)) blkA NB228_0.out (by simp)); have n1_ := Aside0.mk (KeepBut.trans keepA hk (.inl rfl)); have n2_ := Aside0.mk (hb); have n3_ := Aside0.mk (hi); clear BK228; clear HK; clear HB; clear HI0; have BK228 := n0_; have HK := n1_; have HB := n2_; have HI0 := n3_; clear n0_ n1_ n2_ n3_; (try clear hb); (try clear hb2); (try clear hk); (try clear hi)) | ((with_reducible refine gate_dst (N := 3) rfl ?_); refine box_event ?hg (N := 3) ?hd (cs := #[.int .i64 0, .int .i64 0, .int .i64 0, .int .i64 0, .string (⟨#[]⟩ : ByteArray)]) (t := 24) ?hr ?_; (case hd => rfl); (case hg => rfl); (case hr => first | (go_simp; done) | (go_simp; rfl)); intro gb233 hg w17 hbox hb; have n0_ := Aside0.mk (IsS80.below stA hb); have n1_ := Aside0.mk (blk_below (g := gb228) (o := .cells #[.int .i64 0, .int .i64 0, .int .i64 0, .int .i64 0, .string (⟨#[]⟩ : ByteArray)] 24 (0, 0)) blkA hb); have n2_ := Aside0.mk (KeepBut.trans keepA (KeepBut.of_below hb g none) (.inl rfl)); have n3_ := Aside0.mk (below_step belowA hb); have n4_ := Aside0.mk (hbox); have n5_ := Aside0.mk ((by rw [hg]; exact (keep_size (w := w) (g := g) (row := none) keepA) : w.heap.size ≤ gb233)); have n6_ := Aside0.mk ((Nat.le_trans HW0.out (by rw [hg]; exact (keep_size (w := w) (g := g) (row := none) keepA) : w.heap.size ≤ gb233) : w0.heap.size ≤ gb233)); have n7_ := Aside0.mk ((by rw [hg]; exact Nat.ne_of_lt (blk_lt (g := gb228) (o := .cells #[.int .i64 0, .int .i64 0, .int .i64 0, .int .i64 0, .string (⟨#[]⟩ : ByteArray)] 24 (0, 0)) blkA) : gb228 ≠ gb233)); have n8_ := Aside0.mk ((by rw [hg]; exact Nat.ne_of_gt (blk_lt (g := gb228) (o := .cells #[.int .i64 0, .int .i64 0, .int .i64 0, .int .i64 0, .string (⟨#[]⟩ : ByteArray)] 24 (0, 0)) blkA) : gb233 ≠ gb228)); have n9_ := Aside0.mk ((by rw [hg]; exact Nat.ne_of_lt (IsS80.lt (show IsS80 w0 _ g s0_0 t232 from stA)) : g ≠ gb233)); have n10_ := Aside0.mk ((by rw [hg]; exact Nat.ne_of_gt (IsS80.lt (show IsS80 w0 _ g s0_0 t232 from stA)) : gb233 ≠ g)); clear HI0; clear BK228; clear HK; clear HB; have HI0 := n0_; have BK228 := n1_; have HK := n2_; have HB := n3_; have BK233 := n4_; have GW233 := n5_; have GE233 := n6_; have NB228_233 := n7_; have NB233_228 := n8_; have NB0_233 := n9_; have NB233_0 := n10_; clear n0_ n1_ n2_ n3_ n4_ n5_ n6_ n7_ n8_ n9_ n10_; clear hb hbox hg; have hnb18 := NB233_228.out; have hnc18 := NB228_233.out; have hnb19 := NB233_0.out; have hnc19 := NB0_233.out; obtain ⟨hcz20_0, hcz20_1, hcz20_2, hcz20_3, hcz20_4, hfz20_0, hfz20_1, hfz20_2, hfz20_3, hfz20_4⟩ := blk_facts5 BK233.out) | ((with_reducible refine gate_callee (f := 55) rfl ?_); refine goesL_ (some 12) rfl rfl Tryd.func55 (by kernel_rfl) rfl #[.pointer (some ⟨g, 0, none⟩)] rfl argsA ?_; (with_reducible refine (spec_l71Id.calls k g s0_0 t232 t234 t235 w0 _ ?side1 ?side2 A4.out).mono ?_); (case side1 => exact stA); (case side2 => exact belowA); rintro e w21 ⟨rfl, hi, hb, hk⟩; refine ⟨_, rfl, ?_⟩; have n0_ := Aside0.mk (KeepBut.blk hk (g' := gb228) (o := .cells #[.int .i64 0, .int .i64 0, .int .i64 0, .int .i64 0, .string (⟨#[]⟩ : ByteArray)] 24 (0, 0)) blkA NB228_0.out (by simp)); have n1_ := Aside0.mk (KeepBut.blk hk (g' := gb233) (o := .cells #[.int .i64 2, .int .i64 t229, .int .i64 0, .int .i64 0, .string t231] 24 (0, 0)) (blk_put (blk_put (blk_put (blk_put (blk_put (blkC #[.int .i64 0, .int .i64 0, .int .i64 0, .int .i64 0, .string (⟨#[]⟩ : ByteArray)]) 0 _ rfl) 1 _ rfl) 2 _ rfl) 3 _ rfl) 4 _ rfl) NB233_0.out (by simp)); have n2_ := Aside0.mk (KeepBut.trans keepA hk (.inl rfl)); have n3_ := Aside0.mk (hb); have n4_ := Aside0.mk (hi); clear BK228; clear BK233; clear HK; clear HB; clear HI0; have BK228 := n0_; have BK233 := n1_; have HK := n2_; have HB := n3_; have HI0 := n4_; clear n0_ n1_ n2_ n3_ n4_; (try clear hb); (try clear hb2); (try clear hk); (try clear hi)) | ((with_reducible refine gate_dst (N := 13) rfl ?_); refine Kd.R_lit (Kd.int .i64) _ 3 ?hg (N := 13) ?hd (xs := ([1, 1, t234, 2, 3] : List Int)) (inner := [.int .i64 1, .int .i64 1, .int .i64 t234, .int .i64 2, .int .i64 3]) (ok := fun _ => True) (okp := fun _ => True) ?hr ?hp (fun _ hk => hk) trivial (Below.refl _ _) (Nat.le_refl _) (by simp) ?_; (case hd => rfl); (case hg => rfl); (case hr => first | (go_simp; done) | (go_simp; rfl)); (case hp => exact (Reps.one (show Kd.M (Kd.int .i64) _ _ _ 1 [.int .i64 1] from rfl) (Reps.one (show Kd.M (Kd.int .i64) _ _ _ 1 [.int .i64 1] from rfl) (Reps.one (show Kd.M (Kd.int .i64) _ _ _ t234 [.int .i64 t234] from rfl) (Reps.one (show Kd.M (Kd.int .i64) _ _ _ 2 [.int .i64 2] from rfl) (Reps.one (show Kd.M (Kd.int .i64) _ _ _ 3 [.int .i64 3] from rfl) (Reps.none _ _))))))); intro v237 w22 ho23 hb hg_ hnew_; clear hg_ hnew_; (first | rw [← Ny236.out] at ho23 | (simp only [Int.reduceToNat] at ho23; rw [← Ny236.out] at ho23)); have n0_ := Aside0.mk (Kd.R_lower ho23 (keep_size (w := w) (g := g) (row := none) keepA)); have n1_ := Aside0.mk (IsS80.below stA hb); have n2_ := Aside0.mk (blk_below (g := gb228) (o := .cells #[.int .i64 0, .int .i64 0, .int .i64 0, .int .i64 0, .string (⟨#[]⟩ : ByteArray)] 24 (0, 0)) blkA hb); have n3_ := Aside0.mk (blk_below (g := gb233) (o := .cells #[.int .i64 2, .int .i64 t229, .int .i64 0, .int .i64 0, .string t231] 24 (0, 0)) blkA hb); have n4_ := Aside0.mk (KeepBut.trans keepA (KeepBut.of_below hb g none) (.inl rfl)); have n5_ := Aside0.mk (below_step belowA hb); clear HI0; clear BK228; clear BK233; clear HK; clear HB; have HO238 := n0_; have HI0 := n1_; have BK228 := n2_; have BK233 := n3_; have HK := n4_; have HB := n5_; clear n0_ n1_ n2_ n3_ n4_ n5_; clear hb ho23) | ((with_reducible refine gate_callee (f := 38) rfl ?_); refine goesL_ (some 15) rfl rfl Tryd.func38 (by kernel_rfl) rfl #[.pointer (some ⟨g, 0, none⟩), .int .i64 5] rfl argsA ?_; (with_reducible refine (spec_l6Rd_pick.calls k g s0_0 t235 5 t239 t240 w0 _ ?side1 ?side2 A5.out).mono ?_); (case side1 => exact stA); (case side2 => exact belowA); rintro e w24 ⟨rfl, hi, hb, hk⟩; refine ⟨_, rfl, ?_⟩; have n0_ := Aside0.mk (KeepBut.blk hk (g' := gb228) (o := .cells #[.int .i64 0, .int .i64 0, .int .i64 0, .int .i64 0, .string (⟨#[]⟩ : ByteArray)] 24 (0, 0)) blkA NB228_0.out (by simp)); have n1_ := Aside0.mk (KeepBut.blk hk (g' := gb233) (o := .cells #[.int .i64 2, .int .i64 t229, .int .i64 0, .int .i64 0, .string t231] 24 (0, 0)) blkA NB233_0.out (by simp)); have n2_ := Aside0.mk (Kd.R_mono (Kd.R_keep (IsS80.apart (show IsS80 w0 _ g s0_0 t235 from stA) (RA HO238) (by decide)) hk (fun _ h => h.2)) (fun _ h => h.1)); have n3_ := Aside0.mk (KeepBut.trans keepA hk (.inl rfl)); have n4_ := Aside0.mk (hb); have n5_ := Aside0.mk (hi); clear BK228; clear BK233; clear HO238; clear HK; clear HB; clear HI0; have BK228 := n0_; have BK233 := n1_; have HO238 := n2_; have HK := n3_; have HB := n4_; have HI0 := n5_; clear n0_ n1_ n2_ n3_ n4_ n5_; (try clear hb); (try clear hb2); (try clear hk); (try clear hi); obtain ⟨Ao25, co25, eo25⟩ := Kd.R_slice HO238.out; subst eo25; have p241 : 0 ≤ (t239 : Int) := of_decide_eq_true (by first | (with_reducible assumption) | assumption); have q241 : t239 < (y236.length : Int) := of_decide_eq_true (by first | (with_reducible assumption) | assumption); obtain ⟨ad241, e241, hx241_0⟩ := Kd.at_int (Kd.R_reads' HO238.out).2.2 t239 p241 q241; cases e241; replace p241 := eq_true p241; replace q241 := eq_true q241) | ((with_reducible refine gate_callee (f := 55) rfl ?_); refine goesL_ (some 19) rfl rfl Tryd.func55 (by kernel_rfl) rfl #[.pointer (some ⟨g, 0, none⟩)] rfl argsA ?_; (with_reducible refine (spec_l71Id.calls k g s0_0 t240 t242 t243 w0 _ ?side1 ?side2 A8.out).mono ?_); (case side1 => exact stA); (case side2 => exact belowA); rintro e w26 ⟨rfl, hi, hb, hk⟩; refine ⟨_, rfl, ?_⟩; have n0_ := Aside0.mk (KeepBut.blk hk (g' := gb228) (o := .cells #[.int .i64 0, .int .i64 0, .int .i64 0, .int .i64 0, .string (⟨#[]⟩ : ByteArray)] 24 (0, 0)) blkA NB228_0.out (by simp)); have n1_ := Aside0.mk (KeepBut.blk hk (g' := gb233) (o := .cells #[.int .i64 2, .int .i64 t229, .int .i64 0, .int .i64 0, .string t231] 24 (0, 0)) blkA NB233_0.out (by simp)); have n2_ := Aside0.mk (Kd.R_mono (Kd.R_keep (IsS80.apart (show IsS80 w0 _ g s0_0 t240 from stA) (RA HO238) (by decide)) hk (fun _ h => h.2)) (fun _ h => h.1)); have n3_ := Aside0.mk (KeepBut.trans keepA hk (.inl rfl)); have n4_ := Aside0.mk (hb); have n5_ := Aside0.mk (hi); clear BK228; clear BK233; clear HO238; clear HK; clear HB; clear HI0; have BK228 := n0_; have BK233 := n1_; have HO238 := n2_; have HK := n3_; have HB := n4_; have HI0 := n5_; clear n0_ n1_ n2_ n3_ n4_ n5_; (try clear hb); (try clear hb2); (try clear hk); (try clear hi)) | ((with_reducible refine gate_dst (N := 20) rfl ?_); refine Kd.R_lit (Kd.int .i64) _ 3 ?hg (N := 20) ?hd (xs := ([0, t242] : List Int)) (inner := [.int .i64 0, .int .i64 t242]) (ok := fun _ => True) (okp := fun _ => True) ?hr ?hp (fun _ hk => hk) trivial (Below.refl _ _) (Nat.le_refl _) (by simp) ?_; (case hd => rfl); (case hg => rfl); (case hr => first | (go_simp; done) | (go_simp; rfl)); (case hp => exact (Reps.one (show Kd.M (Kd.int .i64) _ _ _ 0 [.int .i64 0] from rfl) (Reps.one (show Kd.M (Kd.int .i64) _ _ _ t242 [.int .i64 t242] from rfl) (Reps.none _ _)))); intro v245 w27 ho28 hb hg_ hnew_; clear hg_ hnew_; (first | rw [← Ny244.out] at ho28 | (simp only [Int.reduceToNat] at ho28; rw [← Ny244.out] at ho28)); have n0_ := Aside0.mk (Kd.R_elder' (RA HO238) (Kd.R_base ho28) hb); have n1_ := Aside0.mk (Kd.R_lower (Kd.R_new' ho28 (Kd.R_lt (RA HO238))) (keep_size (w := w) (g := g) (row := none) keepA)); have n2_ := Aside0.mk (IsS80.below stA hb); have n3_ := Aside0.mk (blk_below (g := gb228) (o := .cells #[.int .i64 0, .int .i64 0, .int .i64 0, .int .i64 0, .string (⟨#[]⟩ : ByteArray)] 24 (0, 0)) blkA hb); have n4_ := Aside0.mk (blk_below (g := gb233) (o := .cells #[.int .i64 2, .int .i64 t229, .int .i64 0, .int .i64 0, .string t231] 24 (0, 0)) blkA hb); have n5_ := Aside0.mk (KeepBut.trans keepA (KeepBut.of_below hb g none) (.inl rfl)); have n6_ := Aside0.mk (below_step belowA hb); clear HO238; clear HI0; clear BK228; clear BK233; clear HK; clear HB; have HO238 := n0_; have HO246 := n1_; have HI0 := n2_; have BK228 := n3_; have BK233 := n4_; have HK := n5_; have HB := n6_; clear n0_ n1_ n2_ n3_ n4_ n5_ n6_; clear hb ho28) | ((with_reducible refine gate_callee (f := 38) rfl ?_); refine goesL_ (some 22) rfl rfl Tryd.func38 (by kernel_rfl) rfl #[.pointer (some ⟨g, 0, none⟩), .int .i64 2] rfl argsA ?_; (with_reducible refine (spec_l6Rd_pick.calls k g s0_0 t243 2 t247 t248 w0 _ ?side1 ?side2 A9.out).mono ?_); (case side1 => exact stA); (case side2 => exact belowA); rintro e w29 ⟨rfl, hi, hb, hk⟩; refine ⟨_, rfl, ?_⟩; have n0_ := Aside0.mk (KeepBut.blk hk (g' := gb228) (o := .cells #[.int .i64 0, .int .i64 0, .int .i64 0, .int .i64 0, .string (⟨#[]⟩ : ByteArray)] 24 (0, 0)) blkA NB228_0.out (by simp)); have n1_ := Aside0.mk (KeepBut.blk hk (g' := gb233) (o := .cells #[.int .i64 2, .int .i64 t229, .int .i64 0, .int .i64 0, .string t231] 24 (0, 0)) blkA NB233_0.out (by simp)); have n2_ := Aside0.mk (Kd.R_mono (Kd.R_keep (IsS80.apart (show IsS80 w0 _ g s0_0 t243 from stA) (RA HO238) (by decide)) hk (fun _ h => h.2)) (fun _ h => h.1)); have n3_ := Aside0.mk (Kd.R_mono (Kd.R_keep (IsS80.apart (show IsS80 w0 _ g s0_0 t243 from stA) (RA HO246) (by decide)) hk (fun _ h => h.2)) (fun _ h => h.1)); have n4_ := Aside0.mk (KeepBut.trans keepA hk (.inl rfl)); have n5_ := Aside0.mk (hb); have n6_ := Aside0.mk (hi); clear BK228; clear BK233; clear HO238; clear HO246; clear HK; clear HB; clear HI0; have BK228 := n0_; have BK233 := n1_; have HO238 := n2_; have HO246 := n3_; have HK := n4_; have HB := n5_; have HI0 := n6_; clear n0_ n1_ n2_ n3_ n4_ n5_ n6_; (try clear hb); (try clear hb2); (try clear hk); (try clear hi); obtain ⟨Ao30, co30, eo30⟩ := Kd.R_slice HO246.out; subst eo30; have p249 : 0 ≤ (t247 : Int) := of_decide_eq_true (by first | (with_reducible assumption) | assumption); have q249 : t247 < (y244.length : Int) := of_decide_eq_true (by first | (with_reducible assumption) | assumption); obtain ⟨ad249, e249, hx249_0⟩ := Kd.at_int (Kd.R_reads' HO246.out).2.2 t247 p249 q249; cases e249; replace p249 := eq_true p249; replace q249 := eq_true q249) | ((with_reducible refine gate_callee (f := 38) rfl ?_); refine goesL_ (some 26) rfl rfl Tryd.func38 (by kernel_rfl) rfl #[.pointer (some ⟨g, 0, none⟩), .int .i64 5] rfl argsA ?_; (with_reducible refine (spec_l6Rd_pick.calls k g s0_0 t248 5 t250 t251 w0 _ ?side1 ?side2 A12.out).mono ?_); (case side1 => exact stA); (case side2 => exact belowA); rintro e w31 ⟨rfl, hi, hb, hk⟩; refine ⟨_, rfl, ?_⟩; have n0_ := Aside0.mk (KeepBut.blk hk (g' := gb228) (o := .cells #[.int .i64 0, .int .i64 0, .int .i64 0, .int .i64 0, .string (⟨#[]⟩ : ByteArray)] 24 (0, 0)) blkA NB228_0.out (by simp)); have n1_ := Aside0.mk (KeepBut.blk hk (g' := gb233) (o := .cells #[.int .i64 2, .int .i64 t229, .int .i64 0, .int .i64 0, .string t231] 24 (0, 0)) blkA NB233_0.out (by simp)); have n2_ := Aside0.mk (Kd.R_mono (Kd.R_keep (IsS80.apart (show IsS80 w0 _ g s0_0 t248 from stA) (RA HO238) (by decide)) hk (fun _ h => h.2)) (fun _ h => h.1)); have n3_ := Aside0.mk (Kd.R_mono (Kd.R_keep (IsS80.apart (show IsS80 w0 _ g s0_0 t248 from stA) (RA HO246) (by decide)) hk (fun _ h => h.2)) (fun _ h => h.1)); have n4_ := Aside0.mk (KeepBut.trans keepA hk (.inl rfl)); have n5_ := Aside0.mk (hb); have n6_ := Aside0.mk (hi); clear BK228; clear BK233; clear HO238; clear HO246; clear HK; clear HB; clear HI0; have BK228 := n0_; have BK233 := n1_; have HO238 := n2_; have HO246 := n3_; have HK := n4_; have HB := n5_; have HI0 := n6_; clear n0_ n1_ n2_ n3_ n4_ n5_ n6_; (try clear hb); (try clear hb2); (try clear hk); (try clear hi)))
          (try simp only [Act.put, List.setIfInBounds_toArray, List.set_cons_zero, List.set_cons_succ])
          go_cut [] (fun wc => ∃ (kq : Nat) (x234000_12 : Int) (x234001_12 : Int) (x234002_12 : Int) (x234003_12 : Int) (x234004_12 : ByteArray), Aside0 (spec_l71Op.j1 kq s0_0 t251 x234000_12 x234001_12 x234002_12 x234003_12 x234004_12 = some (r1, r2, r3, r4, r5, r6)) ∧ Aside0 (kq ≤ k) ∧ Aside0 (wc.heap[gb228]? = some (.cells #[.int .i64 0, .int .i64 0, .int .i64 0, .int .i64 0, .string (⟨#[]⟩ : ByteArray)] 24 (0, 0))) ∧ Aside0 (wc.heap[gb233]? = some (.cells #[.int .i64 x234000_12, .int .i64 x234001_12, .int .i64 x234002_12, .int .i64 x234003_12, .string x234004_12] 24 (0, 0))) ∧ Aside0 (IsS80 w0 wc g s0_0 t251) ∧ Aside0 (KeepBut w wc g none) ∧ Aside0 (Below w0.heap.size w0 wc))
          case first =>
            have H := HC13.out
            clear HC13
            have HC32 := Aside0.mk H
            clear H
            go_upto_if 27 with (fail)
            go_cut [27] (fun v27 wc => ∃ (kq : Nat) (x27_31 : Bool), v27 = .bool x27_31 ∧ Aside0 (spec_l71Op.j0 kq (rd y236 t239) (rd y244 t247) t250 x27_31 s0_0 t251 2 t229 0 0 t231 = some (r1, r2, r3, r4, r5, r6)) ∧ Aside0 (kq ≤ k) ∧ Aside0 (wc.heap[gb228]? = some (.cells #[.int .i64 0, .int .i64 0, .int .i64 0, .int .i64 0, .string (⟨#[]⟩ : ByteArray)] 24 (0, 0))) ∧ Aside0 (wc.heap[gb233]? = some (.cells #[.int .i64 2, .int .i64 t229, .int .i64 0, .int .i64 0, .string t231] 24 (0, 0))) ∧ Aside0 (IsS80 w0 wc g s0_0 t251) ∧ Aside0 (KeepBut w wc g none) ∧ Aside0 (Below w0.heap.size w0 wc))
            case first =>
              have H := HC32.out
              clear HC32
              by_cases c33 : t250 = 0
              · rw [if_pos c33] at H
                have c33b0 : (t250 == 0) = true := beq_iff_eq.mpr c33
                have c33b1 : (t250 != 0) = false := bne_eq_false_iff_eq.mpr c33
                clear c33
                (first | rw [c33b0] | (simp only [i64_w, i32_w]; rw [c33b0]) | skip)
                have H' := Aside0.mk H
                clear H
                go_wp2
                go_meet
                case rel => exact ⟨_, ((t250 == 0)), (by first | rfl | (simp; done) | (simp [*]; done)), H', ⟨by first | omega | exact Nat.le_refl _⟩, ⟨by (with_reducible repeat (first | refine blk_drewN ?_ _ | refine blk_drew ?_ | refine blk_alloc ?_ _)); exact BK228.out⟩, ⟨by (with_reducible repeat (first | refine blk_drewN ?_ _ | refine blk_drew ?_ | refine blk_alloc ?_ _)); exact BK233.out⟩, ⟨stA⟩, ⟨keepA⟩, ⟨belowA⟩⟩
              · rw [if_neg c33] at H
                have c33b0 : (t250 == 0) = false := beq_eq_false_iff_ne.mpr c33
                have c33b1 : (t250 != 0) = true := bne_iff_ne.mpr c33
                (first | rw [c33b0] | (simp only [i64_w, i32_w]; rw [c33b0]) | skip)
                have H' := Aside0.mk H
                clear H
                go_wp2
                go_meet
                case rel => exact ⟨_, ((t250 == 1)), (by first | rfl | (simp; done) | (simp [*]; done)), H', ⟨by first | omega | exact Nat.le_refl _⟩, ⟨by (with_reducible repeat (first | refine blk_drewN ?_ _ | refine blk_drew ?_ | refine blk_alloc ?_ _)); exact BK228.out⟩, ⟨by (with_reducible repeat (first | refine blk_drewN ?_ _ | refine blk_drew ?_ | refine blk_alloc ?_ _)); exact BK233.out⟩, ⟨stA⟩, ⟨keepA⟩, ⟨belowA⟩⟩
            case rest =>
              clear HC32
              try clear c1
              try clear p2
              try clear q2
              try clear hx2
              try clear c3
              try clear c5
              try clear c6
              try clear c6b0
              try clear c7
              try clear c7b0
              try clear c10
              try clear c10b0
              try clear c11
              try clear c11b0
              try clear c18
              try clear c19
              try clear p24
              try clear q24
              try clear hx24
              try clear c33
              try clear c33b0
              try clear c33b1
              try clear hcz20_0 hcz20_1 hcz20_2 hcz20_3 hcz20_4 hfz20_0 hfz20_1 hfz20_2 hfz20_3 hfz20_4
              try clear hx241_0
              try clear hx249_0
              try clear p241
              try clear p249
              try clear q241
              try clear q249
              obtain ⟨kq, x27_31, rfl, HA, HJ31, BK228, BK233, HI0, HK, HB⟩ := hcut
              cases kq with
              | zero => exact absurd HA.out (by simp [spec_l71Op.j0])
              | succ kj31 =>
                have H := HA.out
                clear HA
                simp only [spec_l71Op.j0] at H
                by_cases c34 : x27_31 = true
                · subst c34
                  have H1 : (spec_l71Op.j1 kj31 s0_0 t251 1 t229 (rd y236 t239) (rd y244 t247) t231) = some (r1, r2, r3, r4, r5, r6) := by rw [if_pos rfl] at H; exact H
                  clear H
                  have H := H1
                  clear H1
                  have H' := Aside0.mk H
                  clear H
                  have hnb35 := NB233_228.out
                  have hnc35 := NB228_233.out
                  have hnb36 := NB233_0.out
                  have hnc36 := NB0_233.out
                  obtain ⟨hcz37_0, hcz37_1, hcz37_2, hcz37_3, hcz37_4, hfz37_0, hfz37_1, hfz37_2, hfz37_3, hfz37_4⟩ := blk_facts5 BK233.out
                  go_wp2
                  go_meet
                  case rel => exact ⟨_, (1), (t229), ((rd y236 t239)), ((rd y244 t247)), (t231), H', ⟨by have := HJ31.out; first | omega | exact Nat.le_refl _⟩, ⟨by (with_reducible repeat (first | refine blk_drewN ?_ _ | refine blk_drew ?_ | refine blk_alloc ?_ _)); refine blk_far ?_ NB228_233.out _; (with_reducible repeat (first | refine blk_drewN ?_ _ | refine blk_drew ?_ | refine blk_alloc ?_ _)); refine blk_far ?_ NB228_233.out _; (with_reducible repeat (first | refine blk_drewN ?_ _ | refine blk_drew ?_ | refine blk_alloc ?_ _)); refine blk_far ?_ NB228_233.out _; (with_reducible repeat (first | refine blk_drewN ?_ _ | refine blk_drew ?_ | refine blk_alloc ?_ _)); refine blk_far ?_ NB228_233.out _; (with_reducible repeat (first | refine blk_drewN ?_ _ | refine blk_drew ?_ | refine blk_alloc ?_ _)); refine blk_far ?_ NB228_233.out _; (with_reducible repeat (first | refine blk_drewN ?_ _ | refine blk_drew ?_ | refine blk_alloc ?_ _)); exact BK228.out⟩, ⟨by (with_reducible repeat (first | refine blk_drewN ?_ _ | refine blk_drew ?_ | refine blk_alloc ?_ _)); refine blk_put (cs := #[.int .i64 1, .int .i64 t229, .int .i64 (rd y236 t239), .int .i64 (rd y244 t247), .string t231]) ?_ 4 _ rfl; (with_reducible repeat (first | refine blk_drewN ?_ _ | refine blk_drew ?_ | refine blk_alloc ?_ _)); refine blk_put (cs := #[.int .i64 1, .int .i64 t229, .int .i64 (rd y236 t239), .int .i64 0, .string t231]) ?_ 3 _ rfl; (with_reducible repeat (first | refine blk_drewN ?_ _ | refine blk_drew ?_ | refine blk_alloc ?_ _)); refine blk_put (cs := #[.int .i64 1, .int .i64 t229, .int .i64 0, .int .i64 0, .string t231]) ?_ 2 _ rfl; (with_reducible repeat (first | refine blk_drewN ?_ _ | refine blk_drew ?_ | refine blk_alloc ?_ _)); refine blk_put (cs := #[.int .i64 1, .int .i64 t229, .int .i64 0, .int .i64 0, .string t231]) ?_ 1 _ rfl; (with_reducible repeat (first | refine blk_drewN ?_ _ | refine blk_drew ?_ | refine blk_alloc ?_ _)); refine blk_put (cs := #[.int .i64 2, .int .i64 t229, .int .i64 0, .int .i64 0, .string t231]) ?_ 0 _ rfl; (with_reducible repeat (first | refine blk_drewN ?_ _ | refine blk_drew ?_ | refine blk_alloc ?_ _)); exact BK233.out⟩, ⟨stA⟩, ⟨keepA⟩, ⟨belowA⟩⟩
                · replace c34 := Bool.eq_false_iff.mpr c34
                  subst c34
                  have H1 : (if t250 = 2 then (spec_l71Op.j1 kj31 s0_0 t251 3 t229 (rd y236 t239) (rd y244 t247) (⟨#[]⟩ : ByteArray)) else (if t250 = 3 then (spec_l71Op.j1 kj31 s0_0 t251 3 t229 (rd y236 t239) (rd y244 t247) (⟨#[]⟩ : ByteArray)) else (spec_l71Op.j1 kj31 s0_0 t251 2 t229 0 0 t231))) = some (r1, r2, r3, r4, r5, r6) := by rw [if_neg (show ¬ (false = true) by decide)] at H; exact H
                  clear H
                  have H := H1
                  clear H1
                  by_cases c38 : t250 = 2
                  · rw [if_pos c38] at H
                    have c38b0 : (t250 == 2) = true := beq_iff_eq.mpr c38
                    have c38b1 : (t250 != 2) = false := bne_eq_false_iff_eq.mpr c38
                    clear c38
                    have H' := Aside0.mk H
                    clear H
                    have hnb39 := NB233_228.out
                    have hnc39 := NB228_233.out
                    have hnb40 := NB233_0.out
                    have hnc40 := NB0_233.out
                    obtain ⟨hcz41_0, hcz41_1, hcz41_2, hcz41_3, hcz41_4, hfz41_0, hfz41_1, hfz41_2, hfz41_3, hfz41_4⟩ := blk_facts5 BK233.out
                    go_wp2
                    go_meet
                    case rel => exact ⟨_, (3), (t229), ((rd y236 t239)), ((rd y244 t247)), ((⟨#[]⟩ : ByteArray)), H', ⟨by have := HJ31.out; first | omega | exact Nat.le_refl _⟩, ⟨by (with_reducible repeat (first | refine blk_drewN ?_ _ | refine blk_drew ?_ | refine blk_alloc ?_ _)); refine blk_far ?_ NB228_233.out _; (with_reducible repeat (first | refine blk_drewN ?_ _ | refine blk_drew ?_ | refine blk_alloc ?_ _)); refine blk_far ?_ NB228_233.out _; (with_reducible repeat (first | refine blk_drewN ?_ _ | refine blk_drew ?_ | refine blk_alloc ?_ _)); refine blk_far ?_ NB228_233.out _; (with_reducible repeat (first | refine blk_drewN ?_ _ | refine blk_drew ?_ | refine blk_alloc ?_ _)); refine blk_far ?_ NB228_233.out _; (with_reducible repeat (first | refine blk_drewN ?_ _ | refine blk_drew ?_ | refine blk_alloc ?_ _)); refine blk_far ?_ NB228_233.out _; (with_reducible repeat (first | refine blk_drewN ?_ _ | refine blk_drew ?_ | refine blk_alloc ?_ _)); exact BK228.out⟩, ⟨by (with_reducible repeat (first | refine blk_drewN ?_ _ | refine blk_drew ?_ | refine blk_alloc ?_ _)); refine blk_put (cs := #[.int .i64 3, .int .i64 t229, .int .i64 (rd y236 t239), .int .i64 (rd y244 t247), .string t231]) ?_ 4 _ rfl; (with_reducible repeat (first | refine blk_drewN ?_ _ | refine blk_drew ?_ | refine blk_alloc ?_ _)); refine blk_put (cs := #[.int .i64 3, .int .i64 t229, .int .i64 (rd y236 t239), .int .i64 0, .string t231]) ?_ 3 _ rfl; (with_reducible repeat (first | refine blk_drewN ?_ _ | refine blk_drew ?_ | refine blk_alloc ?_ _)); refine blk_put (cs := #[.int .i64 3, .int .i64 t229, .int .i64 0, .int .i64 0, .string t231]) ?_ 2 _ rfl; (with_reducible repeat (first | refine blk_drewN ?_ _ | refine blk_drew ?_ | refine blk_alloc ?_ _)); refine blk_put (cs := #[.int .i64 3, .int .i64 t229, .int .i64 0, .int .i64 0, .string t231]) ?_ 1 _ rfl; (with_reducible repeat (first | refine blk_drewN ?_ _ | refine blk_drew ?_ | refine blk_alloc ?_ _)); refine blk_put (cs := #[.int .i64 2, .int .i64 t229, .int .i64 0, .int .i64 0, .string t231]) ?_ 0 _ rfl; (with_reducible repeat (first | refine blk_drewN ?_ _ | refine blk_drew ?_ | refine blk_alloc ?_ _)); exact BK233.out⟩, ⟨stA⟩, ⟨keepA⟩, ⟨belowA⟩⟩
                  · rw [if_neg c38] at H
                    have c38b0 : (t250 == 2) = false := beq_eq_false_iff_ne.mpr c38
                    have c38b1 : (t250 != 2) = true := bne_iff_ne.mpr c38
                    by_cases c42 : t250 = 3
                    · rw [if_pos c42] at H
                      have c42b0 : (t250 == 3) = true := beq_iff_eq.mpr c42
                      have c42b1 : (t250 != 3) = false := bne_eq_false_iff_eq.mpr c42
                      clear c42
                      have H' := Aside0.mk H
                      clear H
                      have hnb43 := NB233_228.out
                      have hnc43 := NB228_233.out
                      have hnb44 := NB233_0.out
                      have hnc44 := NB0_233.out
                      obtain ⟨hcz45_0, hcz45_1, hcz45_2, hcz45_3, hcz45_4, hfz45_0, hfz45_1, hfz45_2, hfz45_3, hfz45_4⟩ := blk_facts5 BK233.out
                      go_wp2
                      go_meet
                      case rel => exact ⟨_, (3), (t229), ((rd y236 t239)), ((rd y244 t247)), ((⟨#[]⟩ : ByteArray)), H', ⟨by have := HJ31.out; first | omega | exact Nat.le_refl _⟩, ⟨by (with_reducible repeat (first | refine blk_drewN ?_ _ | refine blk_drew ?_ | refine blk_alloc ?_ _)); refine blk_far ?_ NB228_233.out _; (with_reducible repeat (first | refine blk_drewN ?_ _ | refine blk_drew ?_ | refine blk_alloc ?_ _)); refine blk_far ?_ NB228_233.out _; (with_reducible repeat (first | refine blk_drewN ?_ _ | refine blk_drew ?_ | refine blk_alloc ?_ _)); refine blk_far ?_ NB228_233.out _; (with_reducible repeat (first | refine blk_drewN ?_ _ | refine blk_drew ?_ | refine blk_alloc ?_ _)); refine blk_far ?_ NB228_233.out _; (with_reducible repeat (first | refine blk_drewN ?_ _ | refine blk_drew ?_ | refine blk_alloc ?_ _)); refine blk_far ?_ NB228_233.out _; (with_reducible repeat (first | refine blk_drewN ?_ _ | refine blk_drew ?_ | refine blk_alloc ?_ _)); exact BK228.out⟩, ⟨by (with_reducible repeat (first | refine blk_drewN ?_ _ | refine blk_drew ?_ | refine blk_alloc ?_ _)); refine blk_put (cs := #[.int .i64 3, .int .i64 t229, .int .i64 (rd y236 t239), .int .i64 (rd y244 t247), .string t231]) ?_ 4 _ rfl; (with_reducible repeat (first | refine blk_drewN ?_ _ | refine blk_drew ?_ | refine blk_alloc ?_ _)); refine blk_put (cs := #[.int .i64 3, .int .i64 t229, .int .i64 (rd y236 t239), .int .i64 0, .string t231]) ?_ 3 _ rfl; (with_reducible repeat (first | refine blk_drewN ?_ _ | refine blk_drew ?_ | refine blk_alloc ?_ _)); refine blk_put (cs := #[.int .i64 3, .int .i64 t229, .int .i64 0, .int .i64 0, .string t231]) ?_ 2 _ rfl; (with_reducible repeat (first | refine blk_drewN ?_ _ | refine blk_drew ?_ | refine blk_alloc ?_ _)); refine blk_put (cs := #[.int .i64 3, .int .i64 t229, .int .i64 0, .int .i64 0, .string t231]) ?_ 1 _ rfl; (with_reducible repeat (first | refine blk_drewN ?_ _ | refine blk_drew ?_ | refine blk_alloc ?_ _)); refine blk_put (cs := #[.int .i64 2, .int .i64 t229, .int .i64 0, .int .i64 0, .string t231]) ?_ 0 _ rfl; (with_reducible repeat (first | refine blk_drewN ?_ _ | refine blk_drew ?_ | refine blk_alloc ?_ _)); exact BK233.out⟩, ⟨stA⟩, ⟨keepA⟩, ⟨belowA⟩⟩
                    · rw [if_neg c42] at H
                      have c42b0 : (t250 == 3) = false := beq_eq_false_iff_ne.mpr c42
                      have c42b1 : (t250 != 3) = true := bne_iff_ne.mpr c42
                      have H' := Aside0.mk H
                      clear H
                      go_wp2
                      go_meet
                      case rel => exact ⟨_, (2), (t229), (0), (0), (t231), H', ⟨by have := HJ31.out; first | omega | exact Nat.le_refl _⟩, ⟨by (with_reducible repeat (first | refine blk_drewN ?_ _ | refine blk_drew ?_ | refine blk_alloc ?_ _)); exact BK228.out⟩, ⟨by (with_reducible repeat (first | refine blk_drewN ?_ _ | refine blk_drew ?_ | refine blk_alloc ?_ _)); exact BK233.out⟩, ⟨stA⟩, ⟨keepA⟩, ⟨belowA⟩⟩
          case rest =>
            clear HC13
            try clear c1
            try clear p2
            try clear q2
            try clear hx2
            try clear c3
            try clear c4
            try clear c5
            try clear c6
            try clear c6b0
            try clear c7
            try clear c7b0
            try clear c10
            try clear c10b0
            try clear c11
            try clear c11b0
            try clear c18
            try clear c19
            try clear p24
            try clear q24
            try clear hx24
            try clear c33
            try clear c33b0
            try clear c33b1
            try clear c34
            try clear c35
            try clear c36
            try clear c38
            try clear c38b0
            try clear c38b1
            try clear c39
            try clear c40
            try clear c42
            try clear c42b0
            try clear c42b1
            try clear c43
            try clear c44
            try clear hcz20_0 hcz20_1 hcz20_2 hcz20_3 hcz20_4
            try clear hcz37_0 hcz37_1 hcz37_2 hcz37_3 hcz37_4
            try clear hcz41_0 hcz41_1 hcz41_2 hcz41_3 hcz41_4
            try clear hcz45_0 hcz45_1 hcz45_2 hcz45_3 hcz45_4
            try clear hfz20_0 hfz20_1 hfz20_2 hfz20_3 hfz20_4
            try clear hfz37_0 hfz37_1 hfz37_2 hfz37_3 hfz37_4
            try clear hfz41_0 hfz41_1 hfz41_2 hfz41_3 hfz41_4
            try clear hfz45_0 hfz45_1 hfz45_2 hfz45_3 hfz45_4
            try clear hx241_0
            try clear hx249_0
            try clear p2
            try clear p24
            try clear p241
            try clear p249
            try clear q2
            try clear q24
            try clear q241
            try clear q249
            obtain ⟨kq, x234000_12, x234001_12, x234002_12, x234003_12, x234004_12, HA, HJ12, BK228, BK233, HI0, HK, HB⟩ := hcut
            cases kq with
            | zero => exact absurd HA.out (by simp [spec_l71Op.j1])
            | succ kj12 =>
              have H := HA.out
              clear HA
              simp only [spec_l71Op.j1] at H
              replace H := Option.bind_eq_some_iff.mp H
              obtain ⟨⟨t252, t253⟩, A460, H⟩ := H
              (try dsimp only at H)
              have A46 := Aside0.mk A460
              clear A460
              by_cases c47 : t252 = 0
              · rw [if_pos c47] at H
                have c47b0 : (t252 == 0) = true := beq_iff_eq.mpr c47
                have c47b1 : (t252 != 0) = false := bne_eq_false_iff_eq.mpr c47
                clear c47
                replace H := Option.bind_eq_some_iff.mp H
                obtain ⟨⟨t254, t255⟩, A480, H⟩ := H
                (try dsimp only at H)
                have A48 := Aside0.mk A480
                clear A480
                simp only [Option.some.injEq, Prod.mk.injEq] at H
                obtain ⟨rfl, rfl, rfl, rfl, rfl, rfl⟩ := H
                go_wp2_with (first | ((with_reducible refine gate_callee (f := 38) rfl ?_); refine goesL_ (some 46) rfl rfl Tryd.func38 (by kernel_rfl) rfl #[.pointer (some ⟨g, 0, none⟩), .int .i64 30] rfl argsA ?_; (with_reducible refine (spec_l6Rd_pick.calls kj12 g s0_0 t251 30 t252 t253 w0 _ ?side1 ?side2 A46.out).mono ?_); (case side1 => exact stA); (case side2 => exact belowA); rintro e w49 ⟨rfl, hi, hb, hk⟩; refine ⟨_, rfl, ?_⟩; have n0_ := Aside0.mk (KeepBut.blk hk (g' := gb228) (o := .cells #[.int .i64 0, .int .i64 0, .int .i64 0, .int .i64 0, .string (⟨#[]⟩ : ByteArray)] 24 (0, 0)) blkA NB228_0.out (by simp)); have n1_ := Aside0.mk (KeepBut.blk hk (g' := gb233) (o := .cells #[.int .i64 x234000_12, .int .i64 x234001_12, .int .i64 x234002_12, .int .i64 x234003_12, .string x234004_12] 24 (0, 0)) blkA NB233_0.out (by simp)); have n2_ := Aside0.mk (KeepBut.trans keepA hk (.inl rfl)); have n3_ := Aside0.mk (hb); have n4_ := Aside0.mk (hi); clear BK228; clear BK233; clear HK; clear HB; clear HI0; have BK228 := n0_; have BK233 := n1_; have HK := n2_; have HB := n3_; have HI0 := n4_; clear n0_ n1_ n2_ n3_ n4_; (try clear hb); (try clear hb2); (try clear hk); (try clear hi)) | ((with_reducible refine gate_callee (f := 38) rfl ?_); refine goesL_ (some 50) rfl rfl Tryd.func38 (by kernel_rfl) rfl #[.pointer (some ⟨g, 0, none⟩), .int .i64 5] rfl argsA ?_; (with_reducible refine (spec_l6Rd_pick.calls kj12 g s0_0 t253 5 t254 t255 w0 _ ?side1 ?side2 A48.out).mono ?_); (case side1 => exact stA); (case side2 => exact belowA); rintro e w50 ⟨rfl, hi, hb, hk⟩; refine ⟨_, rfl, ?_⟩; have n0_ := Aside0.mk (KeepBut.blk hk (g' := gb228) (o := .cells #[.int .i64 0, .int .i64 0, .int .i64 0, .int .i64 0, .string (⟨#[]⟩ : ByteArray)] 24 (0, 0)) blkA NB228_0.out (by simp)); have n1_ := Aside0.mk (KeepBut.blk hk (g' := gb233) (o := .cells #[.int .i64 x234000_12, .int .i64 x234001_12, .int .i64 x234002_12, .int .i64 x234003_12, .string x234004_12] 24 (0, 0)) blkA NB233_0.out (by simp)); have n2_ := Aside0.mk (KeepBut.trans keepA hk (.inl rfl)); have n3_ := Aside0.mk (hb); have n4_ := Aside0.mk (hi); clear BK228; clear BK233; clear HK; clear HB; clear HI0; have BK228 := n0_; have BK233 := n1_; have HK := n2_; have HB := n3_; have HI0 := n4_; clear n0_ n1_ n2_ n3_ n4_; (try clear hb); (try clear hb2); (try clear hk); (try clear hi); have hnb51 := NB233_228.out; have hnc51 := NB228_233.out; have hnb52 := NB233_0.out; have hnc52 := NB0_233.out; obtain ⟨hcz53_0, hcz53_1, hcz53_2, hcz53_3, hcz53_4, hfz53_0, hfz53_1, hfz53_2, hfz53_3, hfz53_4⟩ := blk_facts5 BK233.out; have hnb54 := NB228_0.out; have hnc54 := NB0_228.out; obtain ⟨hcz55_0, hcz55_1, hcz55_2, hcz55_3, hcz55_4, hfz55_0, hfz55_1, hfz55_2, hfz55_3, hfz55_4⟩ := blk_facts5 BK228.out))
                refine bodyPost_ret (results_cell_row rfl _ _ gb228 24 #[.int .i64 t254, .int .i64 x234001_12, .int .i64 x234002_12, .int .i64 x234003_12, .string x234004_12] (0, 0) _ rfl (blk_put (blk_put (blk_put (blk_put (blk_put (blkC #[.int .i64 0, .int .i64 0, .int .i64 0, .int .i64 0, .string (⟨#[]⟩ : ByteArray)]) 0 _ rfl) 1 _ rfl) 2 _ rfl) 3 _ rfl) 4 _ rfl) Tryd.underlying24 rfl (by kernel_rfl)) rfl ?_
                exact ⟨endA, stA, belowA, keepA⟩
              · rw [if_neg c47] at H
                have c47b0 : (t252 == 0) = false := beq_eq_false_iff_ne.mpr c47
                have c47b1 : (t252 != 0) = true := bne_iff_ne.mpr c47
                by_cases c56 : t252 = 1
                · rw [if_pos c56] at H
                  have c56b0 : (t252 == 1) = true := beq_iff_eq.mpr c56
                  have c56b1 : (t252 != 1) = false := bne_eq_false_iff_eq.mpr c56
                  clear c56
                  replace H := Option.bind_eq_some_iff.mp H
                  obtain ⟨⟨t256, t257⟩, A570, H⟩ := H
                  (try dsimp only at H)
                  have A57 := Aside0.mk A570
                  clear A570
                  simp only [Option.some.injEq, Prod.mk.injEq] at H
                  obtain ⟨rfl, rfl, rfl, rfl, rfl, rfl⟩ := H
                  go_wp2_with (first | ((with_reducible refine gate_callee (f := 38) rfl ?_); refine goesL_ (some 46) rfl rfl Tryd.func38 (by kernel_rfl) rfl #[.pointer (some ⟨g, 0, none⟩), .int .i64 30] rfl argsA ?_; (with_reducible refine (spec_l6Rd_pick.calls kj12 g s0_0 t251 30 t252 t253 w0 _ ?side1 ?side2 A46.out).mono ?_); (case side1 => exact stA); (case side2 => exact belowA); rintro e w58 ⟨rfl, hi, hb, hk⟩; refine ⟨_, rfl, ?_⟩; have n0_ := Aside0.mk (KeepBut.blk hk (g' := gb228) (o := .cells #[.int .i64 0, .int .i64 0, .int .i64 0, .int .i64 0, .string (⟨#[]⟩ : ByteArray)] 24 (0, 0)) blkA NB228_0.out (by simp)); have n1_ := Aside0.mk (KeepBut.blk hk (g' := gb233) (o := .cells #[.int .i64 x234000_12, .int .i64 x234001_12, .int .i64 x234002_12, .int .i64 x234003_12, .string x234004_12] 24 (0, 0)) blkA NB233_0.out (by simp)); have n2_ := Aside0.mk (KeepBut.trans keepA hk (.inl rfl)); have n3_ := Aside0.mk (hb); have n4_ := Aside0.mk (hi); clear BK228; clear BK233; clear HK; clear HB; clear HI0; have BK228 := n0_; have BK233 := n1_; have HK := n2_; have HB := n3_; have HI0 := n4_; clear n0_ n1_ n2_ n3_ n4_; (try clear hb); (try clear hb2); (try clear hk); (try clear hi)) | ((with_reducible refine gate_callee (f := 38) rfl ?_); refine goesL_ (some 55) rfl rfl Tryd.func38 (by kernel_rfl) rfl #[.pointer (some ⟨g, 0, none⟩), .int .i64 50] rfl argsA ?_; (with_reducible refine (spec_l6Rd_pick.calls kj12 g s0_0 t253 50 t256 t257 w0 _ ?side1 ?side2 A57.out).mono ?_); (case side1 => exact stA); (case side2 => exact belowA); rintro e w59 ⟨rfl, hi, hb, hk⟩; refine ⟨_, rfl, ?_⟩; have n0_ := Aside0.mk (KeepBut.blk hk (g' := gb228) (o := .cells #[.int .i64 0, .int .i64 0, .int .i64 0, .int .i64 0, .string (⟨#[]⟩ : ByteArray)] 24 (0, 0)) blkA NB228_0.out (by simp)); have n1_ := Aside0.mk (KeepBut.blk hk (g' := gb233) (o := .cells #[.int .i64 x234000_12, .int .i64 x234001_12, .int .i64 x234002_12, .int .i64 x234003_12, .string x234004_12] 24 (0, 0)) blkA NB233_0.out (by simp)); have n2_ := Aside0.mk (KeepBut.trans keepA hk (.inl rfl)); have n3_ := Aside0.mk (hb); have n4_ := Aside0.mk (hi); clear BK228; clear BK233; clear HK; clear HB; clear HI0; have BK228 := n0_; have BK233 := n1_; have HK := n2_; have HB := n3_; have HI0 := n4_; clear n0_ n1_ n2_ n3_ n4_; (try clear hb); (try clear hb2); (try clear hk); (try clear hi); have hnb60 := NB233_228.out; have hnc60 := NB228_233.out; have hnb61 := NB233_0.out; have hnc61 := NB0_233.out; obtain ⟨hcz62_0, hcz62_1, hcz62_2, hcz62_3, hcz62_4, hfz62_0, hfz62_1, hfz62_2, hfz62_3, hfz62_4⟩ := blk_facts5 BK233.out; have hnb63 := NB228_0.out; have hnc63 := NB0_228.out; obtain ⟨hcz64_0, hcz64_1, hcz64_2, hcz64_3, hcz64_4, hfz64_0, hfz64_1, hfz64_2, hfz64_3, hfz64_4⟩ := blk_facts5 BK228.out))
                  refine bodyPost_ret (results_cell_row rfl _ _ gb228 24 #[.int .i64 x234000_12, .int .i64 t256, .int .i64 x234002_12, .int .i64 x234003_12, .string x234004_12] (0, 0) _ rfl (blk_put (blk_put (blk_put (blk_put (blk_put (blkC #[.int .i64 0, .int .i64 0, .int .i64 0, .int .i64 0, .string (⟨#[]⟩ : ByteArray)]) 0 _ rfl) 1 _ rfl) 2 _ rfl) 3 _ rfl) 4 _ rfl) Tryd.underlying24 rfl (by kernel_rfl)) rfl ?_
                  exact ⟨endA, stA, belowA, keepA⟩
                · rw [if_neg c56] at H
                  have c56b0 : (t252 == 1) = false := beq_eq_false_iff_ne.mpr c56
                  have c56b1 : (t252 != 1) = true := bne_iff_ne.mpr c56
                  by_cases c65 : t252 = 2
                  · rw [if_pos c65] at H
                    have c65b0 : (t252 == 2) = true := beq_iff_eq.mpr c65
                    have c65b1 : (t252 != 2) = false := bne_eq_false_iff_eq.mpr c65
                    clear c65
                    replace H := Option.bind_eq_some_iff.mp H
                    obtain ⟨⟨t258, t259⟩, A660, H⟩ := H
                    (try dsimp only at H)
                    have A66 := Aside0.mk A660
                    clear A660
                    simp only [Option.some.injEq, Prod.mk.injEq] at H
                    obtain ⟨rfl, rfl, rfl, rfl, rfl, rfl⟩ := H
                    go_wp2_with (first | ((with_reducible refine gate_callee (f := 38) rfl ?_); refine goesL_ (some 46) rfl rfl Tryd.func38 (by kernel_rfl) rfl #[.pointer (some ⟨g, 0, none⟩), .int .i64 30] rfl argsA ?_; (with_reducible refine (spec_l6Rd_pick.calls kj12 g s0_0 t251 30 t252 t253 w0 _ ?side1 ?side2 A46.out).mono ?_); (case side1 => exact stA); (case side2 => exact belowA); rintro e w67 ⟨rfl, hi, hb, hk⟩; refine ⟨_, rfl, ?_⟩; have n0_ := Aside0.mk (KeepBut.blk hk (g' := gb228) (o := .cells #[.int .i64 0, .int .i64 0, .int .i64 0, .int .i64 0, .string (⟨#[]⟩ : ByteArray)] 24 (0, 0)) blkA NB228_0.out (by simp)); have n1_ := Aside0.mk (KeepBut.blk hk (g' := gb233) (o := .cells #[.int .i64 x234000_12, .int .i64 x234001_12, .int .i64 x234002_12, .int .i64 x234003_12, .string x234004_12] 24 (0, 0)) blkA NB233_0.out (by simp)); have n2_ := Aside0.mk (KeepBut.trans keepA hk (.inl rfl)); have n3_ := Aside0.mk (hb); have n4_ := Aside0.mk (hi); clear BK228; clear BK233; clear HK; clear HB; clear HI0; have BK228 := n0_; have BK233 := n1_; have HK := n2_; have HB := n3_; have HI0 := n4_; clear n0_ n1_ n2_ n3_ n4_; (try clear hb); (try clear hb2); (try clear hk); (try clear hi)) | ((with_reducible refine gate_callee (f := 38) rfl ?_); refine goesL_ (some 60) rfl rfl Tryd.func38 (by kernel_rfl) rfl #[.pointer (some ⟨g, 0, none⟩), .int .i64 50] rfl argsA ?_; (with_reducible refine (spec_l6Rd_pick.calls kj12 g s0_0 t253 50 t258 t259 w0 _ ?side1 ?side2 A66.out).mono ?_); (case side1 => exact stA); (case side2 => exact belowA); rintro e w68 ⟨rfl, hi, hb, hk⟩; refine ⟨_, rfl, ?_⟩; have n0_ := Aside0.mk (KeepBut.blk hk (g' := gb228) (o := .cells #[.int .i64 0, .int .i64 0, .int .i64 0, .int .i64 0, .string (⟨#[]⟩ : ByteArray)] 24 (0, 0)) blkA NB228_0.out (by simp)); have n1_ := Aside0.mk (KeepBut.blk hk (g' := gb233) (o := .cells #[.int .i64 x234000_12, .int .i64 x234001_12, .int .i64 x234002_12, .int .i64 x234003_12, .string x234004_12] 24 (0, 0)) blkA NB233_0.out (by simp)); have n2_ := Aside0.mk (KeepBut.trans keepA hk (.inl rfl)); have n3_ := Aside0.mk (hb); have n4_ := Aside0.mk (hi); clear BK228; clear BK233; clear HK; clear HB; clear HI0; have BK228 := n0_; have BK233 := n1_; have HK := n2_; have HB := n3_; have HI0 := n4_; clear n0_ n1_ n2_ n3_ n4_; (try clear hb); (try clear hb2); (try clear hk); (try clear hi); have hnb69 := NB233_228.out; have hnc69 := NB228_233.out; have hnb70 := NB233_0.out; have hnc70 := NB0_233.out; obtain ⟨hcz71_0, hcz71_1, hcz71_2, hcz71_3, hcz71_4, hfz71_0, hfz71_1, hfz71_2, hfz71_3, hfz71_4⟩ := blk_facts5 BK233.out; have hnb72 := NB228_0.out; have hnc72 := NB0_228.out; obtain ⟨hcz73_0, hcz73_1, hcz73_2, hcz73_3, hcz73_4, hfz73_0, hfz73_1, hfz73_2, hfz73_3, hfz73_4⟩ := blk_facts5 BK228.out))
                    refine bodyPost_ret (results_cell_row rfl _ _ gb228 24 #[.int .i64 x234000_12, .int .i64 x234001_12, .int .i64 t258, .int .i64 x234003_12, .string x234004_12] (0, 0) _ rfl (blk_put (blk_put (blk_put (blk_put (blk_put (blkC #[.int .i64 0, .int .i64 0, .int .i64 0, .int .i64 0, .string (⟨#[]⟩ : ByteArray)]) 0 _ rfl) 1 _ rfl) 2 _ rfl) 3 _ rfl) 4 _ rfl) Tryd.underlying24 rfl (by kernel_rfl)) rfl ?_
                    exact ⟨endA, stA, belowA, keepA⟩
                  · rw [if_neg c65] at H
                    have c65b0 : (t252 == 2) = false := beq_eq_false_iff_ne.mpr c65
                    have c65b1 : (t252 != 2) = true := bne_iff_ne.mpr c65
                    by_cases c74 : t252 = 3
                    · rw [if_pos c74] at H
                      have c74b0 : (t252 == 3) = true := beq_iff_eq.mpr c74
                      have c74b1 : (t252 != 3) = false := bne_eq_false_iff_eq.mpr c74
                      clear c74
                      replace H := Option.bind_eq_some_iff.mp H
                      obtain ⟨⟨t260, t261⟩, A750, H⟩ := H
                      (try dsimp only at H)
                      have A75 := Aside0.mk A750
                      clear A750
                      simp only [Option.some.injEq, Prod.mk.injEq] at H
                      obtain ⟨rfl, rfl, rfl, rfl, rfl, rfl⟩ := H
                      go_wp2_with (first | ((with_reducible refine gate_callee (f := 38) rfl ?_); refine goesL_ (some 46) rfl rfl Tryd.func38 (by kernel_rfl) rfl #[.pointer (some ⟨g, 0, none⟩), .int .i64 30] rfl argsA ?_; (with_reducible refine (spec_l6Rd_pick.calls kj12 g s0_0 t251 30 t252 t253 w0 _ ?side1 ?side2 A46.out).mono ?_); (case side1 => exact stA); (case side2 => exact belowA); rintro e w76 ⟨rfl, hi, hb, hk⟩; refine ⟨_, rfl, ?_⟩; have n0_ := Aside0.mk (KeepBut.blk hk (g' := gb228) (o := .cells #[.int .i64 0, .int .i64 0, .int .i64 0, .int .i64 0, .string (⟨#[]⟩ : ByteArray)] 24 (0, 0)) blkA NB228_0.out (by simp)); have n1_ := Aside0.mk (KeepBut.blk hk (g' := gb233) (o := .cells #[.int .i64 x234000_12, .int .i64 x234001_12, .int .i64 x234002_12, .int .i64 x234003_12, .string x234004_12] 24 (0, 0)) blkA NB233_0.out (by simp)); have n2_ := Aside0.mk (KeepBut.trans keepA hk (.inl rfl)); have n3_ := Aside0.mk (hb); have n4_ := Aside0.mk (hi); clear BK228; clear BK233; clear HK; clear HB; clear HI0; have BK228 := n0_; have BK233 := n1_; have HK := n2_; have HB := n3_; have HI0 := n4_; clear n0_ n1_ n2_ n3_ n4_; (try clear hb); (try clear hb2); (try clear hk); (try clear hi)) | ((with_reducible refine gate_callee (f := 38) rfl ?_); refine goesL_ (some 65) rfl rfl Tryd.func38 (by kernel_rfl) rfl #[.pointer (some ⟨g, 0, none⟩), .int .i64 50] rfl argsA ?_; (with_reducible refine (spec_l6Rd_pick.calls kj12 g s0_0 t253 50 t260 t261 w0 _ ?side1 ?side2 A75.out).mono ?_); (case side1 => exact stA); (case side2 => exact belowA); rintro e w77 ⟨rfl, hi, hb, hk⟩; refine ⟨_, rfl, ?_⟩; have n0_ := Aside0.mk (KeepBut.blk hk (g' := gb228) (o := .cells #[.int .i64 0, .int .i64 0, .int .i64 0, .int .i64 0, .string (⟨#[]⟩ : ByteArray)] 24 (0, 0)) blkA NB228_0.out (by simp)); have n1_ := Aside0.mk (KeepBut.blk hk (g' := gb233) (o := .cells #[.int .i64 x234000_12, .int .i64 x234001_12, .int .i64 x234002_12, .int .i64 x234003_12, .string x234004_12] 24 (0, 0)) blkA NB233_0.out (by simp)); have n2_ := Aside0.mk (KeepBut.trans keepA hk (.inl rfl)); have n3_ := Aside0.mk (hb); have n4_ := Aside0.mk (hi); clear BK228; clear BK233; clear HK; clear HB; clear HI0; have BK228 := n0_; have BK233 := n1_; have HK := n2_; have HB := n3_; have HI0 := n4_; clear n0_ n1_ n2_ n3_ n4_; (try clear hb); (try clear hb2); (try clear hk); (try clear hi); have hnb78 := NB233_228.out; have hnc78 := NB228_233.out; have hnb79 := NB233_0.out; have hnc79 := NB0_233.out; obtain ⟨hcz80_0, hcz80_1, hcz80_2, hcz80_3, hcz80_4, hfz80_0, hfz80_1, hfz80_2, hfz80_3, hfz80_4⟩ := blk_facts5 BK233.out; have hnb81 := NB228_0.out; have hnc81 := NB0_228.out; obtain ⟨hcz82_0, hcz82_1, hcz82_2, hcz82_3, hcz82_4, hfz82_0, hfz82_1, hfz82_2, hfz82_3, hfz82_4⟩ := blk_facts5 BK228.out))
                      refine bodyPost_ret (results_cell_row rfl _ _ gb228 24 #[.int .i64 x234000_12, .int .i64 x234001_12, .int .i64 x234002_12, .int .i64 t260, .string x234004_12] (0, 0) _ rfl (blk_put (blk_put (blk_put (blk_put (blk_put (blkC #[.int .i64 0, .int .i64 0, .int .i64 0, .int .i64 0, .string (⟨#[]⟩ : ByteArray)]) 0 _ rfl) 1 _ rfl) 2 _ rfl) 3 _ rfl) 4 _ rfl) Tryd.underlying24 rfl (by kernel_rfl)) rfl ?_
                      exact ⟨endA, stA, belowA, keepA⟩
                    · rw [if_neg c74] at H
                      have c74b0 : (t252 == 3) = false := beq_eq_false_iff_ne.mpr c74
                      have c74b1 : (t252 != 3) = true := bne_iff_ne.mpr c74
                      simp only [Option.some.injEq, Prod.mk.injEq] at H
                      obtain ⟨rfl, rfl, rfl, rfl, rfl, rfl⟩ := H
                      go_wp2_with (first | ((with_reducible refine gate_callee (f := 38) rfl ?_); refine goesL_ (some 46) rfl rfl Tryd.func38 (by kernel_rfl) rfl #[.pointer (some ⟨g, 0, none⟩), .int .i64 30] rfl argsA ?_; (with_reducible refine (spec_l6Rd_pick.calls kj12 g s0_0 t251 30 t252 t253 w0 _ ?side1 ?side2 A46.out).mono ?_); (case side1 => exact stA); (case side2 => exact belowA); rintro e w83 ⟨rfl, hi, hb, hk⟩; refine ⟨_, rfl, ?_⟩; have n0_ := Aside0.mk (KeepBut.blk hk (g' := gb228) (o := .cells #[.int .i64 0, .int .i64 0, .int .i64 0, .int .i64 0, .string (⟨#[]⟩ : ByteArray)] 24 (0, 0)) blkA NB228_0.out (by simp)); have n1_ := Aside0.mk (KeepBut.blk hk (g' := gb233) (o := .cells #[.int .i64 x234000_12, .int .i64 x234001_12, .int .i64 x234002_12, .int .i64 x234003_12, .string x234004_12] 24 (0, 0)) blkA NB233_0.out (by simp)); have n2_ := Aside0.mk (KeepBut.trans keepA hk (.inl rfl)); have n3_ := Aside0.mk (hb); have n4_ := Aside0.mk (hi); clear BK228; clear BK233; clear HK; clear HB; clear HI0; have BK228 := n0_; have BK233 := n1_; have HK := n2_; have HB := n3_; have HI0 := n4_; clear n0_ n1_ n2_ n3_ n4_; (try clear hb); (try clear hb2); (try clear hk); (try clear hi); have hnb84 := NB233_228.out; have hnc84 := NB228_233.out; have hnb85 := NB233_0.out; have hnc85 := NB0_233.out; obtain ⟨hcz86_0, hcz86_1, hcz86_2, hcz86_3, hcz86_4, hfz86_0, hfz86_1, hfz86_2, hfz86_3, hfz86_4⟩ := blk_facts5 BK233.out; have hnb87 := NB228_0.out; have hnc87 := NB0_228.out; obtain ⟨hcz88_0, hcz88_1, hcz88_2, hcz88_3, hcz88_4, hfz88_0, hfz88_1, hfz88_2, hfz88_3, hfz88_4⟩ := blk_facts5 BK228.out))
                      refine bodyPost_ret (results_cell_row rfl _ _ gb228 24 #[.int .i64 x234000_12, .int .i64 x234001_12, .int .i64 x234002_12, .int .i64 x234003_12, .string x234004_12] (0, 0) _ rfl (blk_put (blk_put (blk_put (blk_put (blk_put (blkC #[.int .i64 0, .int .i64 0, .int .i64 0, .int .i64 0, .string (⟨#[]⟩ : ByteArray)]) 0 _ rfl) 1 _ rfl) 2 _ rfl) 3 _ rfl) 4 _ rfl) Tryd.underlying24 rfl (by kernel_rfl)) rfl ?_
                      exact ⟨endA, stA, belowA, keepA⟩
        · rw [if_neg c11] at H
          exact absurd H (by simp)
      · rw [if_neg c10] at H
        exact absurd H (by simp)
    · rw [if_neg c7] at H
      exact absurd H (by simp)
  · rw [if_neg c6] at H
    exact absurd H (by simp)

end Go.Proofs.YtlpfjabfhgfpmaaDoor.P
