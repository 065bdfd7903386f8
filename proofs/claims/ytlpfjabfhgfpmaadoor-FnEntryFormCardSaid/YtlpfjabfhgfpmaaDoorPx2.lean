-- Written by wip/tools/pprint.py (a program of this session) over the kit's printer; not trusted: Lean checks it.
import Derived.Test.YtlpfjabfhgfpmaaDoorPx0
import Derived.Test.YtlpfjabfhgfpmaaDoorLogC
import Derived.Test.YtlpfjabfhgfpmaaDoorPx1
import Derived.Test.YtlpfjabfhgfpmaaDoorV
namespace Go.Proofs.YtlpfjabfhgfpmaaDoor.P
open Go.RowKit Go.Proofs.YtlpfjabfhgfpmaaDoorW.PrintWords Go.Proofs.YtlpfjabfhgfpmaaDoorW.PrintLast Go.Proofs.YtlpfjabfhgfpmaaDoorW.PrintMore
attribute [local go_sem] cell_set_set cell_set_far_set max2_int min2_int max_two min_two max_three min_three max_four min_four   -- for this text's walks alone
set_option linter.unusedVariables false
set_option linter.unusedSimpArgs false

/-! ### spec_l71Op: function 39 -/
mutual
def spec_l71Op.j1 : Nat → List Int → Int → Int → Int → Int → Int → ByteArray → Option (Int × Int × Int × Int × ByteArray × Int)
  | 0, _, _, _, _, _, _, _ => none
  | k + 1, x1000, x1001, x134000, x134001, x134002, x134003, x134004 => (spec_l6Rd_pick.f k x1000 x1001 30).bind fun bt152 => (if bt152.1 = 0 then ((spec_l6Rd_pick.f k x1000 bt152.2 5).bind fun bt154 => (some (bt154.1, x134001, x134002, x134003, x134004, bt154.2))) else (if bt152.1 = 1 then ((spec_l6Rd_pick.f k x1000 bt152.2 50).bind fun bt156 => (some (x134000, bt156.1, x134002, x134003, x134004, bt156.2))) else (if bt152.1 = 2 then ((spec_l6Rd_pick.f k x1000 bt152.2 50).bind fun bt158 => (some (x134000, x134001, bt158.1, x134003, x134004, bt158.2))) else (if bt152.1 = 3 then ((spec_l6Rd_pick.f k x1000 bt152.2 50).bind fun bt160 => (some (x134000, x134001, x134002, bt160.1, x134004, bt160.2))) else (some (x134000, x134001, x134002, x134003, x134004, bt152.2))))))
def spec_l71Op.j0 : Nat → Int → Int → Int → Bool → List Int → Int → Int → Int → Int → Int → ByteArray → Option (Int × Int × Int × Int × ByteArray × Int)
  | 0, _, _, _, _, _, _, _, _, _, _, _ => none
  | k + 1, x4, x5, x26, x27, x1000, x1001, x134000, x134001, x134002, x134003, x134004 => if x27 = true then (spec_l71Op.j1 k x1000 x1001 1 x134001 x4 x5 x134004) else (if x26 = 2 then (spec_l71Op.j1 k x1000 x1001 3 x134001 x4 x5 (⟨#[]⟩ : ByteArray)) else (if x26 = 3 then (spec_l71Op.j1 k x1000 x1001 3 x134001 x4 x5 (⟨#[]⟩ : ByteArray)) else (spec_l71Op.j1 k x1000 x1001 x134000 x134001 x134002 x134003 x134004)))
end
def spec_l71Op.f (k : Nat) (s0_0 : List Int) (s0_1 : Int) : Option (Int × Int × Int × Int × ByteArray × Int) := (spec_l71Id.f k s0_0 s0_1).bind fun bt129 => ((spec_l71Text.f k s0_0 bt129.2).bind fun bt131 => ((spec_l71Id.f k s0_0 bt131.2).bind fun bt134 => ((some (([1, 1, bt134.1, 2, 3] : List Int) : List Int)).bind fun y136 => ((spec_l6Rd_pick.f k s0_0 bt134.2 5).bind fun bt139 => (if 0 ≤ bt139.1 then (if bt139.1 < (y136.length : Int) then ((spec_l71Id.f k s0_0 bt139.2).bind fun bt142 => ((some (([0, bt142.1] : List Int) : List Int)).bind fun y144 => ((spec_l6Rd_pick.f k s0_0 bt142.2 2).bind fun bt147 => (if 0 ≤ bt147.1 then (if bt147.1 < (y144.length : Int) then ((spec_l6Rd_pick.f k s0_0 bt147.2 5).bind fun bt150 => (if bt150.1 = 0 then (spec_l71Op.j0 k (rd y136 bt139.1) (rd y144 bt147.1) bt150.1 (bt150.1 == 0) s0_0 bt150.2 2 bt129.1 0 0 bt131.1) else (spec_l71Op.j0 k (rd y136 bt139.1) (rd y144 bt147.1) bt150.1 (bt150.1 == 1) s0_0 bt150.2 2 bt129.1 0 0 bt131.1))) else (none)) else (none))))) else (none)) else (none))))))
theorem spec_l71Op.mono_l : ∀ k, (∀ y0 y1 y2 y3 y4 y5 y6, LeO (spec_l71Op.j1 k y0 y1 y2 y3 y4 y5 y6) (spec_l71Op.j1 (k + 1) y0 y1 y2 y3 y4 y5 y6)) ∧ (∀ y0 y1 y2 y3 y4 y5 y6 y7 y8 y9 y10, LeO (spec_l71Op.j0 k y0 y1 y2 y3 y4 y5 y6 y7 y8 y9 y10) (spec_l71Op.j0 (k + 1) y0 y1 y2 y3 y4 y5 y6 y7 y8 y9 y10))
  | 0 => ⟨fun _ _ _ _ _ _ _ r h => by simp [spec_l71Op.j1] at h, fun _ _ _ _ _ _ _ _ _ _ _ r h => by simp [spec_l71Op.j0] at h⟩
  | k + 1 => by
    obtain ⟨ih0, ih1⟩ := spec_l71Op.mono_l k
    refine ⟨?_, ?_⟩
    · intro y0 y1 y2 y3 y4 y5 y6
      unfold spec_l71Op.j1
      repeat' first
      | (with_reducible exact ih0 _ _ _ _ _ _ _)
      | (with_reducible exact ih1 _ _ _ _ _ _ _ _ _ _ _)
      | (with_reducible exact spec_l6Rd_pick.mono _ _ _ _)
      | (with_reducible exact spec_l71Id.mono _ _ _)
      | (with_reducible exact spec_l71Text.mono _ _ _)
      | (with_reducible exact LeO.refl _)
      | (with_reducible exact LeO.none _)
      | (with_reducible refine LeO.ite ?_ ?_)
      | (with_reducible refine LeO.bind ?_ (fun _ => ?_))
      | exact ih0 _ _ _ _ _ _ _
      | exact ih1 _ _ _ _ _ _ _ _ _ _ _
      | exact spec_l6Rd_pick.mono _ _ _ _
      | exact spec_l71Id.mono _ _ _
      | exact spec_l71Text.mono _ _ _
      | exact LeO.none _
      | refine LeO.ite ?_ ?_
      | refine LeO.bind ?_ (fun _ => ?_)
    · intro y0 y1 y2 y3 y4 y5 y6 y7 y8 y9 y10
      unfold spec_l71Op.j0
      repeat' first
      | (with_reducible exact ih0 _ _ _ _ _ _ _)
      | (with_reducible exact ih1 _ _ _ _ _ _ _ _ _ _ _)
      | (with_reducible exact spec_l6Rd_pick.mono _ _ _ _)
      | (with_reducible exact spec_l71Id.mono _ _ _)
      | (with_reducible exact spec_l71Text.mono _ _ _)
      | (with_reducible exact LeO.refl _)
      | (with_reducible exact LeO.none _)
      | (with_reducible refine LeO.ite ?_ ?_)
      | (with_reducible refine LeO.bind ?_ (fun _ => ?_))
      | exact ih0 _ _ _ _ _ _ _
      | exact ih1 _ _ _ _ _ _ _ _ _ _ _
      | exact spec_l6Rd_pick.mono _ _ _ _
      | exact spec_l71Id.mono _ _ _
      | exact spec_l71Text.mono _ _ _
      | exact LeO.none _
      | refine LeO.ite ?_ ?_
      | refine LeO.bind ?_ (fun _ => ?_)
theorem spec_l71Op.mono : ∀ a0 a1 k, LeO (spec_l71Op.f k a0 a1) (spec_l71Op.f (k + 1) a0 a1) := by
  intro a0 a1 k
  obtain ⟨ih0, ih1⟩ := spec_l71Op.mono_l k
  unfold spec_l71Op.f
  repeat' first
      | (with_reducible exact ih0 _ _ _ _ _ _ _)
      | (with_reducible exact ih1 _ _ _ _ _ _ _ _ _ _ _)
      | (with_reducible exact spec_l6Rd_pick.mono _ _ _ _)
      | (with_reducible exact spec_l71Id.mono _ _ _)
      | (with_reducible exact spec_l71Text.mono _ _ _)
      | (with_reducible exact LeO.refl _)
      | (with_reducible exact LeO.none _)
      | (with_reducible refine LeO.ite ?_ ?_)
      | (with_reducible refine LeO.bind ?_ (fun _ => ?_))
      | exact ih0 _ _ _ _ _ _ _
      | exact ih1 _ _ _ _ _ _ _ _ _ _ _
      | exact spec_l6Rd_pick.mono _ _ _ _
      | exact spec_l71Id.mono _ _ _
      | exact spec_l71Text.mono _ _ _
      | exact LeO.none _
      | refine LeO.ite ?_ ?_
      | refine LeO.bind ?_ (fun _ => ?_)
set_option maxHeartbeats 8000000 in
set_option maxRecDepth 100000 in
theorem spec_l71Op.calls (k : Nat) (g : Nat) (s0_0 : List Int) (s0_1 : Int) (r1 : Int) (r2 : Int) (r3 : Int) (r4 : Int) (r5 : ByteArray) (r6 : Int) (w0 w : World) (hI : IsS80 w0 w g s0_0 s0_1) (hB : Below w0.heap.size w0 w) (h : spec_l71Op.f k s0_0 s0_1 = some (r1, r2, r3, r4, r5, r6)) :
    Calls Tryd.prog 39 #[.pointer (some ⟨g, 0, none⟩)] w fun e w' => e = .returned (.agg #[.int .i64 r1, .int .i64 r2, .int .i64 r3, .int .i64 r4, .string r5]) ∧ IsS80 w0 w' g s0_0 r6 ∧ Below w0.heap.size w0 w' ∧ KeepBut w w' g none := by
  have hu24 := Tryd.underlying24
  have HI0 := Aside0.mk hI
  have HK := Aside0.mk (KeepBut.refl w g none)
  have HL := Aside0.mk hB.size
  clear hI
  have HW0 := Aside0.mk hB.size
  have HB := Aside0.mk hB
  clear hB
  have H : ((spec_l71Id.f k s0_0 s0_1).bind fun bt129 => ((spec_l71Text.f k s0_0 bt129.2).bind fun bt131 => ((spec_l71Id.f k s0_0 bt131.2).bind fun bt134 => ((some (([1, 1, bt134.1, 2, 3] : List Int) : List Int)).bind fun y136 => ((spec_l6Rd_pick.f k s0_0 bt134.2 5).bind fun bt139 => (if 0 ≤ bt139.1 then (if bt139.1 < (y136.length : Int) then ((spec_l71Id.f k s0_0 bt139.2).bind fun bt142 => ((some (([0, bt142.1] : List Int) : List Int)).bind fun y144 => ((spec_l6Rd_pick.f k s0_0 bt142.2 2).bind fun bt147 => (if 0 ≤ bt147.1 then (if bt147.1 < (y144.length : Int) then ((spec_l6Rd_pick.f k s0_0 bt147.2 5).bind fun bt150 => (if bt150.1 = 0 then (spec_l71Op.j0 k (rd y136 bt139.1) (rd y144 bt147.1) bt150.1 (bt150.1 == 0) s0_0 bt150.2 2 bt129.1 0 0 bt131.1) else (spec_l71Op.j0 k (rd y136 bt139.1) (rd y144 bt147.1) bt150.1 (bt150.1 == 1) s0_0 bt150.2 2 bt129.1 0 0 bt131.1))) else (none)) else (none))))) else (none)) else (none))))))) = some (r1, r2, r3, r4, r5, r6) := h
  clear h
  replace H := Option.bind_eq_some_iff.mp H
  obtain ⟨⟨t129, t130⟩, A20, H⟩ := H
  (try dsimp only at H)
  have A2 := Aside0.mk A20
  clear A20
  replace H := Option.bind_eq_some_iff.mp H
  obtain ⟨⟨t131, t132⟩, A30, H⟩ := H
  (try dsimp only at H)
  have A3 := Aside0.mk A30
  clear A30
  replace H := Option.bind_eq_some_iff.mp H
  obtain ⟨⟨t134, t135⟩, A40, H⟩ := H
  (try dsimp only at H)
  have A4 := Aside0.mk A40
  clear A40
  obtain ⟨y136, hy136⟩ : ∃ y_ : List Int, y_ = (([1, 1, t134, 2, 3] : List Int)) := ⟨_, rfl⟩
  replace H : ((spec_l6Rd_pick.f k s0_0 t135 5).bind fun bt139 => (if 0 ≤ bt139.1 then (if bt139.1 < (y136.length : Int) then ((spec_l71Id.f k s0_0 bt139.2).bind fun bt142 => ((some (([0, bt142.1] : List Int) : List Int)).bind fun y144 => ((spec_l6Rd_pick.f k s0_0 bt142.2 2).bind fun bt147 => (if 0 ≤ bt147.1 then (if bt147.1 < (y144.length : Int) then ((spec_l6Rd_pick.f k s0_0 bt147.2 5).bind fun bt150 => (if bt150.1 = 0 then (spec_l71Op.j0 k (rd y136 bt139.1) (rd y144 bt147.1) bt150.1 (bt150.1 == 0) s0_0 bt150.2 2 t129 0 0 t131) else (spec_l71Op.j0 k (rd y136 bt139.1) (rd y144 bt147.1) bt150.1 (bt150.1 == 1) s0_0 bt150.2 2 t129 0 0 t131))) else (none)) else (none))))) else (none)) else (none))) = some (r1, r2, r3, r4, r5, r6) := by first | (rw [hy136]; with_reducible exact H) | (have H2_ := (Option.bind_some _ _).symm.trans H; rw [hy136]; with_reducible exact H2_) | (have H2_ := (Option.bind_some _ _).symm.trans H; with_reducible exact H2_) | with_reducible exact H | (rw [hy136]; exact H) | exact H
  have Ny136 := Aside0.mk hy136
  clear hy136
  replace H := Option.bind_eq_some_iff.mp H
  obtain ⟨⟨t139, t140⟩, A50, H⟩ := H
  (try dsimp only at H)
  have A5 := Aside0.mk A50
  clear A50
  by_cases c6 : 0 ≤ t139
  · rw [if_pos c6] at H
    have c6b0 : decide (0 ≤ t139) = true := decide_eq_true c6
    clear c6
    by_cases c7 : t139 < (y136.length : Int)
    · rw [if_pos c7] at H
      have c7b0 : decide (t139 < (y136.length : Int)) = true := decide_eq_true c7
      clear c7
      replace H := Option.bind_eq_some_iff.mp H
      obtain ⟨⟨t142, t143⟩, A80, H⟩ := H
      (try dsimp only at H)
      have A8 := Aside0.mk A80
      clear A80
      obtain ⟨y144, hy144⟩ : ∃ y_ : List Int, y_ = (([0, t142] : List Int)) := ⟨_, rfl⟩
      replace H : ((spec_l6Rd_pick.f k s0_0 t143 2).bind fun bt147 => (if 0 ≤ bt147.1 then (if bt147.1 < (y144.length : Int) then ((spec_l6Rd_pick.f k s0_0 bt147.2 5).bind fun bt150 => (if bt150.1 = 0 then (spec_l71Op.j0 k (rd y136 t139) (rd y144 bt147.1) bt150.1 (bt150.1 == 0) s0_0 bt150.2 2 t129 0 0 t131) else (spec_l71Op.j0 k (rd y136 t139) (rd y144 bt147.1) bt150.1 (bt150.1 == 1) s0_0 bt150.2 2 t129 0 0 t131))) else (none)) else (none))) = some (r1, r2, r3, r4, r5, r6) := by first | (rw [hy144]; with_reducible exact H) | (have H2_ := (Option.bind_some _ _).symm.trans H; rw [hy144]; with_reducible exact H2_) | (have H2_ := (Option.bind_some _ _).symm.trans H; with_reducible exact H2_) | with_reducible exact H | (rw [hy144]; exact H) | exact H
      have Ny144 := Aside0.mk hy144
      clear hy144
      replace H := Option.bind_eq_some_iff.mp H
      obtain ⟨⟨t147, t148⟩, A90, H⟩ := H
      (try dsimp only at H)
      have A9 := Aside0.mk A90
      clear A90
      by_cases c10 : 0 ≤ t147
      · rw [if_pos c10] at H
        have c10b0 : decide (0 ≤ t147) = true := decide_eq_true c10
        clear c10
        by_cases c11 : t147 < (y144.length : Int)
        · rw [if_pos c11] at H
          have c11b0 : decide (t147 < (y144.length : Int)) = true := decide_eq_true c11
          clear c11
          replace H := Option.bind_eq_some_iff.mp H
          obtain ⟨⟨t150, t151⟩, A120, H⟩ := H
          (try dsimp only at H)
          have A12 := Aside0.mk A120
          clear A120
          have HC13 := Aside0.mk H
          clear H
          go_enter Tryd.func39, Tryd.ntmps39
          go_upto_block 0 with (first | ((with_reducible refine gate_dst (N := 2) rfl ?_); refine box_event ?hg (N := 2) ?hd (cs := #[.int .i64 0, .int .i64 0, .int .i64 0, .int .i64 0, .string (⟨#[]⟩ : ByteArray)]) (t := 24) ?hr ?_; (case hd => rfl); (case hg => rfl); (case hr => first | (go_simp; done) | (go_simp; rfl)); intro gb128 hg w14 hbox hb; have n0_ := Aside0.mk (IsS80.below stA hb); have n1_ := Aside0.mk (KeepBut.trans keepA (KeepBut.of_below hb g none) (.inl rfl)); have n2_ := Aside0.mk (below_step belowA hb); have n3_ := Aside0.mk (hbox); have n4_ := Aside0.mk ((by rw [hg]; exact (keep_size (w := w) (g := g) (row := none) keepA) : w.heap.size ≤ gb128)); have n5_ := Aside0.mk ((Nat.le_trans HW0.out (by rw [hg]; exact (keep_size (w := w) (g := g) (row := none) keepA) : w.heap.size ≤ gb128) : w0.heap.size ≤ gb128)); have n6_ := Aside0.mk ((by rw [hg]; exact Nat.ne_of_lt (IsS80.lt (show IsS80 w0 _ g s0_0 s0_1 from stA)) : g ≠ gb128)); have n7_ := Aside0.mk ((by rw [hg]; exact Nat.ne_of_gt (IsS80.lt (show IsS80 w0 _ g s0_0 s0_1 from stA)) : gb128 ≠ g)); clear HI0; clear HK; clear HB; have HI0 := n0_; have HK := n1_; have HB := n2_; have BK128 := n3_; have GW128 := n4_; have GE128 := n5_; have NB0_128 := n6_; have NB128_0 := n7_; clear n0_ n1_ n2_ n3_ n4_ n5_ n6_ n7_; clear hb hbox hg) | ((with_reducible refine gate_callee (f := 55) rfl ?_); refine goesL_ (some 7) rfl rfl Tryd.func55 (by kernel_rfl) rfl #[.pointer (some ⟨g, 0, none⟩)] rfl argsA ?_; (with_reducible refine (spec_l71Id.calls k g s0_0 s0_1 t129 t130 w0 _ ?side1 ?side2 A2.out).mono ?_); (case side1 => exact stA); (case side2 => exact belowA); rintro e w15 ⟨rfl, hi, hb, hk⟩; refine ⟨_, rfl, ?_⟩; have n0_ := Aside0.mk (KeepBut.blk hk (g' := gb128) (o := .cells #[.int .i64 0, .int .i64 0, .int .i64 0, .int .i64 0, .string (⟨#[]⟩ : ByteArray)] 24 (0, 0)) blkA NB128_0.out (by simp)); have n1_ := Aside0.mk (KeepBut.trans keepA hk (.inl rfl)); have n2_ := Aside0.mk (hb); have n3_ := Aside0.mk (hi); clear BK128; clear HK; clear HB; clear HI0; have BK128 := n0_; have HK := n1_; have HB := n2_; have HI0 := n3_; clear n0_ n1_ n2_ n3_; (try clear hb); (try clear hb2); (try clear hk); (try clear hi)) | ((with_reducible refine gate_callee (f := 56) rfl ?_); refine goesL_ (some 9) rfl rfl Tryd.func56 (by kernel_rfl) rfl #[.pointer (some ⟨g, 0, none⟩)] rfl argsA ?_; (with_reducible refine (spec_l71Text.calls k g s0_0 t130 t131 t132 w0 _ ?side1 ?side2 A3.out).mono ?_); (case side1 => exact stA); (case side2 => exact belowA); rintro e w16 ⟨rfl, hi, hb, hk⟩; refine ⟨_, rfl, ?_⟩; have n0_ := Aside0.mk (KeepBut.blk hk (g' := gb128) (o := .cells #[.int .i64 0, .int .i64 0, .int .i64 0, .int .i64 0, .string (⟨#[]⟩ : ByteArray)] 24 (0, 0)) blkA NB128_0.out (by simp)); have n1_ := Aside0.mk (KeepBut.trans keepA hk (.inl rfl)); have n2_ := Aside0.mk (hb); have n3_ := Aside0.mk (hi); clear BK128; clear HK; clear HB; clear HI0; have BK128 := n0_; have HK := n1_; have HB := n2_; have HI0 := n3_; clear n0_ n1_ n2_ n3_; (try clear hb); (try clear hb2); (try clear hk); (try clear hi)) | ((with_reducible refine gate_dst (N := 3) rfl ?_); refine box_event ?hg (N := 3) ?hd (cs := #[.int .i64 0, .int .i64 0, .int .i64 0, .int .i64 0, .string (⟨#[]⟩ : ByteArray)]) (t := 24) ?hr ?_; (case hd => rfl); (case hg => rfl); (case hr => first | (go_simp; done) | (go_simp; rfl)); intro gb133 hg w17 hbox hb; have n0_ := Aside0.mk (IsS80.below stA hb); have n1_ := Aside0.mk (blk_below (g := gb128) (o := .cells #[.int .i64 0, .int .i64 0, .int .i64 0, .int .i64 0, .string (⟨#[]⟩ : ByteArray)] 24 (0, 0)) blkA hb); have n2_ := Aside0.mk (KeepBut.trans keepA (KeepBut.of_below hb g none) (.inl rfl)); have n3_ := Aside0.mk (below_step belowA hb); have n4_ := Aside0.mk (hbox); have n5_ := Aside0.mk ((by rw [hg]; exact (keep_size (w := w) (g := g) (row := none) keepA) : w.heap.size ≤ gb133)); have n6_ := Aside0.mk ((Nat.le_trans HW0.out (by rw [hg]; exact (keep_size (w := w) (g := g) (row := none) keepA) : w.heap.size ≤ gb133) : w0.heap.size ≤ gb133)); have n7_ := Aside0.mk ((by rw [hg]; exact Nat.ne_of_lt (blk_lt (g := gb128) (o := .cells #[.int .i64 0, .int .i64 0, .int .i64 0, .int .i64 0, .string (⟨#[]⟩ : ByteArray)] 24 (0, 0)) blkA) : gb128 ≠ gb133)); have n8_ := Aside0.mk ((by rw [hg]; exact Nat.ne_of_gt (blk_lt (g := gb128) (o := .cells #[.int .i64 0, .int .i64 0, .int .i64 0, .int .i64 0, .string (⟨#[]⟩ : ByteArray)] 24 (0, 0)) blkA) : gb133 ≠ gb128)); have n9_ := Aside0.mk ((by rw [hg]; exact Nat.ne_of_lt (IsS80.lt (show IsS80 w0 _ g s0_0 t132 from stA)) : g ≠ gb133)); have n10_ := Aside0.mk ((by rw [hg]; exact Nat.ne_of_gt (IsS80.lt (show IsS80 w0 _ g s0_0 t132 from stA)) : gb133 ≠ g)); clear HI0; clear BK128; clear HK; clear HB; have HI0 := n0_; have BK128 := n1_; have HK := n2_; have HB := n3_; have BK133 := n4_; have GW133 := n5_; have GE133 := n6_; have NB128_133 := n7_; have NB133_128 := n8_; have NB0_133 := n9_; have NB133_0 := n10_; clear n0_ n1_ n2_ n3_ n4_ n5_ n6_ n7_ n8_ n9_ n10_; clear hb hbox hg; have hnb18 := NB133_128.out; have hnc18 := NB128_133.out; have hnb19 := NB133_0.out; have hnc19 := NB0_133.out; obtain ⟨hcz20_0, hcz20_1, hcz20_2, hcz20_3, hcz20_4, hfz20_0, hfz20_1, hfz20_2, hfz20_3, hfz20_4⟩ := blk_facts5 BK133.out) | ((with_reducible refine gate_callee (f := 55) rfl ?_); refine goesL_ (some 12) rfl rfl Tryd.func55 (by kernel_rfl) rfl #[.pointer (some ⟨g, 0, none⟩)] rfl argsA ?_; (with_reducible refine (spec_l71Id.calls k g s0_0 t132 t134 t135 w0 _ ?side1 ?side2 A4.out).mono ?_); (case side1 => exact stA); (case side2 => exact belowA); rintro e w21 ⟨rfl, hi, hb, hk⟩; refine ⟨_, rfl, ?_⟩; have n0_ := Aside0.mk (KeepBut.blk hk (g' := gb128) (o := .cells #[.int .i64 0, .int .i64 0, .int .i64 0, .int .i64 0, .string (⟨#[]⟩ : ByteArray)] 24 (0, 0)) blkA NB128_0.out (by simp)); have n1_ := Aside0.mk (KeepBut.blk hk (g' := gb133) (o := .cells #[.int .i64 2, .int .i64 t129, .int .i64 0, .int .i64 0, .string t131] 24 (0, 0)) (blk_put (blk_put (blk_put (blk_put (blk_put (blkC #[.int .i64 0, .int .i64 0, .int .i64 0, .int .i64 0, .string (⟨#[]⟩ : ByteArray)]) 0 _ rfl) 1 _ rfl) 2 _ rfl) 3 _ rfl) 4 _ rfl) NB133_0.out (by simp)); have n2_ := Aside0.mk (KeepBut.trans keepA hk (.inl rfl)); have n3_ := Aside0.mk (hb); have n4_ := Aside0.mk (hi); clear BK128; clear BK133; clear HK; clear HB; clear HI0; have BK128 := n0_; have BK133 := n1_; have HK := n2_; have HB := n3_; have HI0 := n4_; clear n0_ n1_ n2_ n3_ n4_; (try clear hb); (try clear hb2); (try clear hk); (try clear hi)) | ((with_reducible refine gate_dst (N := 13) rfl ?_); refine Kd.R_lit (Kd.int .i64) _ 3 ?hg (N := 13) ?hd (xs := ([1, 1, t134, 2, 3] : List Int)) (inner := [.int .i64 1, .int .i64 1, .int .i64 t134, .int .i64 2, .int .i64 3]) (ok := fun _ => True) (okp := fun _ => True) ?hr ?hp (fun _ hk => hk) trivial (Below.refl _ _) (Nat.le_refl _) (by simp) ?_; (case hd => rfl); (case hg => rfl); (case hr => first | (go_simp; done) | (go_simp; rfl)); (case hp => exact (Reps.one (show Kd.M (Kd.int .i64) _ _ _ 1 [.int .i64 1] from rfl) (Reps.one (show Kd.M (Kd.int .i64) _ _ _ 1 [.int .i64 1] from rfl) (Reps.one (show Kd.M (Kd.int .i64) _ _ _ t134 [.int .i64 t134] from rfl) (Reps.one (show Kd.M (Kd.int .i64) _ _ _ 2 [.int .i64 2] from rfl) (Reps.one (show Kd.M (Kd.int .i64) _ _ _ 3 [.int .i64 3] from rfl) (Reps.none _ _))))))); intro v137 w22 ho23 hb hg_ hnew_; clear hg_ hnew_; (first | rw [← Ny136.out] at ho23 | (simp only [Int.reduceToNat] at ho23; rw [← Ny136.out] at ho23)); have n0_ := Aside0.mk (Kd.R_lower ho23 (keep_size (w := w) (g := g) (row := none) keepA)); have n1_ := Aside0.mk (IsS80.below stA hb); have n2_ := Aside0.mk (blk_below (g := gb128) (o := .cells #[.int .i64 0, .int .i64 0, .int .i64 0, .int .i64 0, .string (⟨#[]⟩ : ByteArray)] 24 (0, 0)) blkA hb); have n3_ := Aside0.mk (blk_below (g := gb133) (o := .cells #[.int .i64 2, .int .i64 t129, .int .i64 0, .int .i64 0, .string t131] 24 (0, 0)) blkA hb); have n4_ := Aside0.mk (KeepBut.trans keepA (KeepBut.of_below hb g none) (.inl rfl)); have n5_ := Aside0.mk (below_step belowA hb); clear HI0; clear BK128; clear BK133; clear HK; clear HB; have HO138 := n0_; have HI0 := n1_; have BK128 := n2_; have BK133 := n3_; have HK := n4_; have HB := n5_; clear n0_ n1_ n2_ n3_ n4_ n5_; clear hb ho23) | ((with_reducible refine gate_callee (f := 38) rfl ?_); refine goesL_ (some 15) rfl rfl Tryd.func38 (by kernel_rfl) rfl #[.pointer (some ⟨g, 0, none⟩), .int .i64 5] rfl argsA ?_; (with_reducible refine (spec_l6Rd_pick.calls k g s0_0 t135 5 t139 t140 w0 _ ?side1 ?side2 A5.out).mono ?_); (case side1 => exact stA); (case side2 => exact belowA); rintro e w24 ⟨rfl, hi, hb, hk⟩; refine ⟨_, rfl, ?_⟩; have n0_ := Aside0.mk (KeepBut.blk hk (g' := gb128) (o := .cells #[.int .i64 0, .int .i64 0, .int .i64 0, .int .i64 0, .string (⟨#[]⟩ : ByteArray)] 24 (0, 0)) blkA NB128_0.out (by simp)); have n1_ := Aside0.mk (KeepBut.blk hk (g' := gb133) (o := .cells #[.int .i64 2, .int .i64 t129, .int .i64 0, .int .i64 0, .string t131] 24 (0, 0)) blkA NB133_0.out (by simp)); have n2_ := Aside0.mk (Kd.R_mono (Kd.R_keep (IsS80.apart (show IsS80 w0 _ g s0_0 t135 from stA) (RA HO138) (by decide)) hk (fun _ h => h.2)) (fun _ h => h.1)); have n3_ := Aside0.mk (KeepBut.trans keepA hk (.inl rfl)); have n4_ := Aside0.mk (hb); have n5_ := Aside0.mk (hi); clear BK128; clear BK133; clear HO138; clear HK; clear HB; clear HI0; have BK128 := n0_; have BK133 := n1_; have HO138 := n2_; have HK := n3_; have HB := n4_; have HI0 := n5_; clear n0_ n1_ n2_ n3_ n4_ n5_; (try clear hb); (try clear hb2); (try clear hk); (try clear hi); obtain ⟨Ao25, co25, eo25⟩ := Kd.R_slice HO138.out; subst eo25; have p141 : 0 ≤ (t139 : Int) := of_decide_eq_true (by first | (with_reducible assumption) | assumption); have q141 : t139 < (y136.length : Int) := of_decide_eq_true (by first | (with_reducible assumption) | assumption); obtain ⟨ad141, e141, hx141_0⟩ := Kd.at_int (Kd.R_reads' HO138.out).2.2 t139 p141 q141; cases e141; replace p141 := eq_true p141; replace q141 := eq_true q141) | ((with_reducible refine gate_callee (f := 55) rfl ?_); refine goesL_ (some 19) rfl rfl Tryd.func55 (by kernel_rfl) rfl #[.pointer (some ⟨g, 0, none⟩)] rfl argsA ?_; (with_reducible refine (spec_l71Id.calls k g s0_0 t140 t142 t143 w0 _ ?side1 ?side2 A8.out).mono ?_); (case side1 => exact stA); (case side2 => exact belowA); rintro e w26 ⟨rfl, hi, hb, hk⟩; refine ⟨_, rfl, ?_⟩; have n0_ := Aside0.mk (KeepBut.blk hk (g' := gb128) (o := .cells #[.int .i64 0, .int .i64 0, .int .i64 0, .int .i64 0, .string (⟨#[]⟩ : ByteArray)] 24 (0, 0)) blkA NB128_0.out (by simp)); have n1_ := Aside0.mk (KeepBut.blk hk (g' := gb133) (o := .cells #[.int .i64 2, .int .i64 t129, .int .i64 0, .int .i64 0, .string t131] 24 (0, 0)) blkA NB133_0.out (by simp)); have n2_ := Aside0.mk (Kd.R_mono (Kd.R_keep (IsS80.apart (show IsS80 w0 _ g s0_0 t140 from stA) (RA HO138) (by decide)) hk (fun _ h => h.2)) (fun _ h => h.1)); have n3_ := Aside0.mk (KeepBut.trans keepA hk (.inl rfl)); have n4_ := Aside0.mk (hb); have n5_ := Aside0.mk (hi); clear BK128; clear BK133; clear HO138; clear HK; clear HB; clear HI0; have BK128 := n0_; have BK133 := n1_; have HO138 := n2_; have HK := n3_; have HB := n4_; have HI0 := n5_; clear n0_ n1_ n2_ n3_ n4_ n5_; (try clear hb); (try clear hb2); (try clear hk); (try clear hi)) | ((with_reducible refine gate_dst (N := 20) rfl ?_); refine Kd.R_lit (Kd.int .i64) _ 3 ?hg (N := 20) ?hd (xs := ([0, t142] : List Int)) (inner := [.int .i64 0, .int .i64 t142]) (ok := fun _ => True) (okp := fun _ => True) ?hr ?hp (fun _ hk => hk) trivial (Below.refl _ _) (Nat.le_refl _) (by simp) ?_; (case hd => rfl); (case hg => rfl); (case hr => first | (go_simp; done) | (go_simp; rfl)); (case hp => exact (Reps.one (show Kd.M (Kd.int .i64) _ _ _ 0 [.int .i64 0] from rfl) (Reps.one (show Kd.M (Kd.int .i64) _ _ _ t142 [.int .i64 t142] from rfl) (Reps.none _ _)))); intro v145 w27 ho28 hb hg_ hnew_; clear hg_ hnew_; (first | rw [← Ny144.out] at ho28 | (simp only [Int.reduceToNat] at ho28; rw [← Ny144.out] at ho28)); have n0_ := Aside0.mk (Kd.R_elder' (RA HO138) (Kd.R_base ho28) hb); have n1_ := Aside0.mk (Kd.R_lower (Kd.R_new' ho28 (Kd.R_lt (RA HO138))) (keep_size (w := w) (g := g) (row := none) keepA)); have n2_ := Aside0.mk (IsS80.below stA hb); have n3_ := Aside0.mk (blk_below (g := gb128) (o := .cells #[.int .i64 0, .int .i64 0, .int .i64 0, .int .i64 0, .string (⟨#[]⟩ : ByteArray)] 24 (0, 0)) blkA hb); have n4_ := Aside0.mk (blk_below (g := gb133) (o := .cells #[.int .i64 2, .int .i64 t129, .int .i64 0, .int .i64 0, .string t131] 24 (0, 0)) blkA hb); have n5_ := Aside0.mk (KeepBut.trans keepA (KeepBut.of_below hb g none) (.inl rfl)); have n6_ := Aside0.mk (below_step belowA hb); clear HO138; clear HI0; clear BK128; clear BK133; clear HK; clear HB; have HO138 := n0_; have HO146 := n1_; have HI0 := n2_; have BK128 := n3_; have BK133 := n4_; have HK := n5_; have HB := n6_; clear n0_ n1_ n2_ n3_ n4_ n5_ n6_; clear hb ho28) | ((with_reducible refine gate_callee (f := 38) rfl ?_); refine goesL_ (some 22) rfl rfl Tryd.func38 (by kernel_rfl) rfl #[.pointer (some ⟨g, 0, none⟩), .int .i64 2] rfl argsA ?_; (with_reducible refine (spec_l6Rd_pick.calls k g s0_0 t143 2 t147 t148 w0 _ ?side1 ?side2 A9.out).mono ?_); (case side1 => exact stA); (case side2 => exact belowA); rintro e w29 ⟨rfl, hi, hb, hk⟩; refine ⟨_, rfl, ?_⟩; have n0_ := Aside0.mk (KeepBut.blk hk (g' := gb128) (o := .cells #[.int .i64 0, .int .i64 0, .int .i64 0, .int .i64 0, .string (⟨#[]⟩ : ByteArray)] 24 (0, 0)) blkA NB128_0.out (by simp)); have n1_ := Aside0.mk (KeepBut.blk hk (g' := gb133) (o := .cells #[.int .i64 2, .int .i64 t129, .int .i64 0, .int .i64 0, .string t131] 24 (0, 0)) blkA NB133_0.out (by simp)); have n2_ := Aside0.mk (Kd.R_mono (Kd.R_keep (IsS80.apart (show IsS80 w0 _ g s0_0 t143 from stA) (RA HO138) (by decide)) hk (fun _ h => h.2)) (fun _ h => h.1)); have n3_ := Aside0.mk (Kd.R_mono (Kd.R_keep (IsS80.apart (show IsS80 w0 _ g s0_0 t143 from stA) (RA HO146) (by decide)) hk (fun _ h => h.2)) (fun _ h => h.1)); have n4_ := Aside0.mk (KeepBut.trans keepA hk (.inl rfl)); have n5_ := Aside0.mk (hb); have n6_ := Aside0.mk (hi); clear BK128; clear BK133; clear HO138; clear HO146; clear HK; clear HB; clear HI0; have BK128 := n0_; have BK133 := n1_; have HO138 := n2_; have HO146 := n3_; have HK := n4_; have HB := n5_; have HI0 := n6_; clear n0_ n1_ n2_ n3_ n4_ n5_ n6_; (try clear hb); (try clear hb2); (try clear hk); (try clear hi); obtain ⟨Ao30, co30, eo30⟩ := Kd.R_slice HO146.out; subst eo30; have p149 : 0 ≤ (t147 : Int) := of_decide_eq_true (by first | (with_reducible assumption) | assumption); have q149 : t147 < (y144.length : Int) := of_decide_eq_true (by first | (with_reducible assumption) | assumption); obtain ⟨ad149, e149, hx149_0⟩ := Kd.at_int (Kd.R_reads' HO146.out).2.2 t147 p149 q149; cases e149; replace p149 := eq_true p149; replace q149 := eq_true q149) | ((with_reducible refine gate_callee (f := 38) rfl ?_); refine goesL_ (some 26) rfl rfl Tryd.func38 (by kernel_rfl) rfl #[.pointer (some ⟨g, 0, none⟩), .int .i64 5] rfl argsA ?_; (with_reducible refine (spec_l6Rd_pick.calls k g s0_0 t148 5 t150 t151 w0 _ ?side1 ?side2 A12.out).mono ?_); (case side1 => exact stA); (case side2 => exact belowA); rintro e w31 ⟨rfl, hi, hb, hk⟩; refine ⟨_, rfl, ?_⟩; have n0_ := Aside0.mk (KeepBut.blk hk (g' := gb128) (o := .cells #[.int .i64 0, .int .i64 0, .int .i64 0, .int .i64 0, .string (⟨#[]⟩ : ByteArray)] 24 (0, 0)) blkA NB128_0.out (by simp)); have n1_ := Aside0.mk (KeepBut.blk hk (g' := gb133) (o := .cells #[.int .i64 2, .int .i64 t129, .int .i64 0, .int .i64 0, .string t131] 24 (0, 0)) blkA NB133_0.out (by simp)); have n2_ := Aside0.mk (Kd.R_mono (Kd.R_keep (IsS80.apart (show IsS80 w0 _ g s0_0 t148 from stA) (RA HO138) (by decide)) hk (fun _ h => h.2)) (fun _ h => h.1)); have n3_ := Aside0.mk (Kd.R_mono (Kd.R_keep (IsS80.apart (show IsS80 w0 _ g s0_0 t148 from stA) (RA HO146) (by decide)) hk (fun _ h => h.2)) (fun _ h => h.1)); have n4_ := Aside0.mk (KeepBut.trans keepA hk (.inl rfl)); have n5_ := Aside0.mk (hb); have n6_ := Aside0.mk (hi); clear BK128; clear BK133; clear HO138; clear HO146; clear HK; clear HB; clear HI0; have BK128 := n0_; have BK133 := n1_; have HO138 := n2_; have HO146 := n3_; have HK := n4_; have HB := n5_; have HI0 := n6_; clear n0_ n1_ n2_ n3_ n4_ n5_ n6_; (try clear hb); (try clear hb2); (try clear hk); (try clear hi)))
          (try simp only [Act.put, List.setIfInBounds_toArray, List.set_cons_zero, List.set_cons_succ])
          go_cut [] (fun wc => ∃ (kq : Nat) (x134000_12 : Int) (x134001_12 : Int) (x134002_12 : Int) (x134003_12 : Int) (x134004_12 : ByteArray), Aside0 (spec_l71Op.j1 kq s0_0 t151 x134000_12 x134001_12 x134002_12 x134003_12 x134004_12 = some (r1, r2, r3, r4, r5, r6)) ∧ Aside0 (kq ≤ k) ∧ Aside0 (wc.heap[gb128]? = some (.cells #[.int .i64 0, .int .i64 0, .int .i64 0, .int .i64 0, .string (⟨#[]⟩ : ByteArray)] 24 (0, 0))) ∧ Aside0 (wc.heap[gb133]? = some (.cells #[.int .i64 x134000_12, .int .i64 x134001_12, .int .i64 x134002_12, .int .i64 x134003_12, .string x134004_12] 24 (0, 0))) ∧ Aside0 (IsS80 w0 wc g s0_0 t151) ∧ Aside0 (KeepBut w wc g none) ∧ Aside0 (Below w0.heap.size w0 wc))
          case first =>
            have H := HC13.out
            clear HC13
            have HC32 := Aside0.mk H
            clear H
            go_upto_if 27 with (fail)
            go_cut [27] (fun v27 wc => ∃ (kq : Nat) (x27_31 : Bool), v27 = .bool x27_31 ∧ Aside0 (spec_l71Op.j0 kq (rd y136 t139) (rd y144 t147) t150 x27_31 s0_0 t151 2 t129 0 0 t131 = some (r1, r2, r3, r4, r5, r6)) ∧ Aside0 (kq ≤ k) ∧ Aside0 (wc.heap[gb128]? = some (.cells #[.int .i64 0, .int .i64 0, .int .i64 0, .int .i64 0, .string (⟨#[]⟩ : ByteArray)] 24 (0, 0))) ∧ Aside0 (wc.heap[gb133]? = some (.cells #[.int .i64 2, .int .i64 t129, .int .i64 0, .int .i64 0, .string t131] 24 (0, 0))) ∧ Aside0 (IsS80 w0 wc g s0_0 t151) ∧ Aside0 (KeepBut w wc g none) ∧ Aside0 (Below w0.heap.size w0 wc))
            case first =>
              have H := HC32.out
              clear HC32
              by_cases c33 : t150 = 0
              · rw [if_pos c33] at H
                have c33b0 : (t150 == 0) = true := beq_iff_eq.mpr c33
                have c33b1 : (t150 != 0) = false := bne_eq_false_iff_eq.mpr c33
                clear c33
                (first | rw [c33b0] | (simp only [i64_w, i32_w]; rw [c33b0]) | skip)
                have H' := Aside0.mk H
                clear H
                go_wp2
                go_meet
                case rel => exact ⟨_, ((t150 == 0)), (by first | rfl | (simp; done) | (simp [*]; done)), H', ⟨by first | omega | exact Nat.le_refl _⟩, ⟨by (with_reducible repeat (first | refine blk_drewN ?_ _ | refine blk_drew ?_ | refine blk_alloc ?_ _)); exact BK128.out⟩, ⟨by (with_reducible repeat (first | refine blk_drewN ?_ _ | refine blk_drew ?_ | refine blk_alloc ?_ _)); exact BK133.out⟩, ⟨stA⟩, ⟨keepA⟩, ⟨belowA⟩⟩
              · rw [if_neg c33] at H
                have c33b0 : (t150 == 0) = false := beq_eq_false_iff_ne.mpr c33
                have c33b1 : (t150 != 0) = true := bne_iff_ne.mpr c33
                (first | rw [c33b0] | (simp only [i64_w, i32_w]; rw [c33b0]) | skip)
                have H' := Aside0.mk H
                clear H
                go_wp2
                go_meet
                case rel => exact ⟨_, ((t150 == 1)), (by first | rfl | (simp; done) | (simp [*]; done)), H', ⟨by first | omega | exact Nat.le_refl _⟩, ⟨by (with_reducible repeat (first | refine blk_drewN ?_ _ | refine blk_drew ?_ | refine blk_alloc ?_ _)); exact BK128.out⟩, ⟨by (with_reducible repeat (first | refine blk_drewN ?_ _ | refine blk_drew ?_ | refine blk_alloc ?_ _)); exact BK133.out⟩, ⟨stA⟩, ⟨keepA⟩, ⟨belowA⟩⟩
            case rest =>
              clear HC32
              try clear c1
              try clear p1
              try clear q1
              try clear hx1
              try clear p2
              try clear c3
              try clear c5
              try clear c6
              try clear c6b0
              try clear c7
              try clear c7b0
              try clear c10
              try clear c10b0
              try clear c11
              try clear c11b0
              try clear p14
              try clear q14
              try clear hx14
              try clear c18
              try clear c19
              try clear c33
              try clear c33b0
              try clear c33b1
              try clear hcz20_0 hcz20_1 hcz20_2 hcz20_3 hcz20_4 hfz20_0 hfz20_1 hfz20_2 hfz20_3 hfz20_4
              try clear hx141_0
              try clear hx149_0
              try clear p141
              try clear p149
              try clear q141
              try clear q149
              obtain ⟨kq, x27_31, rfl, HA, HJ31, BK128, BK133, HI0, HK, HB⟩ := hcut
              cases kq with
              | zero => exact absurd HA.out (by simp [spec_l71Op.j0])
              | succ kj31 =>
                have H := HA.out
                clear HA
                simp only [spec_l71Op.j0] at H
                by_cases c34 : x27_31 = true
                · subst c34
                  have H1 : (spec_l71Op.j1 kj31 s0_0 t151 1 t129 (rd y136 t139) (rd y144 t147) t131) = some (r1, r2, r3, r4, r5, r6) := by rw [if_pos rfl] at H; exact H
                  clear H
                  have H := H1
                  clear H1
                  have H' := Aside0.mk H
                  clear H
                  have hnb35 := NB133_128.out
                  have hnc35 := NB128_133.out
                  have hnb36 := NB133_0.out
                  have hnc36 := NB0_133.out
                  obtain ⟨hcz37_0, hcz37_1, hcz37_2, hcz37_3, hcz37_4, hfz37_0, hfz37_1, hfz37_2, hfz37_3, hfz37_4⟩ := blk_facts5 BK133.out
                  go_wp2
                  go_meet
                  case rel => exact ⟨_, (1), (t129), ((rd y136 t139)), ((rd y144 t147)), (t131), H', ⟨by have := HJ31.out; first | omega | exact Nat.le_refl _⟩, ⟨by (with_reducible repeat (first | refine blk_drewN ?_ _ | refine blk_drew ?_ | refine blk_alloc ?_ _)); refine blk_far ?_ NB128_133.out _; (with_reducible repeat (first | refine blk_drewN ?_ _ | refine blk_drew ?_ | refine blk_alloc ?_ _)); refine blk_far ?_ NB128_133.out _; (with_reducible repeat (first | refine blk_drewN ?_ _ | refine blk_drew ?_ | refine blk_alloc ?_ _)); refine blk_far ?_ NB128_133.out _; (with_reducible repeat (first | refine blk_drewN ?_ _ | refine blk_drew ?_ | refine blk_alloc ?_ _)); refine blk_far ?_ NB128_133.out _; (with_reducible repeat (first | refine blk_drewN ?_ _ | refine blk_drew ?_ | refine blk_alloc ?_ _)); refine blk_far ?_ NB128_133.out _; (with_reducible repeat (first | refine blk_drewN ?_ _ | refine blk_drew ?_ | refine blk_alloc ?_ _)); exact BK128.out⟩, ⟨by (with_reducible repeat (first | refine blk_drewN ?_ _ | refine blk_drew ?_ | refine blk_alloc ?_ _)); refine blk_put (cs := #[.int .i64 1, .int .i64 t129, .int .i64 (rd y136 t139), .int .i64 (rd y144 t147), .string t131]) ?_ 4 _ rfl; (with_reducible repeat (first | refine blk_drewN ?_ _ | refine blk_drew ?_ | refine blk_alloc ?_ _)); refine blk_put (cs := #[.int .i64 1, .int .i64 t129, .int .i64 (rd y136 t139), .int .i64 0, .string t131]) ?_ 3 _ rfl; (with_reducible repeat (first | refine blk_drewN ?_ _ | refine blk_drew ?_ | refine blk_alloc ?_ _)); refine blk_put (cs := #[.int .i64 1, .int .i64 t129, .int .i64 0, .int .i64 0, .string t131]) ?_ 2 _ rfl; (with_reducible repeat (first | refine blk_drewN ?_ _ | refine blk_drew ?_ | refine blk_alloc ?_ _)); refine blk_put (cs := #[.int .i64 1, .int .i64 t129, .int .i64 0, .int .i64 0, .string t131]) ?_ 1 _ rfl; (with_reducible repeat (first | refine blk_drewN ?_ _ | refine blk_drew ?_ | refine blk_alloc ?_ _)); refine blk_put (cs := #[.int .i64 2, .int .i64 t129, .int .i64 0, .int .i64 0, .string t131]) ?_ 0 _ rfl; (with_reducible repeat (first | refine blk_drewN ?_ _ | refine blk_drew ?_ | refine blk_alloc ?_ _)); exact BK133.out⟩, ⟨stA⟩, ⟨keepA⟩, ⟨belowA⟩⟩
                · replace c34 := Bool.eq_false_iff.mpr c34
                  subst c34
                  have H1 : (if t150 = 2 then (spec_l71Op.j1 kj31 s0_0 t151 3 t129 (rd y136 t139) (rd y144 t147) (⟨#[]⟩ : ByteArray)) else (if t150 = 3 then (spec_l71Op.j1 kj31 s0_0 t151 3 t129 (rd y136 t139) (rd y144 t147) (⟨#[]⟩ : ByteArray)) else (spec_l71Op.j1 kj31 s0_0 t151 2 t129 0 0 t131))) = some (r1, r2, r3, r4, r5, r6) := by rw [if_neg (show ¬ (false = true) by decide)] at H; exact H
                  clear H
                  have H := H1
                  clear H1
                  by_cases c38 : t150 = 2
                  · rw [if_pos c38] at H
                    have c38b0 : (t150 == 2) = true := beq_iff_eq.mpr c38
                    have c38b1 : (t150 != 2) = false := bne_eq_false_iff_eq.mpr c38
                    clear c38
                    have H' := Aside0.mk H
                    clear H
                    have hnb39 := NB133_128.out
                    have hnc39 := NB128_133.out
                    have hnb40 := NB133_0.out
                    have hnc40 := NB0_133.out
                    obtain ⟨hcz41_0, hcz41_1, hcz41_2, hcz41_3, hcz41_4, hfz41_0, hfz41_1, hfz41_2, hfz41_3, hfz41_4⟩ := blk_facts5 BK133.out
                    go_wp2
                    go_meet
                    case rel => exact ⟨_, (3), (t129), ((rd y136 t139)), ((rd y144 t147)), ((⟨#[]⟩ : ByteArray)), H', ⟨by have := HJ31.out; first | omega | exact Nat.le_refl _⟩, ⟨by (with_reducible repeat (first | refine blk_drewN ?_ _ | refine blk_drew ?_ | refine blk_alloc ?_ _)); refine blk_far ?_ NB128_133.out _; (with_reducible repeat (first | refine blk_drewN ?_ _ | refine blk_drew ?_ | refine blk_alloc ?_ _)); refine blk_far ?_ NB128_133.out _; (with_reducible repeat (first | refine blk_drewN ?_ _ | refine blk_drew ?_ | refine blk_alloc ?_ _)); refine blk_far ?_ NB128_133.out _; (with_reducible repeat (first | refine blk_drewN ?_ _ | refine blk_drew ?_ | refine blk_alloc ?_ _)); refine blk_far ?_ NB128_133.out _; (with_reducible repeat (first | refine blk_drewN ?_ _ | refine blk_drew ?_ | refine blk_alloc ?_ _)); refine blk_far ?_ NB128_133.out _; (with_reducible repeat (first | refine blk_drewN ?_ _ | refine blk_drew ?_ | refine blk_alloc ?_ _)); exact BK128.out⟩, ⟨by (with_reducible repeat (first | refine blk_drewN ?_ _ | refine blk_drew ?_ | refine blk_alloc ?_ _)); refine blk_put (cs := #[.int .i64 3, .int .i64 t129, .int .i64 (rd y136 t139), .int .i64 (rd y144 t147), .string t131]) ?_ 4 _ rfl; (with_reducible repeat (first | refine blk_drewN ?_ _ | refine blk_drew ?_ | refine blk_alloc ?_ _)); refine blk_put (cs := #[.int .i64 3, .int .i64 t129, .int .i64 (rd y136 t139), .int .i64 0, .string t131]) ?_ 3 _ rfl; (with_reducible repeat (first | refine blk_drewN ?_ _ | refine blk_drew ?_ | refine blk_alloc ?_ _)); refine blk_put (cs := #[.int .i64 3, .int .i64 t129, .int .i64 0, .int .i64 0, .string t131]) ?_ 2 _ rfl; (with_reducible repeat (first | refine blk_drewN ?_ _ | refine blk_drew ?_ | refine blk_alloc ?_ _)); refine blk_put (cs := #[.int .i64 3, .int .i64 t129, .int .i64 0, .int .i64 0, .string t131]) ?_ 1 _ rfl; (with_reducible repeat (first | refine blk_drewN ?_ _ | refine blk_drew ?_ | refine blk_alloc ?_ _)); refine blk_put (cs := #[.int .i64 2, .int .i64 t129, .int .i64 0, .int .i64 0, .string t131]) ?_ 0 _ rfl; (with_reducible repeat (first | refine blk_drewN ?_ _ | refine blk_drew ?_ | refine blk_alloc ?_ _)); exact BK133.out⟩, ⟨stA⟩, ⟨keepA⟩, ⟨belowA⟩⟩
                  · rw [if_neg c38] at H
                    have c38b0 : (t150 == 2) = false := beq_eq_false_iff_ne.mpr c38
                    have c38b1 : (t150 != 2) = true := bne_iff_ne.mpr c38
                    by_cases c42 : t150 = 3
                    · rw [if_pos c42] at H
                      have c42b0 : (t150 == 3) = true := beq_iff_eq.mpr c42
                      have c42b1 : (t150 != 3) = false := bne_eq_false_iff_eq.mpr c42
                      clear c42
                      have H' := Aside0.mk H
                      clear H
                      have hnb43 := NB133_128.out
                      have hnc43 := NB128_133.out
                      have hnb44 := NB133_0.out
                      have hnc44 := NB0_133.out
                      obtain ⟨hcz45_0, hcz45_1, hcz45_2, hcz45_3, hcz45_4, hfz45_0, hfz45_1, hfz45_2, hfz45_3, hfz45_4⟩ := blk_facts5 BK133.out
                      go_wp2
                      go_meet
                      case rel => exact ⟨_, (3), (t129), ((rd y136 t139)), ((rd y144 t147)), ((⟨#[]⟩ : ByteArray)), H', ⟨by have := HJ31.out; first | omega | exact Nat.le_refl _⟩, ⟨by (with_reducible repeat (first | refine blk_drewN ?_ _ | refine blk_drew ?_ | refine blk_alloc ?_ _)); refine blk_far ?_ NB128_133.out _; (with_reducible repeat (first | refine blk_drewN ?_ _ | refine blk_drew ?_ | refine blk_alloc ?_ _)); refine blk_far ?_ NB128_133.out _; (with_reducible repeat (first | refine blk_drewN ?_ _ | refine blk_drew ?_ | refine blk_alloc ?_ _)); refine blk_far ?_ NB128_133.out _; (with_reducible repeat (first | refine blk_drewN ?_ _ | refine blk_drew ?_ | refine blk_alloc ?_ _)); refine blk_far ?_ NB128_133.out _; (with_reducible repeat (first | refine blk_drewN ?_ _ | refine blk_drew ?_ | refine blk_alloc ?_ _)); refine blk_far ?_ NB128_133.out _; (with_reducible repeat (first | refine blk_drewN ?_ _ | refine blk_drew ?_ | refine blk_alloc ?_ _)); exact BK128.out⟩, ⟨by (with_reducible repeat (first | refine blk_drewN ?_ _ | refine blk_drew ?_ | refine blk_alloc ?_ _)); refine blk_put (cs := #[.int .i64 3, .int .i64 t129, .int .i64 (rd y136 t139), .int .i64 (rd y144 t147), .string t131]) ?_ 4 _ rfl; (with_reducible repeat (first | refine blk_drewN ?_ _ | refine blk_drew ?_ | refine blk_alloc ?_ _)); refine blk_put (cs := #[.int .i64 3, .int .i64 t129, .int .i64 (rd y136 t139), .int .i64 0, .string t131]) ?_ 3 _ rfl; (with_reducible repeat (first | refine blk_drewN ?_ _ | refine blk_drew ?_ | refine blk_alloc ?_ _)); refine blk_put (cs := #[.int .i64 3, .int .i64 t129, .int .i64 0, .int .i64 0, .string t131]) ?_ 2 _ rfl; (with_reducible repeat (first | refine blk_drewN ?_ _ | refine blk_drew ?_ | refine blk_alloc ?_ _)); refine blk_put (cs := #[.int .i64 3, .int .i64 t129, .int .i64 0, .int .i64 0, .string t131]) ?_ 1 _ rfl; (with_reducible repeat (first | refine blk_drewN ?_ _ | refine blk_drew ?_ | refine blk_alloc ?_ _)); refine blk_put (cs := #[.int .i64 2, .int .i64 t129, .int .i64 0, .int .i64 0, .string t131]) ?_ 0 _ rfl; (with_reducible repeat (first | refine blk_drewN ?_ _ | refine blk_drew ?_ | refine blk_alloc ?_ _)); exact BK133.out⟩, ⟨stA⟩, ⟨keepA⟩, ⟨belowA⟩⟩
                    · rw [if_neg c42] at H
                      have c42b0 : (t150 == 3) = false := beq_eq_false_iff_ne.mpr c42
                      have c42b1 : (t150 != 3) = true := bne_iff_ne.mpr c42
                      have H' := Aside0.mk H
                      clear H
                      go_wp2
                      go_meet
                      case rel => exact ⟨_, (2), (t129), (0), (0), (t131), H', ⟨by have := HJ31.out; first | omega | exact Nat.le_refl _⟩, ⟨by (with_reducible repeat (first | refine blk_drewN ?_ _ | refine blk_drew ?_ | refine blk_alloc ?_ _)); exact BK128.out⟩, ⟨by (with_reducible repeat (first | refine blk_drewN ?_ _ | refine blk_drew ?_ | refine blk_alloc ?_ _)); exact BK133.out⟩, ⟨stA⟩, ⟨keepA⟩, ⟨belowA⟩⟩
          case rest =>
            clear HC13
            try clear c1
            try clear p1
            try clear q1
            try clear hx1
            try clear p2
            try clear c3
            try clear c4
            try clear c5
            try clear c6
            try clear c6b0
            try clear c7
            try clear c7b0
            try clear c10
            try clear c10b0
            try clear c11
            try clear c11b0
            try clear p14
            try clear q14
            try clear hx14
            try clear c18
            try clear c19
            try clear c33
            try clear c33b0
            try clear c33b1
            try clear c34
            try clear c35
            try clear c36
            try clear c38
            try clear c38b0
            try clear c38b1
            try clear c39
            try clear c40
            try clear c42
            try clear c42b0
            try clear c42b1
            try clear c43
            try clear c44
            try clear hcz20_0 hcz20_1 hcz20_2 hcz20_3 hcz20_4
            try clear hcz37_0 hcz37_1 hcz37_2 hcz37_3 hcz37_4
            try clear hcz41_0 hcz41_1 hcz41_2 hcz41_3 hcz41_4
            try clear hcz45_0 hcz45_1 hcz45_2 hcz45_3 hcz45_4
            try clear hfz20_0 hfz20_1 hfz20_2 hfz20_3 hfz20_4
            try clear hfz37_0 hfz37_1 hfz37_2 hfz37_3 hfz37_4
            try clear hfz41_0 hfz41_1 hfz41_2 hfz41_3 hfz41_4
            try clear hfz45_0 hfz45_1 hfz45_2 hfz45_3 hfz45_4
            try clear hx141_0
            try clear hx149_0
            try clear p1
            try clear p14
            try clear p141
            try clear p149
            try clear p2
            try clear q1
            try clear q14
            try clear q141
            try clear q149
            obtain ⟨kq, x134000_12, x134001_12, x134002_12, x134003_12, x134004_12, HA, HJ12, BK128, BK133, HI0, HK, HB⟩ := hcut
            cases kq with
            | zero => exact absurd HA.out (by simp [spec_l71Op.j1])
            | succ kj12 =>
              have H := HA.out
              clear HA
              simp only [spec_l71Op.j1] at H
              replace H := Option.bind_eq_some_iff.mp H
              obtain ⟨⟨t152, t153⟩, A460, H⟩ := H
              (try dsimp only at H)
              have A46 := Aside0.mk A460
              clear A460
              by_cases c47 : t152 = 0
              · rw [if_pos c47] at H
                have c47b0 : (t152 == 0) = true := beq_iff_eq.mpr c47
                have c47b1 : (t152 != 0) = false := bne_eq_false_iff_eq.mpr c47
                clear c47
                replace H := Option.bind_eq_some_iff.mp H
                obtain ⟨⟨t154, t155⟩, A480, H⟩ := H
                (try dsimp only at H)
                have A48 := Aside0.mk A480
                clear A480
                simp only [Option.some.injEq, Prod.mk.injEq] at H
                obtain ⟨rfl, rfl, rfl, rfl, rfl, rfl⟩ := H
                go_wp2_with (first | ((with_reducible refine gate_callee (f := 38) rfl ?_); refine goesL_ (some 46) rfl rfl Tryd.func38 (by kernel_rfl) rfl #[.pointer (some ⟨g, 0, none⟩), .int .i64 30] rfl argsA ?_; (with_reducible refine (spec_l6Rd_pick.calls kj12 g s0_0 t151 30 t152 t153 w0 _ ?side1 ?side2 A46.out).mono ?_); (case side1 => exact stA); (case side2 => exact belowA); rintro e w49 ⟨rfl, hi, hb, hk⟩; refine ⟨_, rfl, ?_⟩; have n0_ := Aside0.mk (KeepBut.blk hk (g' := gb128) (o := .cells #[.int .i64 0, .int .i64 0, .int .i64 0, .int .i64 0, .string (⟨#[]⟩ : ByteArray)] 24 (0, 0)) blkA NB128_0.out (by simp)); have n1_ := Aside0.mk (KeepBut.blk hk (g' := gb133) (o := .cells #[.int .i64 x134000_12, .int .i64 x134001_12, .int .i64 x134002_12, .int .i64 x134003_12, .string x134004_12] 24 (0, 0)) blkA NB133_0.out (by simp)); have n2_ := Aside0.mk (KeepBut.trans keepA hk (.inl rfl)); have n3_ := Aside0.mk (hb); have n4_ := Aside0.mk (hi); clear BK128; clear BK133; clear HK; clear HB; clear HI0; have BK128 := n0_; have BK133 := n1_; have HK := n2_; have HB := n3_; have HI0 := n4_; clear n0_ n1_ n2_ n3_ n4_; (try clear hb); (try clear hb2); (try clear hk); (try clear hi)) | ((with_reducible refine gate_callee (f := 38) rfl ?_); refine goesL_ (some 50) rfl rfl Tryd.func38 (by kernel_rfl) rfl #[.pointer (some ⟨g, 0, none⟩), .int .i64 5] rfl argsA ?_; (with_reducible refine (spec_l6Rd_pick.calls kj12 g s0_0 t153 5 t154 t155 w0 _ ?side1 ?side2 A48.out).mono ?_); (case side1 => exact stA); (case side2 => exact belowA); rintro e w50 ⟨rfl, hi, hb, hk⟩; refine ⟨_, rfl, ?_⟩; have n0_ := Aside0.mk (KeepBut.blk hk (g' := gb128) (o := .cells #[.int .i64 0, .int .i64 0, .int .i64 0, .int .i64 0, .string (⟨#[]⟩ : ByteArray)] 24 (0, 0)) blkA NB128_0.out (by simp)); have n1_ := Aside0.mk (KeepBut.blk hk (g' := gb133) (o := .cells #[.int .i64 x134000_12, .int .i64 x134001_12, .int .i64 x134002_12, .int .i64 x134003_12, .string x134004_12] 24 (0, 0)) blkA NB133_0.out (by simp)); have n2_ := Aside0.mk (KeepBut.trans keepA hk (.inl rfl)); have n3_ := Aside0.mk (hb); have n4_ := Aside0.mk (hi); clear BK128; clear BK133; clear HK; clear HB; clear HI0; have BK128 := n0_; have BK133 := n1_; have HK := n2_; have HB := n3_; have HI0 := n4_; clear n0_ n1_ n2_ n3_ n4_; (try clear hb); (try clear hb2); (try clear hk); (try clear hi); have hnb51 := NB133_128.out; have hnc51 := NB128_133.out; have hnb52 := NB133_0.out; have hnc52 := NB0_133.out; obtain ⟨hcz53_0, hcz53_1, hcz53_2, hcz53_3, hcz53_4, hfz53_0, hfz53_1, hfz53_2, hfz53_3, hfz53_4⟩ := blk_facts5 BK133.out; have hnb54 := NB128_0.out; have hnc54 := NB0_128.out; obtain ⟨hcz55_0, hcz55_1, hcz55_2, hcz55_3, hcz55_4, hfz55_0, hfz55_1, hfz55_2, hfz55_3, hfz55_4⟩ := blk_facts5 BK128.out))
                refine bodyPost_ret (results_cell_row rfl _ _ gb128 24 #[.int .i64 t154, .int .i64 x134001_12, .int .i64 x134002_12, .int .i64 x134003_12, .string x134004_12] (0, 0) _ rfl (blk_put (blk_put (blk_put (blk_put (blk_put (blkC #[.int .i64 0, .int .i64 0, .int .i64 0, .int .i64 0, .string (⟨#[]⟩ : ByteArray)]) 0 _ rfl) 1 _ rfl) 2 _ rfl) 3 _ rfl) 4 _ rfl) Tryd.underlying24 rfl (by kernel_rfl)) rfl ?_
                exact ⟨endA, stA, belowA, keepA⟩
              · rw [if_neg c47] at H
                have c47b0 : (t152 == 0) = false := beq_eq_false_iff_ne.mpr c47
                have c47b1 : (t152 != 0) = true := bne_iff_ne.mpr c47
                by_cases c56 : t152 = 1
                · rw [if_pos c56] at H
                  have c56b0 : (t152 == 1) = true := beq_iff_eq.mpr c56
                  have c56b1 : (t152 != 1) = false := bne_eq_false_iff_eq.mpr c56
                  clear c56
                  replace H := Option.bind_eq_some_iff.mp H
                  obtain ⟨⟨t156, t157⟩, A570, H⟩ := H
                  (try dsimp only at H)
                  have A57 := Aside0.mk A570
                  clear A570
                  simp only [Option.some.injEq, Prod.mk.injEq] at H
                  obtain ⟨rfl, rfl, rfl, rfl, rfl, rfl⟩ := H
                  go_wp2_with (first | ((with_reducible refine gate_callee (f := 38) rfl ?_); refine goesL_ (some 46) rfl rfl Tryd.func38 (by kernel_rfl) rfl #[.pointer (some ⟨g, 0, none⟩), .int .i64 30] rfl argsA ?_; (with_reducible refine (spec_l6Rd_pick.calls kj12 g s0_0 t151 30 t152 t153 w0 _ ?side1 ?side2 A46.out).mono ?_); (case side1 => exact stA); (case side2 => exact belowA); rintro e w58 ⟨rfl, hi, hb, hk⟩; refine ⟨_, rfl, ?_⟩; have n0_ := Aside0.mk (KeepBut.blk hk (g' := gb128) (o := .cells #[.int .i64 0, .int .i64 0, .int .i64 0, .int .i64 0, .string (⟨#[]⟩ : ByteArray)] 24 (0, 0)) blkA NB128_0.out (by simp)); have n1_ := Aside0.mk (KeepBut.blk hk (g' := gb133) (o := .cells #[.int .i64 x134000_12, .int .i64 x134001_12, .int .i64 x134002_12, .int .i64 x134003_12, .string x134004_12] 24 (0, 0)) blkA NB133_0.out (by simp)); have n2_ := Aside0.mk (KeepBut.trans keepA hk (.inl rfl)); have n3_ := Aside0.mk (hb); have n4_ := Aside0.mk (hi); clear BK128; clear BK133; clear HK; clear HB; clear HI0; have BK128 := n0_; have BK133 := n1_; have HK := n2_; have HB := n3_; have HI0 := n4_; clear n0_ n1_ n2_ n3_ n4_; (try clear hb); (try clear hb2); (try clear hk); (try clear hi)) | ((with_reducible refine gate_callee (f := 38) rfl ?_); refine goesL_ (some 55) rfl rfl Tryd.func38 (by kernel_rfl) rfl #[.pointer (some ⟨g, 0, none⟩), .int .i64 50] rfl argsA ?_; (with_reducible refine (spec_l6Rd_pick.calls kj12 g s0_0 t153 50 t156 t157 w0 _ ?side1 ?side2 A57.out).mono ?_); (case side1 => exact stA); (case side2 => exact belowA); rintro e w59 ⟨rfl, hi, hb, hk⟩; refine ⟨_, rfl, ?_⟩; have n0_ := Aside0.mk (KeepBut.blk hk (g' := gb128) (o := .cells #[.int .i64 0, .int .i64 0, .int .i64 0, .int .i64 0, .string (⟨#[]⟩ : ByteArray)] 24 (0, 0)) blkA NB128_0.out (by simp)); have n1_ := Aside0.mk (KeepBut.blk hk (g' := gb133) (o := .cells #[.int .i64 x134000_12, .int .i64 x134001_12, .int .i64 x134002_12, .int .i64 x134003_12, .string x134004_12] 24 (0, 0)) blkA NB133_0.out (by simp)); have n2_ := Aside0.mk (KeepBut.trans keepA hk (.inl rfl)); have n3_ := Aside0.mk (hb); have n4_ := Aside0.mk (hi); clear BK128; clear BK133; clear HK; clear HB; clear HI0; have BK128 := n0_; have BK133 := n1_; have HK := n2_; have HB := n3_; have HI0 := n4_; clear n0_ n1_ n2_ n3_ n4_; (try clear hb); (try clear hb2); (try clear hk); (try clear hi); have hnb60 := NB133_128.out; have hnc60 := NB128_133.out; have hnb61 := NB133_0.out; have hnc61 := NB0_133.out; obtain ⟨hcz62_0, hcz62_1, hcz62_2, hcz62_3, hcz62_4, hfz62_0, hfz62_1, hfz62_2, hfz62_3, hfz62_4⟩ := blk_facts5 BK133.out; have hnb63 := NB128_0.out; have hnc63 := NB0_128.out; obtain ⟨hcz64_0, hcz64_1, hcz64_2, hcz64_3, hcz64_4, hfz64_0, hfz64_1, hfz64_2, hfz64_3, hfz64_4⟩ := blk_facts5 BK128.out))
                  refine bodyPost_ret (results_cell_row rfl _ _ gb128 24 #[.int .i64 x134000_12, .int .i64 t156, .int .i64 x134002_12, .int .i64 x134003_12, .string x134004_12] (0, 0) _ rfl (blk_put (blk_put (blk_put (blk_put (blk_put (blkC #[.int .i64 0, .int .i64 0, .int .i64 0, .int .i64 0, .string (⟨#[]⟩ : ByteArray)]) 0 _ rfl) 1 _ rfl) 2 _ rfl) 3 _ rfl) 4 _ rfl) Tryd.underlying24 rfl (by kernel_rfl)) rfl ?_
                  exact ⟨endA, stA, belowA, keepA⟩
                · rw [if_neg c56] at H
                  have c56b0 : (t152 == 1) = false := beq_eq_false_iff_ne.mpr c56
                  have c56b1 : (t152 != 1) = true := bne_iff_ne.mpr c56
                  by_cases c65 : t152 = 2
                  · rw [if_pos c65] at H
                    have c65b0 : (t152 == 2) = true := beq_iff_eq.mpr c65
                    have c65b1 : (t152 != 2) = false := bne_eq_false_iff_eq.mpr c65
                    clear c65
                    replace H := Option.bind_eq_some_iff.mp H
                    obtain ⟨⟨t158, t159⟩, A660, H⟩ := H
                    (try dsimp only at H)
                    have A66 := Aside0.mk A660
                    clear A660
                    simp only [Option.some.injEq, Prod.mk.injEq] at H
                    obtain ⟨rfl, rfl, rfl, rfl, rfl, rfl⟩ := H
                    go_wp2_with (first | ((with_reducible refine gate_callee (f := 38) rfl ?_); refine goesL_ (some 46) rfl rfl Tryd.func38 (by kernel_rfl) rfl #[.pointer (some ⟨g, 0, none⟩), .int .i64 30] rfl argsA ?_; (with_reducible refine (spec_l6Rd_pick.calls kj12 g s0_0 t151 30 t152 t153 w0 _ ?side1 ?side2 A46.out).mono ?_); (case side1 => exact stA); (case side2 => exact belowA); rintro e w67 ⟨rfl, hi, hb, hk⟩; refine ⟨_, rfl, ?_⟩; have n0_ := Aside0.mk (KeepBut.blk hk (g' := gb128) (o := .cells #[.int .i64 0, .int .i64 0, .int .i64 0, .int .i64 0, .string (⟨#[]⟩ : ByteArray)] 24 (0, 0)) blkA NB128_0.out (by simp)); have n1_ := Aside0.mk (KeepBut.blk hk (g' := gb133) (o := .cells #[.int .i64 x134000_12, .int .i64 x134001_12, .int .i64 x134002_12, .int .i64 x134003_12, .string x134004_12] 24 (0, 0)) blkA NB133_0.out (by simp)); have n2_ := Aside0.mk (KeepBut.trans keepA hk (.inl rfl)); have n3_ := Aside0.mk (hb); have n4_ := Aside0.mk (hi); clear BK128; clear BK133; clear HK; clear HB; clear HI0; have BK128 := n0_; have BK133 := n1_; have HK := n2_; have HB := n3_; have HI0 := n4_; clear n0_ n1_ n2_ n3_ n4_; (try clear hb); (try clear hb2); (try clear hk); (try clear hi)) | ((with_reducible refine gate_callee (f := 38) rfl ?_); refine goesL_ (some 60) rfl rfl Tryd.func38 (by kernel_rfl) rfl #[.pointer (some ⟨g, 0, none⟩), .int .i64 50] rfl argsA ?_; (with_reducible refine (spec_l6Rd_pick.calls kj12 g s0_0 t153 50 t158 t159 w0 _ ?side1 ?side2 A66.out).mono ?_); (case side1 => exact stA); (case side2 => exact belowA); rintro e w68 ⟨rfl, hi, hb, hk⟩; refine ⟨_, rfl, ?_⟩; have n0_ := Aside0.mk (KeepBut.blk hk (g' := gb128) (o := .cells #[.int .i64 0, .int .i64 0, .int .i64 0, .int .i64 0, .string (⟨#[]⟩ : ByteArray)] 24 (0, 0)) blkA NB128_0.out (by simp)); have n1_ := Aside0.mk (KeepBut.blk hk (g' := gb133) (o := .cells #[.int .i64 x134000_12, .int .i64 x134001_12, .int .i64 x134002_12, .int .i64 x134003_12, .string x134004_12] 24 (0, 0)) blkA NB133_0.out (by simp)); have n2_ := Aside0.mk (KeepBut.trans keepA hk (.inl rfl)); have n3_ := Aside0.mk (hb); have n4_ := Aside0.mk (hi); clear BK128; clear BK133; clear HK; clear HB; clear HI0; have BK128 := n0_; have BK133 := n1_; have HK := n2_; have HB := n3_; have HI0 := n4_; clear n0_ n1_ n2_ n3_ n4_; (try clear hb); (try clear hb2); (try clear hk); (try clear hi); have hnb69 := NB133_128.out; have hnc69 := NB128_133.out; have hnb70 := NB133_0.out; have hnc70 := NB0_133.out; obtain ⟨hcz71_0, hcz71_1, hcz71_2, hcz71_3, hcz71_4, hfz71_0, hfz71_1, hfz71_2, hfz71_3, hfz71_4⟩ := blk_facts5 BK133.out; have hnb72 := NB128_0.out; have hnc72 := NB0_128.out; obtain ⟨hcz73_0, hcz73_1, hcz73_2, hcz73_3, hcz73_4, hfz73_0, hfz73_1, hfz73_2, hfz73_3, hfz73_4⟩ := blk_facts5 BK128.out))
                    refine bodyPost_ret (results_cell_row rfl _ _ gb128 24 #[.int .i64 x134000_12, .int .i64 x134001_12, .int .i64 t158, .int .i64 x134003_12, .string x134004_12] (0, 0) _ rfl (blk_put (blk_put (blk_put (blk_put (blk_put (blkC #[.int .i64 0, .int .i64 0, .int .i64 0, .int .i64 0, .string (⟨#[]⟩ : ByteArray)]) 0 _ rfl) 1 _ rfl) 2 _ rfl) 3 _ rfl) 4 _ rfl) Tryd.underlying24 rfl (by kernel_rfl)) rfl ?_
                    exact ⟨endA, stA, belowA, keepA⟩
                  · rw [if_neg c65] at H
                    have c65b0 : (t152 == 2) = false := beq_eq_false_iff_ne.mpr c65
                    have c65b1 : (t152 != 2) = true := bne_iff_ne.mpr c65
                    by_cases c74 : t152 = 3
                    · rw [if_pos c74] at H
                      have c74b0 : (t152 == 3) = true := beq_iff_eq.mpr c74
                      have c74b1 : (t152 != 3) = false := bne_eq_false_iff_eq.mpr c74
                      clear c74
                      replace H := Option.bind_eq_some_iff.mp H
                      obtain ⟨⟨t160, t161⟩, A750, H⟩ := H
                      (try dsimp only at H)
                      have A75 := Aside0.mk A750
                      clear A750
                      simp only [Option.some.injEq, Prod.mk.injEq] at H
                      obtain ⟨rfl, rfl, rfl, rfl, rfl, rfl⟩ := H
                      go_wp2_with (first | ((with_reducible refine gate_callee (f := 38) rfl ?_); refine goesL_ (some 46) rfl rfl Tryd.func38 (by kernel_rfl) rfl #[.pointer (some ⟨g, 0, none⟩), .int .i64 30] rfl argsA ?_; (with_reducible refine (spec_l6Rd_pick.calls kj12 g s0_0 t151 30 t152 t153 w0 _ ?side1 ?side2 A46.out).mono ?_); (case side1 => exact stA); (case side2 => exact belowA); rintro e w76 ⟨rfl, hi, hb, hk⟩; refine ⟨_, rfl, ?_⟩; have n0_ := Aside0.mk (KeepBut.blk hk (g' := gb128) (o := .cells #[.int .i64 0, .int .i64 0, .int .i64 0, .int .i64 0, .string (⟨#[]⟩ : ByteArray)] 24 (0, 0)) blkA NB128_0.out (by simp)); have n1_ := Aside0.mk (KeepBut.blk hk (g' := gb133) (o := .cells #[.int .i64 x134000_12, .int .i64 x134001_12, .int .i64 x134002_12, .int .i64 x134003_12, .string x134004_12] 24 (0, 0)) blkA NB133_0.out (by simp)); have n2_ := Aside0.mk (KeepBut.trans keepA hk (.inl rfl)); have n3_ := Aside0.mk (hb); have n4_ := Aside0.mk (hi); clear BK128; clear BK133; clear HK; clear HB; clear HI0; have BK128 := n0_; have BK133 := n1_; have HK := n2_; have HB := n3_; have HI0 := n4_; clear n0_ n1_ n2_ n3_ n4_; (try clear hb); (try clear hb2); (try clear hk); (try clear hi)) | ((with_reducible refine gate_callee (f := 38) rfl ?_); refine goesL_ (some 65) rfl rfl Tryd.func38 (by kernel_rfl) rfl #[.pointer (some ⟨g, 0, none⟩), .int .i64 50] rfl argsA ?_; (with_reducible refine (spec_l6Rd_pick.calls kj12 g s0_0 t153 50 t160 t161 w0 _ ?side1 ?side2 A75.out).mono ?_); (case side1 => exact stA); (case side2 => exact belowA); rintro e w77 ⟨rfl, hi, hb, hk⟩; refine ⟨_, rfl, ?_⟩; have n0_ := Aside0.mk (KeepBut.blk hk (g' := gb128) (o := .cells #[.int .i64 0, .int .i64 0, .int .i64 0, .int .i64 0, .string (⟨#[]⟩ : ByteArray)] 24 (0, 0)) blkA NB128_0.out (by simp)); have n1_ := Aside0.mk (KeepBut.blk hk (g' := gb133) (o := .cells #[.int .i64 x134000_12, .int .i64 x134001_12, .int .i64 x134002_12, .int .i64 x134003_12, .string x134004_12] 24 (0, 0)) blkA NB133_0.out (by simp)); have n2_ := Aside0.mk (KeepBut.trans keepA hk (.inl rfl)); have n3_ := Aside0.mk (hb); have n4_ := Aside0.mk (hi); clear BK128; clear BK133; clear HK; clear HB; clear HI0; have BK128 := n0_; have BK133 := n1_; have HK := n2_; have HB := n3_; have HI0 := n4_; clear n0_ n1_ n2_ n3_ n4_; (try clear hb); (try clear hb2); (try clear hk); (try clear hi); have hnb78 := NB133_128.out; have hnc78 := NB128_133.out; have hnb79 := NB133_0.out; have hnc79 := NB0_133.out; obtain ⟨hcz80_0, hcz80_1, hcz80_2, hcz80_3, hcz80_4, hfz80_0, hfz80_1, hfz80_2, hfz80_3, hfz80_4⟩ := blk_facts5 BK133.out; have hnb81 := NB128_0.out; have hnc81 := NB0_128.out; obtain ⟨hcz82_0, hcz82_1, hcz82_2, hcz82_3, hcz82_4, hfz82_0, hfz82_1, hfz82_2, hfz82_3, hfz82_4⟩ := blk_facts5 BK128.out))
                      refine bodyPost_ret (results_cell_row rfl _ _ gb128 24 #[.int .i64 x134000_12, .int .i64 x134001_12, .int .i64 x134002_12, .int .i64 t160, .string x134004_12] (0, 0) _ rfl (blk_put (blk_put (blk_put (blk_put (blk_put (blkC #[.int .i64 0, .int .i64 0, .int .i64 0, .int .i64 0, .string (⟨#[]⟩ : ByteArray)]) 0 _ rfl) 1 _ rfl) 2 _ rfl) 3 _ rfl) 4 _ rfl) Tryd.underlying24 rfl (by kernel_rfl)) rfl ?_
                      exact ⟨endA, stA, belowA, keepA⟩
                    · rw [if_neg c74] at H
                      have c74b0 : (t152 == 3) = false := beq_eq_false_iff_ne.mpr c74
                      have c74b1 : (t152 != 3) = true := bne_iff_ne.mpr c74
                      simp only [Option.some.injEq, Prod.mk.injEq] at H
                      obtain ⟨rfl, rfl, rfl, rfl, rfl, rfl⟩ := H
                      go_wp2_with (first | ((with_reducible refine gate_callee (f := 38) rfl ?_); refine goesL_ (some 46) rfl rfl Tryd.func38 (by kernel_rfl) rfl #[.pointer (some ⟨g, 0, none⟩), .int .i64 30] rfl argsA ?_; (with_reducible refine (spec_l6Rd_pick.calls kj12 g s0_0 t151 30 t152 t153 w0 _ ?side1 ?side2 A46.out).mono ?_); (case side1 => exact stA); (case side2 => exact belowA); rintro e w83 ⟨rfl, hi, hb, hk⟩; refine ⟨_, rfl, ?_⟩; have n0_ := Aside0.mk (KeepBut.blk hk (g' := gb128) (o := .cells #[.int .i64 0, .int .i64 0, .int .i64 0, .int .i64 0, .string (⟨#[]⟩ : ByteArray)] 24 (0, 0)) blkA NB128_0.out (by simp)); have n1_ := Aside0.mk (KeepBut.blk hk (g' := gb133) (o := .cells #[.int .i64 x134000_12, .int .i64 x134001_12, .int .i64 x134002_12, .int .i64 x134003_12, .string x134004_12] 24 (0, 0)) blkA NB133_0.out (by simp)); have n2_ := Aside0.mk (KeepBut.trans keepA hk (.inl rfl)); have n3_ := Aside0.mk (hb); have n4_ := Aside0.mk (hi); clear BK128; clear BK133; clear HK; clear HB; clear HI0; have BK128 := n0_; have BK133 := n1_; have HK := n2_; have HB := n3_; have HI0 := n4_; clear n0_ n1_ n2_ n3_ n4_; (try clear hb); (try clear hb2); (try clear hk); (try clear hi); have hnb84 := NB133_128.out; have hnc84 := NB128_133.out; have hnb85 := NB133_0.out; have hnc85 := NB0_133.out; obtain ⟨hcz86_0, hcz86_1, hcz86_2, hcz86_3, hcz86_4, hfz86_0, hfz86_1, hfz86_2, hfz86_3, hfz86_4⟩ := blk_facts5 BK133.out; have hnb87 := NB128_0.out; have hnc87 := NB0_128.out; obtain ⟨hcz88_0, hcz88_1, hcz88_2, hcz88_3, hcz88_4, hfz88_0, hfz88_1, hfz88_2, hfz88_3, hfz88_4⟩ := blk_facts5 BK128.out))
                      refine bodyPost_ret (results_cell_row rfl _ _ gb128 24 #[.int .i64 x134000_12, .int .i64 x134001_12, .int .i64 x134002_12, .int .i64 x134003_12, .string x134004_12] (0, 0) _ rfl (blk_put (blk_put (blk_put (blk_put (blk_put (blkC #[.int .i64 0, .int .i64 0, .int .i64 0, .int .i64 0, .string (⟨#[]⟩ : ByteArray)]) 0 _ rfl) 1 _ rfl) 2 _ rfl) 3 _ rfl) 4 _ rfl) Tryd.underlying24 rfl (by kernel_rfl)) rfl ?_
                      exact ⟨endA, stA, belowA, keepA⟩
        · rw [if_neg c11] at H
          exact absurd H (by simp)
      · rw [if_neg c10] at H
        exact absurd H (by simp)
    · rw [if_neg c7] at H
      exact absurd H (by simp)
  · rw [if_neg c6] at H
    exact absurd H (by simp)

/-! ### spec_DrawEntryOk: function 12 -/
mutual
def spec_DrawEntryOk.j0 : Nat → Bool → List Int → Int → Int → Int → Int → Int → Int → Int → ByteArray → Option (Int × Int × Int × Int × Int × Int × ByteArray)
  | 0, _, _, _, _, _, _, _, _, _, _ => none
  | k + 1, x24, x166000, x166001, x177000, x177001, x177002, x177003, x177004, x177005, x177006 => if x24 = true then (spec_DrawEntryOk.j1 k x166000 x166001 (wrap64 (Int.tdiv x177003 10)) x177001 x177002 x177003 x177004 x177005 x177006) else (spec_DrawEntryOk.j1 k x166000 x166001 x177000 x177001 x177002 x177003 x177004 x177005 x177006)
def spec_DrawEntryOk.j1 : Nat → List Int → Int → Int → Int → Int → Int → Int → Int → ByteArray → Option (Int × Int × Int × Int × Int × Int × ByteArray)
  | 0, _, _, _, _, _, _, _, _, _ => none
  | k + 1, x166000, x166001, x177000, x177001, x177002, x177003, x177004, x177005, x177006 => (spec_l6Rd_pick.f k x166000 x166001 12).bind fun bt179 => (if bt179.1 = 0 then ((spec_l6Rd_pick.f k x166000 bt179.2 6).bind fun bt181 => (some (wrap64 (bt181.1 - 1), x177001, x177002, x177003, x177004, x177005, x177006))) else (if bt179.1 = 1 then ((some (([0, 40, 41] : List Int) : List Int)).bind fun y183 => ((spec_l6Rd_pick.f k x166000 bt179.2 3).bind fun bt186 => (if 0 ≤ bt186.1 then (if bt186.1 < (y183.length : Int) then (some (x177000, rd y183 bt186.1, x177002, x177003, x177004, x177005, x177006)) else (none)) else (none)))) else (some (x177000, x177001, x177002, x177003, x177004, x177005, x177006))))
end
def spec_DrawEntryOk.f (k : Nat) (l0 : List Int) : Option (Int × Int × Int × Int × Int × Int × ByteArray) := (spec_l6Open.f l0).bind fun bt163 => ((spec_l6Rd_pick.f k bt163.1 bt163.2 3).bind fun bt166 => ((spec_l6Rd_pick.f k bt163.1 bt166.2 9).bind fun bt168 => ((spec_l71Op.f k bt163.1 bt168.2).bind fun bt170 => (if bt170.1 = 1 then ((spec_l6Rd_pick.f k bt163.1 bt170.2.2.2.2.2 4).bind fun bt177 => (spec_DrawEntryOk.j0 k (decide (bt177.1 > 0)) bt163.1 bt177.2 (wrap64 (1 + bt166.1)) (wrap64 (1 + bt168.1)) bt170.1 bt170.2.1 bt170.2.2.1 bt170.2.2.2.1 bt170.2.2.2.2.1)) else (spec_DrawEntryOk.j0 k false bt163.1 bt170.2.2.2.2.2 (wrap64 (1 + bt166.1)) (wrap64 (1 + bt168.1)) bt170.1 bt170.2.1 bt170.2.2.1 bt170.2.2.2.1 bt170.2.2.2.2.1)))))
theorem spec_DrawEntryOk.mono_l : ∀ k, (∀ y0 y1 y2 y3 y4 y5 y6 y7 y8 y9, LeO (spec_DrawEntryOk.j0 k y0 y1 y2 y3 y4 y5 y6 y7 y8 y9) (spec_DrawEntryOk.j0 (k + 1) y0 y1 y2 y3 y4 y5 y6 y7 y8 y9)) ∧ (∀ y0 y1 y2 y3 y4 y5 y6 y7 y8, LeO (spec_DrawEntryOk.j1 k y0 y1 y2 y3 y4 y5 y6 y7 y8) (spec_DrawEntryOk.j1 (k + 1) y0 y1 y2 y3 y4 y5 y6 y7 y8))
  | 0 => ⟨fun _ _ _ _ _ _ _ _ _ _ r h => by simp [spec_DrawEntryOk.j0] at h, fun _ _ _ _ _ _ _ _ _ r h => by simp [spec_DrawEntryOk.j1] at h⟩
  | k + 1 => by
    obtain ⟨ih0, ih1⟩ := spec_DrawEntryOk.mono_l k
    refine ⟨?_, ?_⟩
    · intro y0 y1 y2 y3 y4 y5 y6 y7 y8 y9
      unfold spec_DrawEntryOk.j0
      repeat' first
      | (with_reducible exact ih0 _ _ _ _ _ _ _ _ _ _)
      | (with_reducible exact ih1 _ _ _ _ _ _ _ _ _)
      | (with_reducible exact spec_l6Rd_pick.mono _ _ _ _)
      | (with_reducible exact spec_l71Op.mono _ _ _)
      | (with_reducible exact LeO.refl _)
      | (with_reducible exact LeO.none _)
      | (with_reducible refine LeO.ite ?_ ?_)
      | (with_reducible refine LeO.bind ?_ (fun _ => ?_))
      | exact ih0 _ _ _ _ _ _ _ _ _ _
      | exact ih1 _ _ _ _ _ _ _ _ _
      | exact spec_l6Rd_pick.mono _ _ _ _
      | exact spec_l71Op.mono _ _ _
      | exact LeO.none _
      | refine LeO.ite ?_ ?_
      | refine LeO.bind ?_ (fun _ => ?_)
    · intro y0 y1 y2 y3 y4 y5 y6 y7 y8
      unfold spec_DrawEntryOk.j1
      repeat' first
      | (with_reducible exact ih0 _ _ _ _ _ _ _ _ _ _)
      | (with_reducible exact ih1 _ _ _ _ _ _ _ _ _)
      | (with_reducible exact spec_l6Rd_pick.mono _ _ _ _)
      | (with_reducible exact spec_l71Op.mono _ _ _)
      | (with_reducible exact LeO.refl _)
      | (with_reducible exact LeO.none _)
      | (with_reducible refine LeO.ite ?_ ?_)
      | (with_reducible refine LeO.bind ?_ (fun _ => ?_))
      | exact ih0 _ _ _ _ _ _ _ _ _ _
      | exact ih1 _ _ _ _ _ _ _ _ _
      | exact spec_l6Rd_pick.mono _ _ _ _
      | exact spec_l71Op.mono _ _ _
      | exact LeO.none _
      | refine LeO.ite ?_ ?_
      | refine LeO.bind ?_ (fun _ => ?_)
theorem spec_DrawEntryOk.mono : ∀ a0 k, LeO (spec_DrawEntryOk.f k a0) (spec_DrawEntryOk.f (k + 1) a0) := by
  intro a0 k
  obtain ⟨ih0, ih1⟩ := spec_DrawEntryOk.mono_l k
  unfold spec_DrawEntryOk.f
  repeat' first
      | (with_reducible exact ih0 _ _ _ _ _ _ _ _ _ _)
      | (with_reducible exact ih1 _ _ _ _ _ _ _ _ _)
      | (with_reducible exact spec_l6Rd_pick.mono _ _ _ _)
      | (with_reducible exact spec_l71Op.mono _ _ _)
      | (with_reducible exact LeO.refl _)
      | (with_reducible exact LeO.none _)
      | (with_reducible refine LeO.ite ?_ ?_)
      | (with_reducible refine LeO.bind ?_ (fun _ => ?_))
      | exact ih0 _ _ _ _ _ _ _ _ _ _
      | exact ih1 _ _ _ _ _ _ _ _ _
      | exact spec_l6Rd_pick.mono _ _ _ _
      | exact spec_l71Op.mono _ _ _
      | exact LeO.none _
      | refine LeO.ite ?_ ?_
      | refine LeO.bind ?_ (fun _ => ?_)
set_option maxHeartbeats 8000000 in
set_option maxRecDepth 100000 in
theorem spec_DrawEntryOk.calls (k : Nat) (A0 : Option Addr) (c0 : Nat) (l0 : List Int) (r1 : Int) (r2 : Int) (r3 : Int) (r4 : Int) (r5 : Int) (r6 : Int) (r7 : ByteArray) (w : World) (hr0 : Kd.C (Kd.int .u8) w A0 l0.length l0) (hc0 : l0.length ≤ c0) (h : spec_DrawEntryOk.f k l0 = some (r1, r2, r3, r4, r5, r6, r7)) :
    Calls Tryd.prog 12 #[.slice A0 l0.length c0] w fun e w' => e = .returned (.agg #[.int .i64 r1, .int .i64 r2, .int .i64 r3, .int .i64 r4, .int .i64 r5, .int .i64 r6, .string r7]) ∧ Below w.heap.size w w' := by
  have hu26 := Tryd.underlying26
  have HR0 := Aside0.mk hr0
  have HC0 := Aside0.mk hc0
  clear hr0 hc0
  have HB := Aside0.mk (Below.refl w.heap.size w)
  have H : ((spec_l6Open.f l0).bind fun bt163 => ((spec_l6Rd_pick.f k bt163.1 bt163.2 3).bind fun bt166 => ((spec_l6Rd_pick.f k bt163.1 bt166.2 9).bind fun bt168 => ((spec_l71Op.f k bt163.1 bt168.2).bind fun bt170 => (if bt170.1 = 1 then ((spec_l6Rd_pick.f k bt163.1 bt170.2.2.2.2.2 4).bind fun bt177 => (spec_DrawEntryOk.j0 k (decide (bt177.1 > 0)) bt163.1 bt177.2 (wrap64 (1 + bt166.1)) (wrap64 (1 + bt168.1)) bt170.1 bt170.2.1 bt170.2.2.1 bt170.2.2.2.1 bt170.2.2.2.2.1)) else (spec_DrawEntryOk.j0 k false bt163.1 bt170.2.2.2.2.2 (wrap64 (1 + bt166.1)) (wrap64 (1 + bt168.1)) bt170.1 bt170.2.1 bt170.2.2.1 bt170.2.2.2.1 bt170.2.2.2.2.1)))))) = some (r1, r2, r3, r4, r5, r6, r7) := h
  clear h
  replace H := Option.bind_eq_some_iff.mp H
  obtain ⟨⟨t163, t164⟩, A20, H⟩ := H
  (try dsimp only at H)
  have A2 := Aside0.mk A20
  clear A20
  replace H := Option.bind_eq_some_iff.mp H
  obtain ⟨⟨t166, t167⟩, A30, H⟩ := H
  (try dsimp only at H)
  have A3 := Aside0.mk A30
  clear A30
  replace H := Option.bind_eq_some_iff.mp H
  obtain ⟨⟨t168, t169⟩, A40, H⟩ := H
  (try dsimp only at H)
  have A4 := Aside0.mk A40
  clear A40
  replace H := Option.bind_eq_some_iff.mp H
  obtain ⟨⟨t170, t171, t172, t173, t174, t175⟩, A50, H⟩ := H
  (try dsimp only at H)
  have A5 := Aside0.mk A50
  clear A50
  have HC6 := Aside0.mk H
  clear H
  go_enter Tryd.func12, Tryd.ntmps12
  go_upto_region 3 with (first | ((with_reducible refine gate_dst (N := 2) rfl ?_); refine box_event ?hg (N := 2) ?hd (cs := #[.int .i64 0, .int .i64 0, .int .i64 0, .int .i64 0, .int .i64 0, .int .i64 0, .string (⟨#[]⟩ : ByteArray)]) (t := 26) ?hr ?_; (case hd => rfl); (case hg => rfl); (case hr => first | (go_simp; done) | (go_simp; rfl)); intro gb162 hg w7 hbox hb; have n0_ := Aside0.mk (below_step belowA hb); have n1_ := Aside0.mk (hbox); have n2_ := Aside0.mk ((by rw [hg]; exact (below_size belowA) : w.heap.size ≤ gb162)); have n3_ := Aside0.mk ((by rw [hg]; exact (below_size belowA) : w.heap.size ≤ gb162)); clear HB; have HB := n0_; have BK162 := n1_; have GW162 := n2_; have GE162 := n3_; clear n0_ n1_ n2_ n3_; clear hb hbox hg) | ((with_reducible refine gate_callee (f := 37) rfl ?_); refine goesL_ (some 6) rfl rfl Tryd.func37 (by kernel_rfl) rfl #[.slice A0 l0.length c0] rfl argsA ?_; (with_reducible refine (spec_l6Open.calls _ _ l0 t163 t164 w _ ?side1 ?side2 ?side3 A2.out).mono ?_); (case side1 => exact belowA); (case side2 => exact HR0.out); (case side3 => exact HC0.out); rintro e w8 ⟨g165, rfl, hi, hb, hb2⟩; refine ⟨_, rfl, ?_⟩; have n0_ := Aside0.mk (blk_below (g := gb162) (o := .cells #[.int .i64 0, .int .i64 0, .int .i64 0, .int .i64 0, .int .i64 0, .int .i64 0, .string (⟨#[]⟩ : ByteArray)] 26 (0, 0)) blkA hb2); have n1_ := Aside0.mk (hb); have n2_ := Aside0.mk (hi); have n3_ := Aside0.mk (IsS80.ne_blk hi (blk_below (g := gb162) (o := .cells #[.int .i64 0, .int .i64 0, .int .i64 0, .int .i64 0, .int .i64 0, .int .i64 0, .string (⟨#[]⟩ : ByteArray)] 26 (0, 0)) blkA hb2) (by decide)); have n4_ := Aside0.mk (Ne.symm (IsS80.ne_blk hi (blk_below (g := gb162) (o := .cells #[.int .i64 0, .int .i64 0, .int .i64 0, .int .i64 0, .int .i64 0, .int .i64 0, .string (⟨#[]⟩ : ByteArray)] 26 (0, 0)) blkA hb2) (by decide))); clear BK162; clear HB; have BK162 := n0_; have HB := n1_; have HI165 := n2_; have NB165_162 := n3_; have NB162_165 := n4_; clear n0_ n1_ n2_ n3_ n4_; (try clear hb); (try clear hb2); (try clear hk); (try clear hi)) | ((with_reducible refine gate_callee (f := 38) rfl ?_); refine goesL_ (some 8) rfl rfl Tryd.func38 (by kernel_rfl) rfl #[.pointer (some ⟨g165, 0, none⟩), .int .i64 3] rfl argsA ?_; (with_reducible refine (spec_l6Rd_pick.calls k g165 t163 t164 3 t166 t167 w _ ?side1 ?side2 A3.out).mono ?_); (case side1 => exact stA); (case side2 => exact belowA); rintro e w9 ⟨rfl, hi, hb, hk⟩; refine ⟨_, rfl, ?_⟩; have n0_ := Aside0.mk (KeepBut.blk hk (g' := gb162) (o := .cells #[.int .i64 0, .int .i64 0, .int .i64 0, .int .i64 0, .int .i64 0, .int .i64 0, .string (⟨#[]⟩ : ByteArray)] 26 (0, 0)) blkA NB162_165.out (by simp)); have n1_ := Aside0.mk (hb); have n2_ := Aside0.mk (hi); clear BK162; clear HB; clear HI165; have BK162 := n0_; have HB := n1_; have HI165 := n2_; clear n0_ n1_ n2_; (try clear hb); (try clear hb2); (try clear hk); (try clear hi)) | ((with_reducible refine gate_callee (f := 38) rfl ?_); refine goesL_ (some 11) rfl rfl Tryd.func38 (by kernel_rfl) rfl #[.pointer (some ⟨g165, 0, none⟩), .int .i64 9] rfl argsA ?_; (with_reducible refine (spec_l6Rd_pick.calls k g165 t163 t167 9 t168 t169 w _ ?side1 ?side2 A4.out).mono ?_); (case side1 => exact stA); (case side2 => exact belowA); rintro e w10 ⟨rfl, hi, hb, hk⟩; refine ⟨_, rfl, ?_⟩; have n0_ := Aside0.mk (KeepBut.blk hk (g' := gb162) (o := .cells #[.int .i64 0, .int .i64 0, .int .i64 0, .int .i64 0, .int .i64 0, .int .i64 0, .string (⟨#[]⟩ : ByteArray)] 26 (0, 0)) blkA NB162_165.out (by simp)); have n1_ := Aside0.mk (hb); have n2_ := Aside0.mk (hi); clear BK162; clear HB; clear HI165; have BK162 := n0_; have HB := n1_; have HI165 := n2_; clear n0_ n1_ n2_; (try clear hb); (try clear hb2); (try clear hk); (try clear hi)) | ((with_reducible refine gate_callee (f := 39) rfl ?_); refine goesL_ (some 14) rfl rfl Tryd.func39 (by kernel_rfl) rfl #[.pointer (some ⟨g165, 0, none⟩)] rfl argsA ?_; (with_reducible refine (spec_l71Op.calls k g165 t163 t169 t170 t171 t172 t173 t174 t175 w _ ?side1 ?side2 A5.out).mono ?_); (case side1 => exact stA); (case side2 => exact belowA); rintro e w11 ⟨rfl, hi, hb, hk⟩; refine ⟨_, rfl, ?_⟩; have n0_ := Aside0.mk (KeepBut.blk hk (g' := gb162) (o := .cells #[.int .i64 0, .int .i64 0, .int .i64 0, .int .i64 0, .int .i64 0, .int .i64 0, .string (⟨#[]⟩ : ByteArray)] 26 (0, 0)) blkA NB162_165.out (by simp)); have n1_ := Aside0.mk (hb); have n2_ := Aside0.mk (hi); clear BK162; clear HB; clear HI165; have BK162 := n0_; have HB := n1_; have HI165 := n2_; clear n0_ n1_ n2_; (try clear hb); (try clear hb2); (try clear hk); (try clear hi)) | ((with_reducible refine gate_dst (N := 4) rfl ?_); refine box_event ?hg (N := 4) ?hd (cs := #[.int .i64 0, .int .i64 0, .int .i64 0, .int .i64 0, .int .i64 0, .int .i64 0, .string (⟨#[]⟩ : ByteArray)]) (t := 26) ?hr ?_; (case hd => rfl); (case hg => rfl); (case hr => first | (go_simp; done) | (go_simp; rfl)); intro gb176 hg w12 hbox hb; have n0_ := Aside0.mk (blk_below (g := gb162) (o := .cells #[.int .i64 0, .int .i64 0, .int .i64 0, .int .i64 0, .int .i64 0, .int .i64 0, .string (⟨#[]⟩ : ByteArray)] 26 (0, 0)) blkA hb); have n1_ := Aside0.mk (IsS80.below stA hb); have n2_ := Aside0.mk (below_step belowA hb); have n3_ := Aside0.mk (hbox); have n4_ := Aside0.mk ((by rw [hg]; exact (below_size belowA) : w.heap.size ≤ gb176)); have n5_ := Aside0.mk ((by rw [hg]; exact (below_size belowA) : w.heap.size ≤ gb176)); have n6_ := Aside0.mk ((by rw [hg]; exact Nat.ne_of_lt (blk_lt (g := gb162) (o := .cells #[.int .i64 0, .int .i64 0, .int .i64 0, .int .i64 0, .int .i64 0, .int .i64 0, .string (⟨#[]⟩ : ByteArray)] 26 (0, 0)) blkA) : gb162 ≠ gb176)); have n7_ := Aside0.mk ((by rw [hg]; exact Nat.ne_of_gt (blk_lt (g := gb162) (o := .cells #[.int .i64 0, .int .i64 0, .int .i64 0, .int .i64 0, .int .i64 0, .int .i64 0, .string (⟨#[]⟩ : ByteArray)] 26 (0, 0)) blkA) : gb176 ≠ gb162)); have n8_ := Aside0.mk ((by rw [hg]; exact Nat.ne_of_lt (IsS80.lt (show IsS80 w _ g165 t163 t175 from stA)) : g165 ≠ gb176)); have n9_ := Aside0.mk ((by rw [hg]; exact Nat.ne_of_gt (IsS80.lt (show IsS80 w _ g165 t163 t175 from stA)) : gb176 ≠ g165)); clear BK162; clear HI165; clear HB; have BK162 := n0_; have HI165 := n1_; have HB := n2_; have BK176 := n3_; have GW176 := n4_; have GE176 := n5_; have NB162_176 := n6_; have NB176_162 := n7_; have NB165_176 := n8_; have NB176_165 := n9_; clear n0_ n1_ n2_ n3_ n4_ n5_ n6_ n7_ n8_ n9_; clear hb hbox hg; have hnb13 := NB176_162.out; have hnc13 := NB162_176.out; have hnb14 := NB176_165.out; have hnc14 := NB165_176.out; obtain ⟨hcz15_0, hcz15_1, hcz15_2, hcz15_3, hcz15_4, hcz15_5, hcz15_6, hfz15_0, hfz15_1, hfz15_2, hfz15_3, hfz15_4, hfz15_5, hfz15_6⟩ := blk_facts7 BK176.out))
  (try simp only [Act.put, List.setIfInBounds_toArray, List.set_cons_zero, List.set_cons_succ])
  go_cut [24] (fun v24 wc => ∃ (kq : Nat) (x24_5 : Bool) (x166001_5 : Int), v24 = .bool x24_5 ∧ Aside0 (spec_DrawEntryOk.j0 kq x24_5 t163 x166001_5 (wrap64 (1 + t166)) (wrap64 (1 + t168)) t170 t171 t172 t173 t174 = some (r1, r2, r3, r4, r5, r6, r7)) ∧ Aside0 (kq ≤ k) ∧ Aside0 (wc.heap[gb162]? = some (.cells #[.int .i64 0, .int .i64 0, .int .i64 0, .int .i64 0, .int .i64 0, .int .i64 0, .string (⟨#[]⟩ : ByteArray)] 26 (0, 0))) ∧ Aside0 (wc.heap[gb176]? = some (.cells #[.int .i64 (wrap64 (1 + t166)), .int .i64 (wrap64 (1 + t168)), .int .i64 t170, .int .i64 t171, .int .i64 t172, .int .i64 t173, .string t174] 26 (0, 0))) ∧ Aside0 (IsS80 w wc g165 t163 x166001_5) ∧ Aside0 (Below w.heap.size w wc))
  case first =>
    have H := HC6.out
    clear HC6
    by_cases c16 : t170 = 1
    · rw [if_pos c16] at H
      have c16b0 : (t170 == 1) = true := beq_iff_eq.mpr c16
      have c16b1 : (t170 != 1) = false := bne_eq_false_iff_eq.mpr c16
      clear c16
      (first | rw [c16b0] | (simp only [i64_w, i32_w]; rw [c16b0]) | skip)
      replace H := Option.bind_eq_some_iff.mp H
      obtain ⟨⟨t177, t178⟩, A170, H⟩ := H
      (try dsimp only at H)
      have A17 := Aside0.mk A170
      clear A170
      have H' := Aside0.mk H
      clear H
      have hnb18 := NB176_162.out
      have hnc18 := NB162_176.out
      have hnb19 := NB176_165.out
      have hnc19 := NB165_176.out
      obtain ⟨hcz20_0, hcz20_1, hcz20_2, hcz20_3, hcz20_4, hcz20_5, hcz20_6, hfz20_0, hfz20_1, hfz20_2, hfz20_3, hfz20_4, hfz20_5, hfz20_6⟩ := blk_facts7 BK176.out
      go_wp2_with (first | (go_at_call 38; (with_reducible refine (spec_l6Rd_pick.calls k g165 t163 t175 4 t177 t178 w _ ?side1 ?side2 A17.out).mono ?_); (case side1 => exact stA); (case side2 => exact belowA); rintro e w21 ⟨rfl, hi, hb, hk⟩; have n0_ := Aside0.mk (KeepBut.blk hk (g' := gb162) (o := .cells #[.int .i64 0, .int .i64 0, .int .i64 0, .int .i64 0, .int .i64 0, .int .i64 0, .string (⟨#[]⟩ : ByteArray)] 26 (0, 0)) blkA NB162_165.out (by simp)); have n1_ := Aside0.mk (KeepBut.blk hk (g' := gb176) (o := .cells #[.int .i64 (wrap64 (1 + t166)), .int .i64 (wrap64 (1 + t168)), .int .i64 t170, .int .i64 t171, .int .i64 t172, .int .i64 t173, .string t174] 26 (0, 0)) (put7 (blkC #[.int .i64 0, .int .i64 0, .int .i64 0, .int .i64 0, .int .i64 0, .int .i64 0, .string (⟨#[]⟩ : ByteArray)])) NB176_165.out (by simp)); have n2_ := Aside0.mk (hb); have n3_ := Aside0.mk (hi); clear BK162; clear BK176; clear HB; clear HI165; have BK162 := n0_; have BK176 := n1_; have HB := n2_; have HI165 := n3_; clear n0_ n1_ n2_ n3_; (try clear hb); (try clear hb2); (try clear hk); (try clear hi)))
      go_meet
      case rel => exact ⟨_, (decide (t177 > 0)), (t178), (by first | rfl | (simp; done) | (simp [*]; done)), H', ⟨by first | omega | exact Nat.le_refl _⟩, ⟨by (with_reducible repeat (first | refine blk_drewN ?_ _ | refine blk_drew ?_ | refine blk_alloc ?_ _)); exact BK162.out⟩, ⟨by (with_reducible repeat (first | refine blk_drewN ?_ _ | refine blk_drew ?_ | refine blk_alloc ?_ _)); exact BK176.out⟩, ⟨stA⟩, ⟨belowA⟩⟩
    · rw [if_neg c16] at H
      have c16b0 : (t170 == 1) = false := beq_eq_false_iff_ne.mpr c16
      have c16b1 : (t170 != 1) = true := bne_iff_ne.mpr c16
      (first | rw [c16b0] | (simp only [i64_w, i32_w]; rw [c16b0]) | skip)
      have H' := Aside0.mk H
      clear H
      have hnb22 := NB176_162.out
      have hnc22 := NB162_176.out
      have hnb23 := NB176_165.out
      have hnc23 := NB165_176.out
      obtain ⟨hcz24_0, hcz24_1, hcz24_2, hcz24_3, hcz24_4, hcz24_5, hcz24_6, hfz24_0, hfz24_1, hfz24_2, hfz24_3, hfz24_4, hfz24_5, hfz24_6⟩ := blk_facts7 BK176.out
      go_wp2
      go_meet
      case rel => exact ⟨_, (false), (t175), (by first | rfl | (simp; done) | (simp [*]; done)), H', ⟨by first | omega | exact Nat.le_refl _⟩, ⟨by (with_reducible repeat (first | refine blk_drewN ?_ _ | refine blk_drew ?_ | refine blk_alloc ?_ _)); refine blk_far ?_ NB162_176.out _; (with_reducible repeat (first | refine blk_drewN ?_ _ | refine blk_drew ?_ | refine blk_alloc ?_ _)); refine blk_far ?_ NB162_176.out _; (with_reducible repeat (first | refine blk_drewN ?_ _ | refine blk_drew ?_ | refine blk_alloc ?_ _)); refine blk_far ?_ NB162_176.out _; (with_reducible repeat (first | refine blk_drewN ?_ _ | refine blk_drew ?_ | refine blk_alloc ?_ _)); refine blk_far ?_ NB162_176.out _; (with_reducible repeat (first | refine blk_drewN ?_ _ | refine blk_drew ?_ | refine blk_alloc ?_ _)); refine blk_far ?_ NB162_176.out _; (with_reducible repeat (first | refine blk_drewN ?_ _ | refine blk_drew ?_ | refine blk_alloc ?_ _)); refine blk_far ?_ NB162_176.out _; (with_reducible repeat (first | refine blk_drewN ?_ _ | refine blk_drew ?_ | refine blk_alloc ?_ _)); refine blk_far ?_ NB162_176.out _; (with_reducible repeat (first | refine blk_drewN ?_ _ | refine blk_drew ?_ | refine blk_alloc ?_ _)); exact BK162.out⟩, ⟨by (with_reducible repeat (first | refine blk_drewN ?_ _ | refine blk_drew ?_ | refine blk_alloc ?_ _)); refine blk_put (cs := #[.int .i64 (wrap64 (1 + t166)), .int .i64 (wrap64 (1 + t168)), .int .i64 t170, .int .i64 t171, .int .i64 t172, .int .i64 t173, .string (⟨#[]⟩ : ByteArray)]) ?_ 6 _ rfl; (with_reducible repeat (first | refine blk_drewN ?_ _ | refine blk_drew ?_ | refine blk_alloc ?_ _)); refine blk_put (cs := #[.int .i64 (wrap64 (1 + t166)), .int .i64 (wrap64 (1 + t168)), .int .i64 t170, .int .i64 t171, .int .i64 t172, .int .i64 0, .string (⟨#[]⟩ : ByteArray)]) ?_ 5 _ rfl; (with_reducible repeat (first | refine blk_drewN ?_ _ | refine blk_drew ?_ | refine blk_alloc ?_ _)); refine blk_put (cs := #[.int .i64 (wrap64 (1 + t166)), .int .i64 (wrap64 (1 + t168)), .int .i64 t170, .int .i64 t171, .int .i64 0, .int .i64 0, .string (⟨#[]⟩ : ByteArray)]) ?_ 4 _ rfl; (with_reducible repeat (first | refine blk_drewN ?_ _ | refine blk_drew ?_ | refine blk_alloc ?_ _)); refine blk_put (cs := #[.int .i64 (wrap64 (1 + t166)), .int .i64 (wrap64 (1 + t168)), .int .i64 t170, .int .i64 0, .int .i64 0, .int .i64 0, .string (⟨#[]⟩ : ByteArray)]) ?_ 3 _ rfl; (with_reducible repeat (first | refine blk_drewN ?_ _ | refine blk_drew ?_ | refine blk_alloc ?_ _)); refine blk_put (cs := #[.int .i64 (wrap64 (1 + t166)), .int .i64 (wrap64 (1 + t168)), .int .i64 0, .int .i64 0, .int .i64 0, .int .i64 0, .string (⟨#[]⟩ : ByteArray)]) ?_ 2 _ rfl; (with_reducible repeat (first | refine blk_drewN ?_ _ | refine blk_drew ?_ | refine blk_alloc ?_ _)); refine blk_put (cs := #[.int .i64 (wrap64 (1 + t166)), .int .i64 0, .int .i64 0, .int .i64 0, .int .i64 0, .int .i64 0, .string (⟨#[]⟩ : ByteArray)]) ?_ 1 _ rfl; (with_reducible repeat (first | refine blk_drewN ?_ _ | refine blk_drew ?_ | refine blk_alloc ?_ _)); refine blk_put (cs := #[.int .i64 0, .int .i64 0, .int .i64 0, .int .i64 0, .int .i64 0, .int .i64 0, .string (⟨#[]⟩ : ByteArray)]) ?_ 0 _ rfl; (with_reducible repeat (first | refine blk_drewN ?_ _ | refine blk_drew ?_ | refine blk_alloc ?_ _)); exact BK176.out⟩, ⟨stA⟩, ⟨belowA⟩⟩
  case rest =>
    clear HC6
    try clear c1
    try clear c2
    try clear p2
    try clear c3
    try clear p6
    try clear c12
    try clear c13
    try clear c14
    try clear c16
    try clear c16b0
    try clear c16b1
    try clear c18
    try clear c19
    try clear c22
    try clear c23
    try clear hcz15_0 hcz15_1 hcz15_2 hcz15_3 hcz15_4 hcz15_5 hcz15_6
    try clear hcz20_0 hcz20_1 hcz20_2 hcz20_3 hcz20_4 hcz20_5 hcz20_6
    try clear hcz24_0 hcz24_1 hcz24_2 hcz24_3 hcz24_4 hcz24_5 hcz24_6
    try clear hfz15_0 hfz15_1 hfz15_2 hfz15_3 hfz15_4 hfz15_5 hfz15_6
    try clear hfz20_0 hfz20_1 hfz20_2 hfz20_3 hfz20_4 hfz20_5 hfz20_6
    try clear hfz24_0 hfz24_1 hfz24_2 hfz24_3 hfz24_4 hfz24_5 hfz24_6
    obtain ⟨kq, x24_5, x166001_5, rfl, HA, HJ5, BK162, BK176, HI165, HB⟩ := hcut
    cases kq with
    | zero => exact absurd HA.out (by simp [spec_DrawEntryOk.j0])
    | succ kj5 =>
      have H := HA.out
      clear HA
      simp only [spec_DrawEntryOk.j0] at H
      have HC25 := Aside0.mk H
      clear H
      go_upto_if 24 with (fail)
      go_cut [] (fun wc => ∃ (kq : Nat) (x177000_24 : Int), Aside0 (spec_DrawEntryOk.j1 kq t163 x166001_5 x177000_24 (wrap64 (1 + t168)) t170 t171 t172 t173 t174 = some (r1, r2, r3, r4, r5, r6, r7)) ∧ Aside0 (kq ≤ kj5) ∧ Aside0 (wc.heap[gb162]? = some (.cells #[.int .i64 0, .int .i64 0, .int .i64 0, .int .i64 0, .int .i64 0, .int .i64 0, .string (⟨#[]⟩ : ByteArray)] 26 (0, 0))) ∧ Aside0 (wc.heap[gb176]? = some (.cells #[.int .i64 x177000_24, .int .i64 (wrap64 (1 + t168)), .int .i64 t170, .int .i64 t171, .int .i64 t172, .int .i64 t173, .string t174] 26 (0, 0))) ∧ Aside0 (IsS80 w wc g165 t163 x166001_5) ∧ Aside0 (Below w.heap.size w wc))
      case first =>
        have H := HC25.out
        clear HC25
        by_cases c26 : x24_5 = true
        · subst c26
          have H1 : (spec_DrawEntryOk.j1 kj5 t163 x166001_5 (wrap64 (Int.tdiv t171 10)) (wrap64 (1 + t168)) t170 t171 t172 t173 t174) = some (r1, r2, r3, r4, r5, r6, r7) := by rw [if_pos rfl] at H; exact H
          clear H
          have H := H1
          clear H1
          have H' := Aside0.mk H
          clear H
          have hnb27 := NB176_162.out
          have hnc27 := NB162_176.out
          have hnb28 := NB176_165.out
          have hnc28 := NB165_176.out
          obtain ⟨hcz29_0, hcz29_1, hcz29_2, hcz29_3, hcz29_4, hcz29_5, hcz29_6, hfz29_0, hfz29_1, hfz29_2, hfz29_3, hfz29_4, hfz29_5, hfz29_6⟩ := blk_facts7 BK176.out
          go_wp2
          go_meet
          case rel => exact ⟨_, (wrap64 (Int.tdiv t171 10)), H', ⟨by have := HJ5.out; first | omega | exact Nat.le_refl _⟩, ⟨by (with_reducible repeat (first | refine blk_drewN ?_ _ | refine blk_drew ?_ | refine blk_alloc ?_ _)); refine blk_far ?_ NB162_176.out _; (with_reducible repeat (first | refine blk_drewN ?_ _ | refine blk_drew ?_ | refine blk_alloc ?_ _)); exact BK162.out⟩, ⟨by (with_reducible repeat (first | refine blk_drewN ?_ _ | refine blk_drew ?_ | refine blk_alloc ?_ _)); refine blk_put (cs := #[.int .i64 (wrap64 (1 + t166)), .int .i64 (wrap64 (1 + t168)), .int .i64 t170, .int .i64 t171, .int .i64 t172, .int .i64 t173, .string t174]) ?_ 0 _ rfl; (with_reducible repeat (first | refine blk_drewN ?_ _ | refine blk_drew ?_ | refine blk_alloc ?_ _)); exact BK176.out⟩, ⟨stA⟩, ⟨belowA⟩⟩
        · replace c26 := Bool.eq_false_iff.mpr c26
          subst c26
          have H1 : (spec_DrawEntryOk.j1 kj5 t163 x166001_5 (wrap64 (1 + t166)) (wrap64 (1 + t168)) t170 t171 t172 t173 t174) = some (r1, r2, r3, r4, r5, r6, r7) := by rw [if_neg (show ¬ (false = true) by decide)] at H; exact H
          clear H
          have H := H1
          clear H1
          have H' := Aside0.mk H
          clear H
          go_wp2
          go_meet
          case rel => exact ⟨_, ((wrap64 (1 + t166))), H', ⟨by have := HJ5.out; first | omega | exact Nat.le_refl _⟩, ⟨by (with_reducible repeat (first | refine blk_drewN ?_ _ | refine blk_drew ?_ | refine blk_alloc ?_ _)); exact BK162.out⟩, ⟨by (with_reducible repeat (first | refine blk_drewN ?_ _ | refine blk_drew ?_ | refine blk_alloc ?_ _)); exact BK176.out⟩, ⟨stA⟩, ⟨belowA⟩⟩
      case rest =>
        clear HC25
        try clear c1
        try clear c2
        try clear p2
        try clear c3
        try clear p6
        try clear c12
        try clear c13
        try clear c14
        try clear c16
        try clear c16b0
        try clear c16b1
        try clear c18
        try clear c19
        try clear c22
        try clear c23
        try clear c26
        try clear c27
        try clear c28
        try clear hcz15_0 hcz15_1 hcz15_2 hcz15_3 hcz15_4 hcz15_5 hcz15_6
        try clear hcz20_0 hcz20_1 hcz20_2 hcz20_3 hcz20_4 hcz20_5 hcz20_6
        try clear hcz24_0 hcz24_1 hcz24_2 hcz24_3 hcz24_4 hcz24_5 hcz24_6
        try clear hcz29_0 hcz29_1 hcz29_2 hcz29_3 hcz29_4 hcz29_5 hcz29_6
        try clear hfz15_0 hfz15_1 hfz15_2 hfz15_3 hfz15_4 hfz15_5 hfz15_6
        try clear hfz20_0 hfz20_1 hfz20_2 hfz20_3 hfz20_4 hfz20_5 hfz20_6
        try clear hfz24_0 hfz24_1 hfz24_2 hfz24_3 hfz24_4 hfz24_5 hfz24_6
        try clear hfz29_0 hfz29_1 hfz29_2 hfz29_3 hfz29_4 hfz29_5 hfz29_6
        try clear p2
        try clear p6
        obtain ⟨kq, x177000_24, HA, HJ24, BK162, BK176, HI165, HB⟩ := hcut
        cases kq with
        | zero => exact absurd HA.out (by simp [spec_DrawEntryOk.j1])
        | succ kj24 =>
          have H := HA.out
          clear HA
          simp only [spec_DrawEntryOk.j1] at H
          replace H := Option.bind_eq_some_iff.mp H
          obtain ⟨⟨t179, t180⟩, A300, H⟩ := H
          (try dsimp only at H)
          have A30 := Aside0.mk A300
          clear A300
          by_cases c31 : t179 = 0
          · rw [if_pos c31] at H
            have c31b0 : (t179 == 0) = true := beq_iff_eq.mpr c31
            have c31b1 : (t179 != 0) = false := bne_eq_false_iff_eq.mpr c31
            clear c31
            replace H := Option.bind_eq_some_iff.mp H
            obtain ⟨⟨t181, t182⟩, A320, H⟩ := H
            (try dsimp only at H)
            have A32 := Aside0.mk A320
            clear A320
            simp only [Option.some.injEq, Prod.mk.injEq] at H
            obtain ⟨rfl, rfl, rfl, rfl, rfl, rfl, rfl⟩ := H
            go_wp2_with (first | ((with_reducible refine gate_callee (f := 38) rfl ?_); refine goesL_ (some 31) rfl rfl Tryd.func38 (by kernel_rfl) rfl #[.pointer (some ⟨g165, 0, none⟩), .int .i64 12] rfl argsA ?_; (with_reducible refine (spec_l6Rd_pick.calls kj24 g165 t163 x166001_5 12 t179 t180 w _ ?side1 ?side2 A30.out).mono ?_); (case side1 => exact stA); (case side2 => exact belowA); rintro e w33 ⟨rfl, hi, hb, hk⟩; refine ⟨_, rfl, ?_⟩; have n0_ := Aside0.mk (KeepBut.blk hk (g' := gb162) (o := .cells #[.int .i64 0, .int .i64 0, .int .i64 0, .int .i64 0, .int .i64 0, .int .i64 0, .string (⟨#[]⟩ : ByteArray)] 26 (0, 0)) blkA NB162_165.out (by simp)); have n1_ := Aside0.mk (KeepBut.blk hk (g' := gb176) (o := .cells #[.int .i64 x177000_24, .int .i64 (wrap64 (1 + t168)), .int .i64 t170, .int .i64 t171, .int .i64 t172, .int .i64 t173, .string t174] 26 (0, 0)) blkA NB176_165.out (by simp)); have n2_ := Aside0.mk (hb); have n3_ := Aside0.mk (hi); clear BK162; clear BK176; clear HB; clear HI165; have BK162 := n0_; have BK176 := n1_; have HB := n2_; have HI165 := n3_; clear n0_ n1_ n2_ n3_; (try clear hb); (try clear hb2); (try clear hk); (try clear hi)) | ((with_reducible refine gate_callee (f := 38) rfl ?_); refine goesL_ (some 35) rfl rfl Tryd.func38 (by kernel_rfl) rfl #[.pointer (some ⟨g165, 0, none⟩), .int .i64 6] rfl argsA ?_; (with_reducible refine (spec_l6Rd_pick.calls kj24 g165 t163 t180 6 t181 t182 w _ ?side1 ?side2 A32.out).mono ?_); (case side1 => exact stA); (case side2 => exact belowA); rintro e w34 ⟨rfl, hi, hb, hk⟩; refine ⟨_, rfl, ?_⟩; have n0_ := Aside0.mk (KeepBut.blk hk (g' := gb162) (o := .cells #[.int .i64 0, .int .i64 0, .int .i64 0, .int .i64 0, .int .i64 0, .int .i64 0, .string (⟨#[]⟩ : ByteArray)] 26 (0, 0)) blkA NB162_165.out (by simp)); have n1_ := Aside0.mk (KeepBut.blk hk (g' := gb176) (o := .cells #[.int .i64 x177000_24, .int .i64 (wrap64 (1 + t168)), .int .i64 t170, .int .i64 t171, .int .i64 t172, .int .i64 t173, .string t174] 26 (0, 0)) blkA NB176_165.out (by simp)); have n2_ := Aside0.mk (hb); have n3_ := Aside0.mk (hi); clear BK162; clear BK176; clear HB; clear HI165; have BK162 := n0_; have BK176 := n1_; have HB := n2_; have HI165 := n3_; clear n0_ n1_ n2_ n3_; (try clear hb); (try clear hb2); (try clear hk); (try clear hi); have hnb35 := NB176_162.out; have hnc35 := NB162_176.out; have hnb36 := NB176_165.out; have hnc36 := NB165_176.out; obtain ⟨hcz37_0, hcz37_1, hcz37_2, hcz37_3, hcz37_4, hcz37_5, hcz37_6, hfz37_0, hfz37_1, hfz37_2, hfz37_3, hfz37_4, hfz37_5, hfz37_6⟩ := blk_facts7 BK176.out; have hnb38 := NB162_165.out; have hnc38 := NB165_162.out; obtain ⟨hcz39_0, hcz39_1, hcz39_2, hcz39_3, hcz39_4, hcz39_5, hcz39_6, hfz39_0, hfz39_1, hfz39_2, hfz39_3, hfz39_4, hfz39_5, hfz39_6⟩ := blk_facts7 BK162.out))
            refine bodyPost_ret (results_cell_row rfl _ _ gb162 26 #[.int .i64 (wrap64 (t181 - 1)), .int .i64 (wrap64 (1 + t168)), .int .i64 t170, .int .i64 t171, .int .i64 t172, .int .i64 t173, .string t174] (0, 0) _ rfl (put7 (blkC #[.int .i64 0, .int .i64 0, .int .i64 0, .int .i64 0, .int .i64 0, .int .i64 0, .string (⟨#[]⟩ : ByteArray)])) Tryd.underlying26 rfl (by kernel_rfl)) rfl ?_
            exact ⟨endA, belowA⟩
          · rw [if_neg c31] at H
            have c31b0 : (t179 == 0) = false := beq_eq_false_iff_ne.mpr c31
            have c31b1 : (t179 != 0) = true := bne_iff_ne.mpr c31
            by_cases c40 : t179 = 1
            · rw [if_pos c40] at H
              have c40b0 : (t179 == 1) = true := beq_iff_eq.mpr c40
              have c40b1 : (t179 != 1) = false := bne_eq_false_iff_eq.mpr c40
              clear c40
              obtain ⟨y183, hy183⟩ : ∃ y_ : List Int, y_ = (([0, 40, 41] : List Int)) := ⟨_, rfl⟩
              replace H : ((spec_l6Rd_pick.f kj24 t163 t180 3).bind fun bt186 => (if 0 ≤ bt186.1 then (if bt186.1 < (y183.length : Int) then (some (x177000_24, rd y183 bt186.1, t170, t171, t172, t173, t174)) else (none)) else (none))) = some (r1, r2, r3, r4, r5, r6, r7) := by first | (rw [hy183]; with_reducible exact H) | (have H2_ := (Option.bind_some _ _).symm.trans H; rw [hy183]; with_reducible exact H2_) | (have H2_ := (Option.bind_some _ _).symm.trans H; with_reducible exact H2_) | with_reducible exact H | (rw [hy183]; exact H) | exact H
              have Ny183 := Aside0.mk hy183
              clear hy183
              replace H := Option.bind_eq_some_iff.mp H
              obtain ⟨⟨t186, t187⟩, A410, H⟩ := H
              (try dsimp only at H)
              have A41 := Aside0.mk A410
              clear A410
              by_cases c42 : 0 ≤ t186
              · rw [if_pos c42] at H
                have c42b0 : decide (0 ≤ t186) = true := decide_eq_true c42
                clear c42
                by_cases c43 : t186 < (y183.length : Int)
                · rw [if_pos c43] at H
                  have c43b0 : decide (t186 < (y183.length : Int)) = true := decide_eq_true c43
                  clear c43
                  simp only [Option.some.injEq, Prod.mk.injEq] at H
                  obtain ⟨rfl, rfl, rfl, rfl, rfl, rfl, rfl⟩ := H
                  go_wp2_with (first | ((with_reducible refine gate_callee (f := 38) rfl ?_); refine goesL_ (some 31) rfl rfl Tryd.func38 (by kernel_rfl) rfl #[.pointer (some ⟨g165, 0, none⟩), .int .i64 12] rfl argsA ?_; (with_reducible refine (spec_l6Rd_pick.calls kj24 g165 t163 x166001_5 12 t179 t180 w _ ?side1 ?side2 A30.out).mono ?_); (case side1 => exact stA); (case side2 => exact belowA); rintro e w44 ⟨rfl, hi, hb, hk⟩; refine ⟨_, rfl, ?_⟩; have n0_ := Aside0.mk (KeepBut.blk hk (g' := gb162) (o := .cells #[.int .i64 0, .int .i64 0, .int .i64 0, .int .i64 0, .int .i64 0, .int .i64 0, .string (⟨#[]⟩ : ByteArray)] 26 (0, 0)) blkA NB162_165.out (by simp)); have n1_ := Aside0.mk (KeepBut.blk hk (g' := gb176) (o := .cells #[.int .i64 x177000_24, .int .i64 (wrap64 (1 + t168)), .int .i64 t170, .int .i64 t171, .int .i64 t172, .int .i64 t173, .string t174] 26 (0, 0)) blkA NB176_165.out (by simp)); have n2_ := Aside0.mk (hb); have n3_ := Aside0.mk (hi); clear BK162; clear BK176; clear HB; clear HI165; have BK162 := n0_; have BK176 := n1_; have HB := n2_; have HI165 := n3_; clear n0_ n1_ n2_ n3_; (try clear hb); (try clear hb2); (try clear hk); (try clear hi)) | ((with_reducible refine gate_dst (N := 40) rfl ?_); refine Kd.R_lit (Kd.int .i64) _ 3 ?hg (N := 40) ?hd (xs := ([0, 40, 41] : List Int)) (inner := [.int .i64 0, .int .i64 40, .int .i64 41]) (ok := fun _ => True) (okp := fun _ => True) ?hr ?hp (fun _ hk => hk) trivial (Below.refl _ _) (Nat.le_refl _) (by simp) ?_; (case hd => rfl); (case hg => rfl); (case hr => first | (go_simp; done) | (go_simp; rfl)); (case hp => exact (Reps.one (show Kd.M (Kd.int .i64) _ _ _ 0 [.int .i64 0] from rfl) (Reps.one (show Kd.M (Kd.int .i64) _ _ _ 40 [.int .i64 40] from rfl) (Reps.one (show Kd.M (Kd.int .i64) _ _ _ 41 [.int .i64 41] from rfl) (Reps.none _ _))))); intro v184 w45 ho46 hb hg_ hnew_; clear hg_ hnew_; (first | rw [← Ny183.out] at ho46 | (simp only [Int.reduceToNat] at ho46; rw [← Ny183.out] at ho46)); have n0_ := Aside0.mk (Kd.R_lower ho46 (below_size belowA)); have n1_ := Aside0.mk (blk_below (g := gb162) (o := .cells #[.int .i64 0, .int .i64 0, .int .i64 0, .int .i64 0, .int .i64 0, .int .i64 0, .string (⟨#[]⟩ : ByteArray)] 26 (0, 0)) blkA hb); have n2_ := Aside0.mk (blk_below (g := gb176) (o := .cells #[.int .i64 x177000_24, .int .i64 (wrap64 (1 + t168)), .int .i64 t170, .int .i64 t171, .int .i64 t172, .int .i64 t173, .string t174] 26 (0, 0)) blkA hb); have n3_ := Aside0.mk (IsS80.below stA hb); have n4_ := Aside0.mk (below_step belowA hb); clear BK162; clear BK176; clear HI165; clear HB; have HO185 := n0_; have BK162 := n1_; have BK176 := n2_; have HI165 := n3_; have HB := n4_; clear n0_ n1_ n2_ n3_ n4_; clear hb ho46) | ((with_reducible refine gate_callee (f := 38) rfl ?_); refine goesL_ (some 42) rfl rfl Tryd.func38 (by kernel_rfl) rfl #[.pointer (some ⟨g165, 0, none⟩), .int .i64 3] rfl argsA ?_; (with_reducible refine (spec_l6Rd_pick.calls kj24 g165 t163 t180 3 t186 t187 w _ ?side1 ?side2 A41.out).mono ?_); (case side1 => exact stA); (case side2 => exact belowA); rintro e w47 ⟨rfl, hi, hb, hk⟩; refine ⟨_, rfl, ?_⟩; have n0_ := Aside0.mk (KeepBut.blk hk (g' := gb162) (o := .cells #[.int .i64 0, .int .i64 0, .int .i64 0, .int .i64 0, .int .i64 0, .int .i64 0, .string (⟨#[]⟩ : ByteArray)] 26 (0, 0)) blkA NB162_165.out (by simp)); have n1_ := Aside0.mk (KeepBut.blk hk (g' := gb176) (o := .cells #[.int .i64 x177000_24, .int .i64 (wrap64 (1 + t168)), .int .i64 t170, .int .i64 t171, .int .i64 t172, .int .i64 t173, .string t174] 26 (0, 0)) blkA NB176_165.out (by simp)); have n2_ := Aside0.mk (Kd.R_mono (Kd.R_keep (IsS80.apart (show IsS80 w _ g165 t163 t180 from stA) (RA HO185) (by decide)) hk (fun _ h => h.2)) (fun _ h => h.1)); have n3_ := Aside0.mk (hb); have n4_ := Aside0.mk (hi); clear BK162; clear BK176; clear HO185; clear HB; clear HI165; have BK162 := n0_; have BK176 := n1_; have HO185 := n2_; have HB := n3_; have HI165 := n4_; clear n0_ n1_ n2_ n3_ n4_; (try clear hb); (try clear hb2); (try clear hk); (try clear hi); obtain ⟨Ao48, co48, eo48⟩ := Kd.R_slice HO185.out; subst eo48; have p188 : 0 ≤ (t186 : Int) := of_decide_eq_true (by first | (with_reducible assumption) | assumption); have q188 : t186 < (y183.length : Int) := of_decide_eq_true (by first | (with_reducible assumption) | assumption); obtain ⟨ad188, e188, hx188_0⟩ := Kd.at_int (Kd.R_reads' HO185.out).2.2 t186 p188 q188; cases e188; replace p188 := eq_true p188; replace q188 := eq_true q188; have hnb49 := NB176_162.out; have hnc49 := NB162_176.out; have hnb50 := NB176_165.out; have hnc50 := NB165_176.out; obtain ⟨hcz51_0, hcz51_1, hcz51_2, hcz51_3, hcz51_4, hcz51_5, hcz51_6, hfz51_0, hfz51_1, hfz51_2, hfz51_3, hfz51_4, hfz51_5, hfz51_6⟩ := blk_facts7 BK176.out; have hnb52 := NB162_165.out; have hnc52 := NB165_162.out; obtain ⟨hcz53_0, hcz53_1, hcz53_2, hcz53_3, hcz53_4, hcz53_5, hcz53_6, hfz53_0, hfz53_1, hfz53_2, hfz53_3, hfz53_4, hfz53_5, hfz53_6⟩ := blk_facts7 BK162.out))
                  refine bodyPost_ret (results_cell_row rfl _ _ gb162 26 #[.int .i64 x177000_24, .int .i64 (rd y183 t186), .int .i64 t170, .int .i64 t171, .int .i64 t172, .int .i64 t173, .string t174] (0, 0) _ rfl (put7 (blkC #[.int .i64 0, .int .i64 0, .int .i64 0, .int .i64 0, .int .i64 0, .int .i64 0, .string (⟨#[]⟩ : ByteArray)])) Tryd.underlying26 rfl (by kernel_rfl)) rfl ?_
                  exact ⟨endA, belowA⟩
                · rw [if_neg c43] at H
                  exact absurd H (by simp)
              · rw [if_neg c42] at H
                exact absurd H (by simp)
            · rw [if_neg c40] at H
              have c40b0 : (t179 == 1) = false := beq_eq_false_iff_ne.mpr c40
              have c40b1 : (t179 != 1) = true := bne_iff_ne.mpr c40
              simp only [Option.some.injEq, Prod.mk.injEq] at H
              obtain ⟨rfl, rfl, rfl, rfl, rfl, rfl, rfl⟩ := H
              go_wp2_with (first | ((with_reducible refine gate_callee (f := 38) rfl ?_); refine goesL_ (some 31) rfl rfl Tryd.func38 (by kernel_rfl) rfl #[.pointer (some ⟨g165, 0, none⟩), .int .i64 12] rfl argsA ?_; (with_reducible refine (spec_l6Rd_pick.calls kj24 g165 t163 x166001_5 12 t179 t180 w _ ?side1 ?side2 A30.out).mono ?_); (case side1 => exact stA); (case side2 => exact belowA); rintro e w54 ⟨rfl, hi, hb, hk⟩; refine ⟨_, rfl, ?_⟩; have n0_ := Aside0.mk (KeepBut.blk hk (g' := gb162) (o := .cells #[.int .i64 0, .int .i64 0, .int .i64 0, .int .i64 0, .int .i64 0, .int .i64 0, .string (⟨#[]⟩ : ByteArray)] 26 (0, 0)) blkA NB162_165.out (by simp)); have n1_ := Aside0.mk (KeepBut.blk hk (g' := gb176) (o := .cells #[.int .i64 x177000_24, .int .i64 (wrap64 (1 + t168)), .int .i64 t170, .int .i64 t171, .int .i64 t172, .int .i64 t173, .string t174] 26 (0, 0)) blkA NB176_165.out (by simp)); have n2_ := Aside0.mk (hb); have n3_ := Aside0.mk (hi); clear BK162; clear BK176; clear HB; clear HI165; have BK162 := n0_; have BK176 := n1_; have HB := n2_; have HI165 := n3_; clear n0_ n1_ n2_ n3_; (try clear hb); (try clear hb2); (try clear hk); (try clear hi); have hnb55 := NB176_162.out; have hnc55 := NB162_176.out; have hnb56 := NB176_165.out; have hnc56 := NB165_176.out; obtain ⟨hcz57_0, hcz57_1, hcz57_2, hcz57_3, hcz57_4, hcz57_5, hcz57_6, hfz57_0, hfz57_1, hfz57_2, hfz57_3, hfz57_4, hfz57_5, hfz57_6⟩ := blk_facts7 BK176.out; have hnb58 := NB162_165.out; have hnc58 := NB165_162.out; obtain ⟨hcz59_0, hcz59_1, hcz59_2, hcz59_3, hcz59_4, hcz59_5, hcz59_6, hfz59_0, hfz59_1, hfz59_2, hfz59_3, hfz59_4, hfz59_5, hfz59_6⟩ := blk_facts7 BK162.out))
              refine bodyPost_ret (results_cell_row rfl _ _ gb162 26 #[.int .i64 x177000_24, .int .i64 (wrap64 (1 + t168)), .int .i64 t170, .int .i64 t171, .int .i64 t172, .int .i64 t173, .string t174] (0, 0) _ rfl (put7 (blkC #[.int .i64 0, .int .i64 0, .int .i64 0, .int .i64 0, .int .i64 0, .int .i64 0, .string (⟨#[]⟩ : ByteArray)])) Tryd.underlying26 rfl (by kernel_rfl)) rfl ?_
              exact ⟨endA, belowA⟩

/-! ### impl_EntryOk: function 13 -/
def impl_EntryOk.f (a0_0 : Int) (a0_1 : Int) (a0_2 : Int) (a0_3 : Int) (a0_4 : Int) (a0_5 : Int) (a0_6 : ByteArray) : Option (Bool) := some (entryB a0_0 a0_1 a0_2 a0_3 a0_4 a0_5 a0_6)
theorem impl_EntryOk.calls (a0_0 : Int) (a0_1 : Int) (a0_2 : Int) (a0_3 : Int) (a0_4 : Int) (a0_5 : Int) (a0_6 : ByteArray) (r : Bool) (w : World) (ht : TabOk w) (h : impl_EntryOk.f a0_0 a0_1 a0_2 a0_3 a0_4 a0_5 a0_6 = some r) :
    Calls Tryd.prog 13 #[.agg #[.int .i64 a0_0, .int .i64 a0_1, .int .i64 a0_2, .int .i64 a0_3, .int .i64 a0_4, .int .i64 a0_5, .string a0_6]] w fun e w' => e = .returned (.bool r) ∧ Below w.heap.size w w' := by
  have h2 := entryOk_b a0_0 a0_1 a0_2 a0_3 a0_4 a0_5 a0_6 w ht
  rw [show entryB a0_0 a0_1 a0_2 a0_3 a0_4 a0_5 a0_6 = r from Option.some.inj h] at h2
  exact h2


/-! ### spec_l6In: function 43 -/
def spec_l6In.f (a0 : Int) (a1 : Int) (a2 : Int) : Option (Bool) := if a0 ≥ a1 then (some (decide (a0 ≤ a2))) else (some false)
set_option maxHeartbeats 8000000 in
set_option maxRecDepth 100000 in
theorem spec_l6In.calls (a0 : Int) (a1 : Int) (a2 : Int) (r : Bool) (w : World) (h : spec_l6In.f a0 a1 a2 = some r) :
    Calls Tryd.prog 43 #[.int .i64 a0, .int .i64 a1, .int .i64 a2] w fun e w' => e = .returned (.bool r) ∧ Drawn0 w w' := by
  have H : (if a0 ≥ a1 then (some (decide (a0 ≤ a2))) else (some false)) = some r := h
  clear h
  by_cases c4 : a0 ≥ a1
  · rw [if_pos c4] at H
    have c4b0 : decide (a1 ≤ a0) = true := decide_eq_true c4
    clear c4
    obtain rfl := Option.some.inj H
    go_enter Tryd.func43, Tryd.ntmps43
    go_wp2
    go_ret
    exact ⟨by first | rfl | (simp; done) | (simp [*]; done), by repeat (first | exact Drawn0.refl _ | apply Drawn0.step)⟩
  · rw [if_neg c4] at H
    have c4b0 : decide (a1 ≤ a0) = false := decide_eq_false c4
    clear c4
    obtain rfl := Option.some.inj H
    go_enter Tryd.func43, Tryd.ntmps43
    go_wp2
    go_ret
    exact ⟨by first | rfl | (simp; done) | (simp [*]; done), by repeat (first | exact Drawn0.refl _ | apply Drawn0.step)⟩

/-! ### spec_l1Made: function 58 -/
def spec_l1Made.f (a0 : Int) : Option (Bool) := (spec_l6In.f (wrap64 (Int.tdiv a0 10)) 1 3).bind fun t189 => (if t189 = true then ((spec_l6In.f (Int.tmod a0 10) 1 6).bind fun t190 => (some t190)) else (some false))
set_option maxHeartbeats 8000000 in
set_option maxRecDepth 100000 in
theorem spec_l1Made.calls (a0 : Int) (r : Bool) (w : World) (h : spec_l1Made.f a0 = some r) :
    Calls Tryd.prog 58 #[.int .i64 a0] w fun e w' => e = .returned (.bool r) ∧ Drawn0 w w' := by
  have H : ((spec_l6In.f (wrap64 (Int.tdiv a0 10)) 1 3).bind fun t189 => (if t189 = true then ((spec_l6In.f (Int.tmod a0 10) 1 6).bind fun t190 => (some t190)) else (some false))) = some r := h
  clear h
  replace H := Option.bind_eq_some_iff.mp H
  obtain ⟨t189, A20, H⟩ := H
  (try dsimp only at H)
  have A2 := Aside0.mk A20
  clear A20
  by_cases c3 : t189 = true
  · subst c3
    have H1 : ((spec_l6In.f (Int.tmod a0 10) 1 6).bind fun t190 => (some t190)) = some r := by rw [if_pos rfl] at H; exact H
    clear H
    have H := H1
    clear H1
    replace H := Option.bind_eq_some_iff.mp H
    obtain ⟨t190, A40, H⟩ := H
    (try dsimp only at H)
    have A4 := Aside0.mk A40
    clear A40
    obtain rfl := Option.some.inj H
    go_enter Tryd.func58, Tryd.ntmps58
    go_wp2_with (first | ((with_reducible refine gate_callee (f := 43) rfl ?_); refine goesL_ (some 5) rfl rfl Tryd.func43 (by kernel_rfl) rfl #[.int .i64 (wrap64 (Int.tdiv a0 10)), .int .i64 1, .int .i64 3] rfl argsA ?_; (with_reducible refine (spec_l6In.calls (wrap64 (Int.tdiv a0 10)) 1 3 true _ A2.out).mono ?_); rintro e w' ⟨rfl, ⟨nd, rfl⟩⟩; refine ⟨_, rfl, ?_⟩) | (go_at_call 43; (with_reducible refine (spec_l6In.calls (Int.tmod a0 10) 1 6 t190 _ A4.out).mono ?_); rintro e w' ⟨rfl, ⟨nd, rfl⟩⟩))
    go_ret
    exact ⟨by first | rfl | (simp; done) | (simp [*]; done), by repeat (first | exact Drawn0.refl _ | apply Drawn0.step)⟩
  · replace c3 := Bool.eq_false_iff.mpr c3
    subst c3
    have H1 : (some false) = some r := by rw [if_neg (show ¬ (false = true) by decide)] at H; exact H
    clear H
    have H := H1
    clear H1
    obtain rfl := Option.some.inj H
    go_enter Tryd.func58, Tryd.ntmps58
    go_wp2_with (first | ((with_reducible refine gate_callee (f := 43) rfl ?_); refine goesL_ (some 5) rfl rfl Tryd.func43 (by kernel_rfl) rfl #[.int .i64 (wrap64 (Int.tdiv a0 10)), .int .i64 1, .int .i64 3] rfl argsA ?_; (with_reducible refine (spec_l6In.calls (wrap64 (Int.tdiv a0 10)) 1 3 false _ A2.out).mono ?_); rintro e w' ⟨rfl, ⟨nd, rfl⟩⟩; refine ⟨_, rfl, ?_⟩))
    go_ret
    exact ⟨by first | rfl | (simp; done) | (simp [*]; done), by repeat (first | exact Drawn0.refl _ | apply Drawn0.step)⟩

end Go.Proofs.YtlpfjabfhgfpmaaDoor.P
