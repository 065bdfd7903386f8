-- Written by wip/tools/pprint.py (a program of this session) over the kit's printer; not trusted: Lean checks it.
import Derived.Test.YtaajcbbbmpdcnaaDoorPx0
import Derived.Test.YtaajcbbbmpdcnaaDoorPx3
import Derived.Test.YtaajcbbbmpdcnaaDoorPx4
import Derived.Test.YtaajcbbbmpdcnaaDoorPx13
import Derived.Test.YtaajcbbbmpdcnaaDoorV
namespace Go.Proofs.YtaajcbbbmpdcnaaDoor.P
open Go.RowKit Go.Proofs.YtaajcbbbmpdcnaaDoorW.PrintWords Go.Proofs.YtaajcbbbmpdcnaaDoorW.PrintLast Go.Proofs.YtaajcbbbmpdcnaaDoorW.PrintMore
attribute [local go_sem] cell_set_set cell_set_far_set max2_int min2_int max_two min_two max_three min_three max_four min_four   -- for this text's walks alone
set_option linter.unusedVariables false
set_option linter.unusedSimpArgs false

/-! ### laws_FnTreeUp: function 18 -/
mutual
def laws_FnTreeUp.j0 : Nat → List (S47) → Int → Int → Bool → Int → Bool → Bool → Option (Bool)
  | 0, _, _, _, _, _, _, _ => none
  | k + 1, x3, x4, x5, x6, x7, x8, x41 => if x41 = true then (if (x8 == x6) = true then (some (x7 == x5)) else (some false)) else (laws_FnTreeUp.l0 k x3 x4 x7 0)
def laws_FnTreeUp.l0 : Nat → List (S47) → Int → Int → Int → Option (Bool)
  | 0, _, _, _, _ => none
  | k + 1, x3, x4, x7, x9 => if x9 < (x3.length : Int) then (if 0 ≤ x9 then ((impl_TreeKids.f x3 ((rd_T47 x3 x9).f0)).bind fun t367 => ((laws_lpAmong.f k t367 x4).bind fun t370 => (if (t370 != (((rd_T47 x3 x9).f0) == x7)) = true then (some false) else (laws_FnTreeUp.l0 k x3 x4 x7 (wrap64 (x9 + 1)))))) else (none)) else ((laws_lpAt.f k x3 x4).bind fun t365 => (some (decide (t365 ≥ 0))))
end
def laws_FnTreeUp.f (k : Nat) (l0 : List Int) : Option (Bool) := if (l0.length : Int) > 1048576 then (some true) else ((spec_DrawTreeUp.f k l0).bind fun bt357 => ((spec_TreeUp.f k bt357.1 bt357.2).bind fun bt361 => ((impl_TreeUp.f bt357.1 bt357.2).bind fun bt363 => (if (bt363.2 != bt361.2) = true then (laws_FnTreeUp.j0 k bt357.1 bt357.2 bt361.1 bt361.2 bt363.1 bt363.2 true) else (if bt363.1 = bt361.1 then (laws_FnTreeUp.j0 k bt357.1 bt357.2 bt361.1 bt361.2 bt363.1 bt363.2 (!bt363.2)) else (laws_FnTreeUp.j0 k bt357.1 bt357.2 bt361.1 bt361.2 bt363.1 bt363.2 true))))))
theorem laws_FnTreeUp.mono_l : ∀ k, (∀ y0 y1 y2 y3 y4 y5 y6, LeO (laws_FnTreeUp.j0 k y0 y1 y2 y3 y4 y5 y6) (laws_FnTreeUp.j0 (k + 1) y0 y1 y2 y3 y4 y5 y6)) ∧ (∀ y0 y1 y2 y3, LeO (laws_FnTreeUp.l0 k y0 y1 y2 y3) (laws_FnTreeUp.l0 (k + 1) y0 y1 y2 y3))
  | 0 => ⟨fun _ _ _ _ _ _ _ r h => by simp [laws_FnTreeUp.j0] at h, fun _ _ _ _ r h => by simp [laws_FnTreeUp.l0] at h⟩
  | k + 1 => by
    obtain ⟨ih0, ih1⟩ := laws_FnTreeUp.mono_l k
    refine ⟨?_, ?_⟩
    · intro y0 y1 y2 y3 y4 y5 y6
      unfold laws_FnTreeUp.j0
      repeat' first
      | (with_reducible exact ih0 _ _ _ _ _ _ _)
      | (with_reducible exact ih1 _ _ _ _)
      | (with_reducible exact laws_lpAmong.mono _ _ _)
      | (with_reducible exact laws_lpAt.mono _ _ _)
      | (with_reducible exact spec_DrawTreeUp.mono _ _)
      | (with_reducible exact spec_TreeUp.mono _ _ _)
      | (with_reducible exact LeO.refl _)
      | (with_reducible exact LeO.none _)
      | (with_reducible refine LeO.ite ?_ ?_)
      | (with_reducible refine LeO.bind ?_ (fun _ => ?_))
      | exact ih0 _ _ _ _ _ _ _
      | exact ih1 _ _ _ _
      | exact laws_lpAmong.mono _ _ _
      | exact laws_lpAt.mono _ _ _
      | exact spec_DrawTreeUp.mono _ _
      | exact spec_TreeUp.mono _ _ _
      | exact LeO.none _
      | refine LeO.ite ?_ ?_
      | refine LeO.bind ?_ (fun _ => ?_)
    · intro y0 y1 y2 y3
      unfold laws_FnTreeUp.l0
      repeat' first
      | (with_reducible exact ih0 _ _ _ _ _ _ _)
      | (with_reducible exact ih1 _ _ _ _)
      | (with_reducible exact laws_lpAmong.mono _ _ _)
      | (with_reducible exact laws_lpAt.mono _ _ _)
      | (with_reducible exact spec_DrawTreeUp.mono _ _)
      | (with_reducible exact spec_TreeUp.mono _ _ _)
      | (with_reducible exact LeO.refl _)
      | (with_reducible exact LeO.none _)
      | (with_reducible refine LeO.ite ?_ ?_)
      | (with_reducible refine LeO.bind ?_ (fun _ => ?_))
      | exact ih0 _ _ _ _ _ _ _
      | exact ih1 _ _ _ _
      | exact laws_lpAmong.mono _ _ _
      | exact laws_lpAt.mono _ _ _
      | exact spec_DrawTreeUp.mono _ _
      | exact spec_TreeUp.mono _ _ _
      | exact LeO.none _
      | refine LeO.ite ?_ ?_
      | refine LeO.bind ?_ (fun _ => ?_)
theorem laws_FnTreeUp.mono : ∀ a0 k, LeO (laws_FnTreeUp.f k a0) (laws_FnTreeUp.f (k + 1) a0) := by
  intro a0 k
  obtain ⟨ih0, ih1⟩ := laws_FnTreeUp.mono_l k
  unfold laws_FnTreeUp.f
  repeat' first
      | (with_reducible exact ih0 _ _ _ _ _ _ _)
      | (with_reducible exact ih1 _ _ _ _)
      | (with_reducible exact laws_lpAmong.mono _ _ _)
      | (with_reducible exact laws_lpAt.mono _ _ _)
      | (with_reducible exact spec_DrawTreeUp.mono _ _)
      | (with_reducible exact spec_TreeUp.mono _ _ _)
      | (with_reducible exact LeO.refl _)
      | (with_reducible exact LeO.none _)
      | (with_reducible refine LeO.ite ?_ ?_)
      | (with_reducible refine LeO.bind ?_ (fun _ => ?_))
      | exact ih0 _ _ _ _ _ _ _
      | exact ih1 _ _ _ _
      | exact laws_lpAmong.mono _ _ _
      | exact laws_lpAt.mono _ _ _
      | exact spec_DrawTreeUp.mono _ _
      | exact spec_TreeUp.mono _ _ _
      | exact LeO.none _
      | refine LeO.ite ?_ ?_
      | refine LeO.bind ?_ (fun _ => ?_)
def laws_FnTreeUp.T11 : Bool × List (List Nat × List Nat) := (true, [([], []), ([], []), ([], []), ([1, 2], [1, 2]), ([3], [3]), ([4], [4]), ([0, 5], [0, 5]), ([], []), ([6, 7, 6], [6, 7]), ([], []), ([], []), ([9, 10], [9, 10]), ([11], [11]), ([12], [12]), ([], []), ([13, 14], [13, 14]), ([8, 15], [8, 15])])
def laws_FnTreeUp.B11 : List Nat := [0, 0, 0, 6, 14, 30, 63, 0, 255, 0, 0, 1536, 3584, 7680, 0, 32256, 65535]
theorem laws_FnTreeUp.tab11 : rtab .any (opsOf Tryd.f18 11) = laws_FnTreeUp.T11 := by kernel_rfl
theorem laws_FnTreeUp.bits11 : waitsOk laws_FnTreeUp.T11.2 laws_FnTreeUp.B11 = true := by kernel_rfl
set_option maxHeartbeats 8000000 in
set_option maxRecDepth 100000 in
theorem laws_FnTreeUp.calls (k : Nat) (A0 : Option Addr) (c0 : Nat) (l0 : List Int) (r : Bool) (w : World) (hr0 : Kd.C (Kd.int .u8) w A0 l0.length l0) (hc0 : l0.length ≤ c0) (ht : TabOk w) (h : laws_FnTreeUp.f k l0 = some r) :
    Calls Tryd.prog 18 #[.slice A0 l0.length c0] w fun e w' => e = .returned (.bool r) ∧ Below w.heap.size w w' := by
  have HR0 := Aside0.mk hr0
  have HC0 := Aside0.mk hc0
  clear hr0 hc0
  have HT := Aside0.mk ht
  clear ht
  have HB := Aside0.mk (Below.refl w.heap.size w)
  have H : (if (l0.length : Int) > 1048576 then (some true) else ((spec_DrawTreeUp.f k l0).bind fun bt357 => ((spec_TreeUp.f k bt357.1 bt357.2).bind fun bt361 => ((impl_TreeUp.f bt357.1 bt357.2).bind fun bt363 => (if (bt363.2 != bt361.2) = true then (laws_FnTreeUp.j0 k bt357.1 bt357.2 bt361.1 bt361.2 bt363.1 bt363.2 true) else (if bt363.1 = bt361.1 then (laws_FnTreeUp.j0 k bt357.1 bt357.2 bt361.1 bt361.2 bt363.1 bt363.2 (!bt363.2)) else (laws_FnTreeUp.j0 k bt357.1 bt357.2 bt361.1 bt361.2 bt363.1 bt363.2 true))))))) = some r := h
  clear h
  by_cases c2 : (l0.length : Int) > 1048576
  · rw [if_pos c2] at H
    have c2b0 : decide (1048576 < (l0.length : Int)) = true := decide_eq_true c2
    have c2b1 : decide (1048576 < l0.length) = true := decide_eq_true (by omega)
    clear c2
    obtain rfl := Option.some.inj H
    go_enter Tryd.func18, Tryd.ntmps18
    go_wp2
    go_ret
    exact ⟨endA, belowA⟩
  · rw [if_neg c2] at H
    have c2b0 : decide (1048576 < (l0.length : Int)) = false := decide_eq_false c2
    have c2b1 : decide (1048576 < l0.length) = false := decide_eq_false (by omega)
    clear c2
    replace H := Option.bind_eq_some_iff.mp H
    obtain ⟨⟨t357, t358⟩, A30, H⟩ := H
    (try dsimp only at H)
    have A3 := Aside0.mk A30
    clear A30
    replace H := Option.bind_eq_some_iff.mp H
    obtain ⟨⟨t361, t362⟩, A40, H⟩ := H
    (try dsimp only at H)
    have A4 := Aside0.mk A40
    clear A40
    replace H := Option.bind_eq_some_iff.mp H
    obtain ⟨⟨t363, t364⟩, A50, H⟩ := H
    (try dsimp only at H)
    have A5 := Aside0.mk A50
    clear A50
    have HC6 := Aside0.mk H
    clear H
    go_enter Tryd.func18, Tryd.ntmps18
    go_upto_region 6 with (first | ((with_reducible refine gate_callee (f := 47) rfl ?_); refine goesL_ (some 15) rfl rfl Tryd.func47 (by kernel_rfl) rfl #[.slice A0 l0.length c0] rfl argsA ?_; (with_reducible refine (spec_DrawTreeUp.calls k _ _ l0 t357 t358 _ ?side1 ?side2 A3.out).mono ?_); (case side1 => repeat (first | exact HR0.out | (with_reducible refine Kd.C_alloc ?_ _) | (with_reducible refine Kd.C_drewN ?_ _) | (with_reducible refine Kd.C_drew ?_))); (case side2 => exact HC0.out); rintro e w7 ⟨v359, rfl, ho0, hb⟩; refine ⟨_, rfl, ?_⟩; have n0_ := Aside0.mk (Kd.Q_lower ho0 (below_size belowA)); have n1_ := Aside0.mk (below_step belowA hb); clear HB; have HO360 := n0_; have HB := n1_; clear n0_ n1_; (try clear hb); (try clear hb2); (try clear hk); (try clear hi); (try clear ho0); obtain ⟨Ao8, co8, eo8, _⟩ := Kd.Q_slice HO360.out; subst eo8) | ((with_reducible refine gate_callee (f := 29) rfl ?_); refine goesL_ (some 21) rfl rfl Tryd.func29 (by kernel_rfl) rfl #[.slice Ao8 t357.length co8, .int .i64 t358] rfl argsA ?_; (with_reducible refine (spec_TreeUp.calls k _ _ t357 t358 t361 t362 _ ?side1 ?side2 A4.out).mono ?_); (case side1 => repeat (first | exact (Kd.Q_reads' HO360.out).2.2 | (with_reducible refine Kd.C_alloc ?_ _) | (with_reducible refine Kd.C_drewN ?_ _) | (with_reducible refine Kd.C_drew ?_))); (case side2 => exact (Kd.Q_reads' HO360.out).2.1); rintro e w9 ⟨rfl, hb⟩; refine ⟨_, rfl, ?_⟩; have n0_ := Aside0.mk (Kd.Q_below (by (with_reducible repeat (first | apply Kd.Q_alloc | apply Kd.Q_drewN | apply Kd.Q_drew)); exact HO360.out) hb); have n1_ := Aside0.mk (below_step belowA hb); clear HO360; clear HB; have HO360 := n0_; have HB := n1_; clear n0_ n1_; (try clear hb); (try clear hb2); (try clear hk); (try clear hi)) | ((with_reducible refine gate_callee (f := 30) rfl ?_); refine goesL_ (some 27) rfl rfl Tryd.func30 (by kernel_rfl) rfl #[.slice Ao8 t357.length co8, .int .i64 t358] rfl argsA ?_; (with_reducible refine (impl_TreeUp.calls _ _ t357 t358 t363 t364 _ ?side1 ?side2 ?side3 A5.out).mono ?_); (case side1 => repeat (first | exact (Kd.Q_reads' HO360.out).2.2 | (with_reducible refine Kd.C_alloc ?_ _) | (with_reducible refine Kd.C_drewN ?_ _) | (with_reducible refine Kd.C_drew ?_))); (case side2 => exact (Kd.Q_reads' HO360.out).2.1); (case side3 => exact TabOk.below HT.out belowA); rintro e w10 ⟨rfl, hb⟩; refine ⟨_, rfl, ?_⟩; have n0_ := Aside0.mk (Kd.Q_below (by (with_reducible repeat (first | apply Kd.Q_alloc | apply Kd.Q_drewN | apply Kd.Q_drew)); exact HO360.out) hb); have n1_ := Aside0.mk (below_step belowA hb); clear HO360; clear HB; have HO360 := n0_; have HB := n1_; clear n0_ n1_; (try clear hb); (try clear hb2); (try clear hk); (try clear hi)))
    (try simp only [Act.put, List.setIfInBounds_toArray, List.set_cons_zero, List.set_cons_succ])
    go_cut [41] (fun v41 wc => ∃ (kq : Nat) (x41_5 : Bool), v41 = .bool x41_5 ∧ Aside0 (laws_FnTreeUp.j0 kq t357 t358 t361 t362 t363 t364 x41_5 = some r) ∧ Aside0 (kq ≤ k) ∧ Aside0 (Kd.Q k47 47 wc w.heap.size (fun _ => True) (.slice Ao8 t357.length co8) t357) ∧ Aside0 (Below w.heap.size w wc))
    case first =>
      have H := HC6.out
      clear HC6
      by_cases c11 : (t364 != t362) = true
      · rw [if_pos c11] at H
        have c11b0 : (t364 != t362) = true := c11
        (try (have c11b1 : decide (t364 = t362) = false := by simpa using c11))
        (try (have c11b2 : (t364 == t362) = false := by simpa using c11))
        (try (have c11b3 : ¬ (t364 = t362) := by simpa using c11))
        clear c11
        (first | rw [c11b0] | (simp only [i64_w, i32_w]; rw [c11b0]) | skip)
        have H' := Aside0.mk H
        clear H
        go_wp2
        go_meet
        case rel => exact ⟨_, (true), (by first | rfl | (simp; done) | (simp [*]; done)), H', ⟨by first | omega | exact Nat.le_refl _⟩, ⟨by (with_reducible repeat (first | apply Kd.Q_alloc | apply Kd.Q_drewN | apply Kd.Q_drew)); exact HO360.out⟩, ⟨belowA⟩⟩
      · rw [if_neg c11] at H
        have c11b0 : (t364 != t362) = false := by simpa using c11
        (try (have c11b1 : decide (t364 = t362) = true := by simpa using c11))
        (try (have c11b2 : (t364 == t362) = true := by simpa using c11))
        clear c11
        (first | rw [c11b0] | (simp only [i64_w, i32_w]; rw [c11b0]) | skip)
        by_cases c12 : t363 = t361
        · rw [if_pos c12] at H
          have c12b0 : (t363 == t361) = true := beq_iff_eq.mpr c12
          have c12b1 : (t363 != t361) = false := bne_eq_false_iff_eq.mpr c12
          clear c12
          have H' := Aside0.mk H
          clear H
          go_wp2
          go_meet
          case rel => exact ⟨_, (!t364), (by first | rfl | (simp; done) | (simp [*]; done)), H', ⟨by first | omega | exact Nat.le_refl _⟩, ⟨by (with_reducible repeat (first | apply Kd.Q_alloc | apply Kd.Q_drewN | apply Kd.Q_drew)); exact HO360.out⟩, ⟨belowA⟩⟩
        · rw [if_neg c12] at H
          have c12b0 : (t363 == t361) = false := beq_eq_false_iff_ne.mpr c12
          have c12b1 : (t363 != t361) = true := bne_iff_ne.mpr c12
          have H' := Aside0.mk H
          clear H
          go_wp2
          go_meet
          case rel => exact ⟨_, (true), (by first | rfl | (simp; done) | (simp [*]; done)), H', ⟨by first | omega | exact Nat.le_refl _⟩, ⟨by (with_reducible repeat (first | apply Kd.Q_alloc | apply Kd.Q_drewN | apply Kd.Q_drew)); exact HO360.out⟩, ⟨belowA⟩⟩
    case rest =>
      clear HC6
      try clear c1
      try clear c2
      try clear c2b0
      try clear c2b1
      try clear p2
      try clear c3
      try clear c4
      try clear c11
      try clear c11b0
      try clear c11b1
      try clear c11b2
      try clear c12
      try clear c12b0
      try clear c12b1
      obtain ⟨kq, x41_5, rfl, HA, HJ5, HO_3, HB⟩ := hcut
      cases kq with
      | zero => exact absurd HA.out (by simp [laws_FnTreeUp.j0])
      | succ kj5 =>
        have H := HA.out
        clear HA
        simp only [laws_FnTreeUp.j0] at H
        by_cases c13 : x41_5 = true
        · subst c13
          have H1 : (if (t364 == t362) = true then (some (t363 == t361)) else (some false)) = some r := by rw [if_pos rfl] at H; exact H
          clear H
          have H := H1
          clear H1
          by_cases c14 : (t364 == t362) = true
          · rw [if_pos c14] at H
            have c14b0 : (t364 == t362) = true := c14
            (try (have c14b1 : decide (t364 = t362) = true := by simpa using c14))
            (try (have c14b2 : (t364 == t362) = true := by simpa using c14))
            clear c14
            obtain rfl := Option.some.inj H
            go_wp2
            go_ret
            exact ⟨endA, belowA⟩
          · rw [if_neg c14] at H
            have c14b0 : (t364 == t362) = false := by simpa using c14
            (try (have c14b1 : decide (t364 = t362) = false := by simpa using c14))
            (try (have c14b2 : (t364 == t362) = false := by simpa using c14))
            (try (have c14b3 : ¬ (t364 = t362) := by simpa using c14))
            clear c14
            obtain rfl := Option.some.inj H
            go_wp2
            go_ret
            exact ⟨endA, belowA⟩
        · replace c13 := Bool.eq_false_iff.mpr c13
          subst c13
          have H1 : (laws_FnTreeUp.l0 kj5 t357 t358 t363 0) = some r := by rw [if_neg (show ¬ (false = true) by decide)] at H; exact H
          clear H
          have H := H1
          clear H1
          have H' := Aside0.mk H
          clear H
          go_wp2
          go_loopg [9] kj5 (fun kq v9 w' => ∃ (x9_2 : Int), v9 = .int .i64 x9_2 ∧ Aside0 (laws_FnTreeUp.l0 kq t357 t358 t363 x9_2 = some r) ∧ Aside0 (kq ≤ kj5) ∧ Aside0 (Kd.Q k47 47 w' w.heap.size (fun _ => True) (.slice Ao8 t357.length co8) t357) ∧ Aside0 (Below w.heap.size w w'))
          case atStart => exact ⟨(0), (by first | rfl | (simp; done) | (simp [*]; done)), H', ⟨Nat.le_refl _⟩, ⟨by (with_reducible repeat (first | apply Kd.Q_alloc | apply Kd.Q_drewN | apply Kd.Q_drew)); exact HO_3.out⟩, ⟨belowA⟩⟩
          case round =>
            clear H'
            try clear c1
            try clear c2
            try clear c2b0
            try clear c2b1
            try clear p2
            try clear c3
            try clear c4
            try clear c11
            try clear c11b0
            try clear c11b1
            try clear c11b2
            try clear c12
            try clear c12b0
            try clear c12b1
            try clear c13
            try clear c14
            try clear c14b0
            try clear c14b1
            try clear c14b2
            try clear p2
            obtain ⟨x9_2, rfl, HA, HK2, HO_3, HB⟩ := hrel
            cases gk with
            | zero => exact absurd HA.out (by simp [laws_FnTreeUp.l0])
            | succ k2 =>
              have H := HA.out
              clear HA
              simp only [laws_FnTreeUp.l0] at H
              by_cases c15 : x9_2 < (t357.length : Int)
              · rw [if_pos c15] at H
                have c15b0 : decide (x9_2 < (t357.length : Int)) = true := decide_eq_true c15
                clear c15
                by_cases c16 : 0 ≤ x9_2
                · rw [if_pos c16] at H
                  have c16b0 : decide (0 ≤ x9_2) = true := decide_eq_true c16
                  clear c16
                  replace H := Option.bind_eq_some_iff.mp H
                  obtain ⟨t367, A170, H⟩ := H
                  (try dsimp only at H)
                  have A17 := Aside0.mk A170
                  clear A170
                  replace H := Option.bind_eq_some_iff.mp H
                  obtain ⟨t370, A180, H⟩ := H
                  (try dsimp only at H)
                  have A18 := Aside0.mk A180
                  clear A180
                  by_cases c19 : (t370 != (((rd_T47 t357 x9_2).f0) == t363)) = true
                  · rw [if_pos c19] at H
                    have c19b0 : (t370 != (((rd_T47 t357 x9_2).f0) == t363)) = true := c19
                    (try (have c19b1 : decide (t370 = (((rd_T47 t357 x9_2).f0) == t363)) = false := by simpa using c19))
                    (try (have c19b2 : (t370 == (((rd_T47 t357 x9_2).f0) == t363)) = false := by simpa using c19))
                    (try (have c19b3 : ¬ (t370 = (((rd_T47 t357 x9_2).f0) == t363)) := by simpa using c19))
                    clear c19
                    obtain rfl := Option.some.inj H
                    try go_wp2
                    have n0_ := Aside0.mk (Kd.Q_drew HO_3.out)
                    have n1_ := Aside0.mk (below_drew1 HB.out)
                    clear HO_3
                    clear HB
                    have HO_3 := n0_
                    have HB := n1_
                    clear n0_ n1_
                    have p366 : 0 ≤ (x9_2 : Int) := of_decide_eq_true (by first | (with_reducible assumption) | assumption)
                    have q366 : x9_2 < (t357.length : Int) := of_decide_eq_true (by first | (with_reducible assumption) | assumption)
                    obtain ⟨ad366, e366, hx366_0, hx366_1, hx366_2⟩ := at_T47 (Kd.Q_reads' HO_3.out).2.2 x9_2 p366 q366
                    cases e366
                    replace p366 := eq_true p366
                    replace q366 := eq_true q366
                    have p371 : 0 ≤ (x9_2 : Int) := of_decide_eq_true (by first | (with_reducible assumption) | assumption)
                    have q371 : x9_2 < (t357.length : Int) := of_decide_eq_true (by first | (with_reducible assumption) | assumption)
                    obtain ⟨ad371, e371, hx371_0, hx371_1, hx371_2⟩ := at_T47 (Kd.Q_reads' HO_3.out).2.2 x9_2 p371 q371
                    obtain rfl : ad366 = ad371 := (by injection e371)
                    replace p371 := eq_true p371
                    replace q371 := eq_true q371
                    refine start_ (n := 17) (S := fun w' => w'.cell? (ad366.add ((x9_2).toNat * 3)) = some (.int .i64 ((rd_T47 t357 x9_2).f0)) ∧ w'.cell? ⟨(ad366.add ((x9_2).toNat * 3)).block, (ad366.add ((x9_2).toNat * 3)).off + 1, none⟩ = some (.int .i64 ((rd_T47 t357 x9_2).f1)) ∧ w'.cell? ⟨(ad366.add ((x9_2).toNat * 3)).block, (ad366.add ((x9_2).toNat * 3)).off + 2, none⟩ = some (.string ((rd_T47 t357 x9_2).f2)) ∧ w'.cell? (ad366.add ((x9_2).toNat * 3)) = some (.int .i64 ((rd_T47 t357 x9_2).f0)) ∧ w'.cell? ⟨(ad366.add ((x9_2).toNat * 3)).block, (ad366.add ((x9_2).toNat * 3)).off + 1, none⟩ = some (.int .i64 ((rd_T47 t357 x9_2).f1)) ∧ w'.cell? ⟨(ad366.add ((x9_2).toNat * 3)).block, (ad366.add ((x9_2).toNat * 3)).off + 2, none⟩ = some (.string ((rd_T47 t357 x9_2).f2))) (ds := []) (tf 0 17) (by kernel_rfl) rfl rfl ⟨hx366_0, hx366_1, hx366_2, hx371_0, hx371_1, hx371_2⟩ (fun hHeld => ?_); refine with_tabW laws_FnTreeUp.tab11 laws_FnTreeUp.bits11 (fun HT_ HW_ => ?_)
                    generalize wr.drew = w20 at HO_3 HB hx366_0 hx366_1 hx366_2 hx371_0 hx371_1 hx371_2 hHeld ⊢
                    refine pure_ (i := 0) (N := some 56) (tf 1 16) rfl rfl (any_of HT_.out (by kernel_rfl)) (fun _ _ _ h => h) yldA putA ?_
                    refine pure_ (i := 1) (N := some 57) (tf 2 15) rfl rfl (any_of HT_.out (by kernel_rfl)) (fun _ _ _ h => h) yldA putA ?_
                    refine pure_ (i := 2) (N := some 58) (tf 3 14) rfl rfl (any_of HT_.out (by kernel_rfl)) (fun _ _ _ h => h) yldA putA ?_
                    refine pure_ (i := 3) (N := some 59) (tf 4 13) rfl rfl (any_of HT_.out (by kernel_rfl)) (fun _ _ _ h => h) yldA putA ?_
                    refine pure_ (i := 4) (N := some 60) (tf 5 12) rfl rfl (any_of HT_.out (by kernel_rfl)) (fun _ _ _ h => h) yldA putA ?_
                    refine pure_ (i := 7) (N := some 63) #[true, true, true, true, true, false, false, true, false, false, false, false, false, false, false, false, false] rfl rfl (any_of HT_.out (by kernel_rfl)) (fun _ _ _ h => h) yldA putA ?_
                    refine pure_ (i := 9) (N := some 65) #[true, true, true, true, true, false, false, true, false, true, false, false, false, false, false, false, false] rfl rfl (any_of HT_.out (by kernel_rfl)) (fun _ _ _ h => h) yldA putA ?_
                    refine pure_ (i := 10) (N := some 66) #[true, true, true, true, true, false, false, true, false, true, true, false, false, false, false, false, false] rfl rfl (any_of HT_.out (by kernel_rfl)) (fun _ _ _ h => h) yldA putA ?_
                    refine pure_ (i := 11) (N := some 67) #[true, true, true, true, true, false, false, true, false, true, true, true, false, false, false, false, false] rfl rfl (any_of HT_.out (by kernel_rfl)) (fun _ _ _ h => h) yldA putA ?_
                    refine pure_ (i := 12) (N := some 68) #[true, true, true, true, true, false, false, true, false, true, true, true, true, false, false, false, false] rfl rfl (any_of HT_.out (by kernel_rfl)) (fun _ _ _ h => h) yldA putA ?_
                    refine pure_ (i := 14) (N := some 70) #[true, true, true, true, true, false, false, true, false, true, true, true, true, false, true, false, false] rfl rfl (any_of HT_.out (by kernel_rfl)) (fun _ _ _ h => h) yldA putA ?_
                    refine take_ (i := 5) (N := some 61) #[true, true, true, true, true, true, false, true, false, true, true, true, true, false, true, false, false] rfl rfl (take_ofW HT_.out HW_.out (by kernel_rfl)) (fun _ _ _ h => h) (Or.inl ⟨by rfl, by rintro w' ⟨s0, s1, s2, s3, s4, s5⟩; go_simp; with_reducible rfl⟩) hHeld putA ?_
                    refine take_ (i := 13) (N := some 69) #[true, true, true, true, true, true, false, true, false, true, true, true, true, true, true, false, false] rfl rfl (take_ofW HT_.out HW_.out (by kernel_rfl)) (fun _ _ _ h => h) (Or.inl ⟨by rfl, by rintro w' ⟨s0, s1, s2, s3, s4, s5⟩; go_simp; with_reducible rfl⟩) hHeld putA ?_
                    refine pure_ (i := 15) (N := some 71) #[true, true, true, true, true, true, false, true, false, true, true, true, true, true, true, true, false] rfl rfl (any_of HT_.out (by kernel_rfl)) (fun _ _ _ h => h) yldA putA ?_
                    refine one_ (i := 6) (N := some 62) #[true, true, true, true, true, true, true, true, false, true, true, true, true, true, true, true, false] rfl rfl (one_of HT_.out (by kernel_rfl)) (by decide) (fun K hK => ?_)
                    refine goes_ Tryd.func34 (by kernel_rfl) rfl #[.slice (some ad366) t357.length co8, .int .i64 ((rd_T47 t357 x9_2).f0)] (by rfl) rfl rfl argsA ?_
                    with_reducible refine (impl_TreeKids.calls _ _ t357 ((rd_T47 t357 x9_2).f0) t367 _ ?side1 ?side2 ?side3 A17.out).mono ?_
                    (case side1 => repeat (first | exact (Kd.Q_reads' HO_3.out).2.2 | (with_reducible refine Kd.C_alloc ?_ _) | (with_reducible refine Kd.C_drewN ?_ _) | (with_reducible refine Kd.C_drew ?_)))
                    (case side2 => exact (Kd.Q_reads' HO_3.out).2.1)
                    (case side3 => exact TabOk.below HT.out belowA)
                    rintro e w21 ⟨v368, rfl, ho0, hb⟩
                    have HS0_ := (hb.cell (World.block_lt_of_cell? _ _ (hHeld.1))).trans (hHeld.1)
                    have HS1_ := (hb.cell (World.block_lt_of_cell? _ _ (hHeld.2.1))).trans (hHeld.2.1)
                    have HS2_ := (hb.cell (World.block_lt_of_cell? _ _ (hHeld.2.2.1))).trans (hHeld.2.2.1)
                    have HS3_ := (hb.cell (World.block_lt_of_cell? _ _ (hHeld.2.2.2.1))).trans (hHeld.2.2.2.1)
                    have HS4_ := (hb.cell (World.block_lt_of_cell? _ _ (hHeld.2.2.2.2.1))).trans (hHeld.2.2.2.2.1)
                    have HS5_ := (hb.cell (World.block_lt_of_cell? _ _ (hHeld.2.2.2.2.2))).trans (hHeld.2.2.2.2.2)
                    refine ⟨_, rfl, ?_⟩
                    have n0_ := Aside0.mk (Kd.Q_below (by (with_reducible repeat (first | apply Kd.Q_alloc | apply Kd.Q_drewN | apply Kd.Q_drew)); exact HO_3.out) hb)
                    have n1_ := Aside0.mk (Kd.R_lower ho0 (below_size belowA))
                    have n2_ := Aside0.mk (below_step belowA hb)
                    clear HO_3
                    clear HB
                    have HO_3 := n0_
                    have HO369 := n1_
                    have HB := n2_
                    clear n0_ n1_ n2_
                    (try clear hb)
                    (try clear hb2)
                    (try clear hk)
                    (try clear hi)
                    (try clear ho0)
                    obtain ⟨Ao22, co22, eo22⟩ := Kd.R_slice HO369.out
                    (first | subst eo22 | (injection eo22 with f1_ f2_ f3_; have f4_ := f1_.symm; have f5_ := f3_.symm; clear f1_ f2_ f3_; subst f4_; subst f5_))
                    refine hK.out _ _ ⟨HS0_, HS1_, HS2_, HS3_, HS4_, HS5_⟩ (fun hHeld => ?_)
                    clear hK K
                    refine norm_ (a' := ?_) ?_ ?_
                    rotate_left
                    · show Act.put _ (some 62) _ = _
                      simp only [Act.put, List.setIfInBounds_toArray, List.set_cons_zero, List.set_cons_succ, i64_w, i32_w]
                      rfl
                    refine one_ (i := 8) (N := some 64) (tf 16 1) rfl rfl (one_of HT_.out (by kernel_rfl)) (by decide) (fun K hK => ?_)
                    refine goes_ Tryd.func57 (by kernel_rfl) rfl #[.slice Ao22 t367.length co22, .int .i64 t358] (by rfl) rfl rfl argsA ?_
                    with_reducible refine (laws_lpAmong.calls k2 _ _ t367 t358 t370 _ ?side1 ?side2 A18.out).mono ?_
                    (case side1 => repeat (first | exact (Kd.R_reads' HO369.out).2.2 | (with_reducible refine Kd.C_alloc ?_ _) | (with_reducible refine Kd.C_drewN ?_ _) | (with_reducible refine Kd.C_drew ?_)))
                    (case side2 => exact (Kd.R_reads' HO369.out).2.1)
                    rintro e w' ⟨rfl, ⟨nd, rfl⟩⟩
                    refine ⟨_, rfl, ?_⟩
                    refine hK.out _ _ ⟨hHeld.1, hHeld.2.1, hHeld.2.2.1, hHeld.2.2.2.1, hHeld.2.2.2.2.1, hHeld.2.2.2.2.2⟩ (fun hHeld => ?_)
                    clear hK K
                    refine norm_ (a' := ?_) ?_ ?_
                    rotate_left
                    · show Act.put _ (some 64) _ = _
                      simp only [Act.put, List.setIfInBounds_toArray, List.set_cons_zero, List.set_cons_succ, i64_w, i32_w]
                      rfl
                    refine pure_ (i := 16) (N := some 72) (tf 17 0) rfl rfl (any_of HT_.out (by kernel_rfl)) (fun _ _ _ h => h) yldA putA ?_
                    refine done_ (done_of HT_.out (by kernel_rfl)) ?_
                    try go_wp2
                    go_ret
                    exact ⟨endA, belowA⟩
                  · rw [if_neg c19] at H
                    have c19b0 : (t370 != (((rd_T47 t357 x9_2).f0) == t363)) = false := by simpa using c19
                    (try (have c19b1 : decide (t370 = (((rd_T47 t357 x9_2).f0) == t363)) = true := by simpa using c19))
                    (try (have c19b2 : (t370 == (((rd_T47 t357 x9_2).f0) == t363)) = true := by simpa using c19))
                    clear c19
                    have H' := Aside0.mk H
                    clear H
                    try go_wp2
                    have n0_ := Aside0.mk (Kd.Q_drew HO_3.out)
                    have n1_ := Aside0.mk (below_drew1 HB.out)
                    clear HO_3
                    clear HB
                    have HO_3 := n0_
                    have HB := n1_
                    clear n0_ n1_
                    have p366 : 0 ≤ (x9_2 : Int) := of_decide_eq_true (by first | (with_reducible assumption) | assumption)
                    have q366 : x9_2 < (t357.length : Int) := of_decide_eq_true (by first | (with_reducible assumption) | assumption)
                    obtain ⟨ad366, e366, hx366_0, hx366_1, hx366_2⟩ := at_T47 (Kd.Q_reads' HO_3.out).2.2 x9_2 p366 q366
                    cases e366
                    replace p366 := eq_true p366
                    replace q366 := eq_true q366
                    have p371 : 0 ≤ (x9_2 : Int) := of_decide_eq_true (by first | (with_reducible assumption) | assumption)
                    have q371 : x9_2 < (t357.length : Int) := of_decide_eq_true (by first | (with_reducible assumption) | assumption)
                    obtain ⟨ad371, e371, hx371_0, hx371_1, hx371_2⟩ := at_T47 (Kd.Q_reads' HO_3.out).2.2 x9_2 p371 q371
                    obtain rfl : ad366 = ad371 := (by injection e371)
                    replace p371 := eq_true p371
                    replace q371 := eq_true q371
                    refine start_ (n := 17) (S := fun w' => w'.cell? (ad366.add ((x9_2).toNat * 3)) = some (.int .i64 ((rd_T47 t357 x9_2).f0)) ∧ w'.cell? ⟨(ad366.add ((x9_2).toNat * 3)).block, (ad366.add ((x9_2).toNat * 3)).off + 1, none⟩ = some (.int .i64 ((rd_T47 t357 x9_2).f1)) ∧ w'.cell? ⟨(ad366.add ((x9_2).toNat * 3)).block, (ad366.add ((x9_2).toNat * 3)).off + 2, none⟩ = some (.string ((rd_T47 t357 x9_2).f2)) ∧ w'.cell? (ad366.add ((x9_2).toNat * 3)) = some (.int .i64 ((rd_T47 t357 x9_2).f0)) ∧ w'.cell? ⟨(ad366.add ((x9_2).toNat * 3)).block, (ad366.add ((x9_2).toNat * 3)).off + 1, none⟩ = some (.int .i64 ((rd_T47 t357 x9_2).f1)) ∧ w'.cell? ⟨(ad366.add ((x9_2).toNat * 3)).block, (ad366.add ((x9_2).toNat * 3)).off + 2, none⟩ = some (.string ((rd_T47 t357 x9_2).f2))) (ds := []) (tf 0 17) (by kernel_rfl) rfl rfl ⟨hx366_0, hx366_1, hx366_2, hx371_0, hx371_1, hx371_2⟩ (fun hHeld => ?_); refine with_tabW laws_FnTreeUp.tab11 laws_FnTreeUp.bits11 (fun HT_ HW_ => ?_)
                    generalize wr.drew = w23 at HO_3 HB hx366_0 hx366_1 hx366_2 hx371_0 hx371_1 hx371_2 hHeld ⊢
                    refine pure_ (i := 0) (N := some 56) (tf 1 16) rfl rfl (any_of HT_.out (by kernel_rfl)) (fun _ _ _ h => h) yldA putA ?_
                    refine pure_ (i := 1) (N := some 57) (tf 2 15) rfl rfl (any_of HT_.out (by kernel_rfl)) (fun _ _ _ h => h) yldA putA ?_
                    refine pure_ (i := 2) (N := some 58) (tf 3 14) rfl rfl (any_of HT_.out (by kernel_rfl)) (fun _ _ _ h => h) yldA putA ?_
                    refine pure_ (i := 3) (N := some 59) (tf 4 13) rfl rfl (any_of HT_.out (by kernel_rfl)) (fun _ _ _ h => h) yldA putA ?_
                    refine pure_ (i := 4) (N := some 60) (tf 5 12) rfl rfl (any_of HT_.out (by kernel_rfl)) (fun _ _ _ h => h) yldA putA ?_
                    refine pure_ (i := 7) (N := some 63) #[true, true, true, true, true, false, false, true, false, false, false, false, false, false, false, false, false] rfl rfl (any_of HT_.out (by kernel_rfl)) (fun _ _ _ h => h) yldA putA ?_
                    refine pure_ (i := 9) (N := some 65) #[true, true, true, true, true, false, false, true, false, true, false, false, false, false, false, false, false] rfl rfl (any_of HT_.out (by kernel_rfl)) (fun _ _ _ h => h) yldA putA ?_
                    refine pure_ (i := 10) (N := some 66) #[true, true, true, true, true, false, false, true, false, true, true, false, false, false, false, false, false] rfl rfl (any_of HT_.out (by kernel_rfl)) (fun _ _ _ h => h) yldA putA ?_
                    refine pure_ (i := 11) (N := some 67) #[true, true, true, true, true, false, false, true, false, true, true, true, false, false, false, false, false] rfl rfl (any_of HT_.out (by kernel_rfl)) (fun _ _ _ h => h) yldA putA ?_
                    refine pure_ (i := 12) (N := some 68) #[true, true, true, true, true, false, false, true, false, true, true, true, true, false, false, false, false] rfl rfl (any_of HT_.out (by kernel_rfl)) (fun _ _ _ h => h) yldA putA ?_
                    refine pure_ (i := 14) (N := some 70) #[true, true, true, true, true, false, false, true, false, true, true, true, true, false, true, false, false] rfl rfl (any_of HT_.out (by kernel_rfl)) (fun _ _ _ h => h) yldA putA ?_
                    refine take_ (i := 5) (N := some 61) #[true, true, true, true, true, true, false, true, false, true, true, true, true, false, true, false, false] rfl rfl (take_ofW HT_.out HW_.out (by kernel_rfl)) (fun _ _ _ h => h) (Or.inl ⟨by rfl, by rintro w' ⟨s0, s1, s2, s3, s4, s5⟩; go_simp; with_reducible rfl⟩) hHeld putA ?_
                    refine take_ (i := 13) (N := some 69) #[true, true, true, true, true, true, false, true, false, true, true, true, true, true, true, false, false] rfl rfl (take_ofW HT_.out HW_.out (by kernel_rfl)) (fun _ _ _ h => h) (Or.inl ⟨by rfl, by rintro w' ⟨s0, s1, s2, s3, s4, s5⟩; go_simp; with_reducible rfl⟩) hHeld putA ?_
                    refine pure_ (i := 15) (N := some 71) #[true, true, true, true, true, true, false, true, false, true, true, true, true, true, true, true, false] rfl rfl (any_of HT_.out (by kernel_rfl)) (fun _ _ _ h => h) yldA putA ?_
                    refine one_ (i := 6) (N := some 62) #[true, true, true, true, true, true, true, true, false, true, true, true, true, true, true, true, false] rfl rfl (one_of HT_.out (by kernel_rfl)) (by decide) (fun K hK => ?_)
                    refine goes_ Tryd.func34 (by kernel_rfl) rfl #[.slice (some ad366) t357.length co8, .int .i64 ((rd_T47 t357 x9_2).f0)] (by rfl) rfl rfl argsA ?_
                    with_reducible refine (impl_TreeKids.calls _ _ t357 ((rd_T47 t357 x9_2).f0) t367 _ ?side1 ?side2 ?side3 A17.out).mono ?_
                    (case side1 => repeat (first | exact (Kd.Q_reads' HO_3.out).2.2 | (with_reducible refine Kd.C_alloc ?_ _) | (with_reducible refine Kd.C_drewN ?_ _) | (with_reducible refine Kd.C_drew ?_)))
                    (case side2 => exact (Kd.Q_reads' HO_3.out).2.1)
                    (case side3 => exact TabOk.below HT.out belowA)
                    rintro e w24 ⟨v368, rfl, ho0, hb⟩
                    have HS0_ := (hb.cell (World.block_lt_of_cell? _ _ (hHeld.1))).trans (hHeld.1)
                    have HS1_ := (hb.cell (World.block_lt_of_cell? _ _ (hHeld.2.1))).trans (hHeld.2.1)
                    have HS2_ := (hb.cell (World.block_lt_of_cell? _ _ (hHeld.2.2.1))).trans (hHeld.2.2.1)
                    have HS3_ := (hb.cell (World.block_lt_of_cell? _ _ (hHeld.2.2.2.1))).trans (hHeld.2.2.2.1)
                    have HS4_ := (hb.cell (World.block_lt_of_cell? _ _ (hHeld.2.2.2.2.1))).trans (hHeld.2.2.2.2.1)
                    have HS5_ := (hb.cell (World.block_lt_of_cell? _ _ (hHeld.2.2.2.2.2))).trans (hHeld.2.2.2.2.2)
                    refine ⟨_, rfl, ?_⟩
                    have n0_ := Aside0.mk (Kd.Q_below (by (with_reducible repeat (first | apply Kd.Q_alloc | apply Kd.Q_drewN | apply Kd.Q_drew)); exact HO_3.out) hb)
                    have n1_ := Aside0.mk (Kd.R_lower ho0 (below_size belowA))
                    have n2_ := Aside0.mk (below_step belowA hb)
                    clear HO_3
                    clear HB
                    have HO_3 := n0_
                    have HO369 := n1_
                    have HB := n2_
                    clear n0_ n1_ n2_
                    (try clear hb)
                    (try clear hb2)
                    (try clear hk)
                    (try clear hi)
                    (try clear ho0)
                    obtain ⟨Ao25, co25, eo25⟩ := Kd.R_slice HO369.out
                    (first | subst eo25 | (injection eo25 with f1_ f2_ f3_; have f4_ := f1_.symm; have f5_ := f3_.symm; clear f1_ f2_ f3_; subst f4_; subst f5_))
                    refine hK.out _ _ ⟨HS0_, HS1_, HS2_, HS3_, HS4_, HS5_⟩ (fun hHeld => ?_)
                    clear hK K
                    refine norm_ (a' := ?_) ?_ ?_
                    rotate_left
                    · show Act.put _ (some 62) _ = _
                      simp only [Act.put, List.setIfInBounds_toArray, List.set_cons_zero, List.set_cons_succ, i64_w, i32_w]
                      rfl
                    refine one_ (i := 8) (N := some 64) (tf 16 1) rfl rfl (one_of HT_.out (by kernel_rfl)) (by decide) (fun K hK => ?_)
                    refine goes_ Tryd.func57 (by kernel_rfl) rfl #[.slice Ao25 t367.length co25, .int .i64 t358] (by rfl) rfl rfl argsA ?_
                    with_reducible refine (laws_lpAmong.calls k2 _ _ t367 t358 t370 _ ?side1 ?side2 A18.out).mono ?_
                    (case side1 => repeat (first | exact (Kd.R_reads' HO369.out).2.2 | (with_reducible refine Kd.C_alloc ?_ _) | (with_reducible refine Kd.C_drewN ?_ _) | (with_reducible refine Kd.C_drew ?_)))
                    (case side2 => exact (Kd.R_reads' HO369.out).2.1)
                    rintro e w' ⟨rfl, ⟨nd, rfl⟩⟩
                    refine ⟨_, rfl, ?_⟩
                    refine hK.out _ _ ⟨hHeld.1, hHeld.2.1, hHeld.2.2.1, hHeld.2.2.2.1, hHeld.2.2.2.2.1, hHeld.2.2.2.2.2⟩ (fun hHeld => ?_)
                    clear hK K
                    refine norm_ (a' := ?_) ?_ ?_
                    rotate_left
                    · show Act.put _ (some 64) _ = _
                      simp only [Act.put, List.setIfInBounds_toArray, List.set_cons_zero, List.set_cons_succ, i64_w, i32_w]
                      rfl
                    refine pure_ (i := 16) (N := some 72) (tf 17 0) rfl rfl (any_of HT_.out (by kernel_rfl)) (fun _ _ _ h => h) yldA putA ?_
                    refine done_ (done_of HT_.out (by kernel_rfl)) ?_
                    try go_wp2
                    go_roundg k2
                    case measure => have := HJ5.out; have := HK2.out; omega
                    case rel => exact ⟨(wrap64 (x9_2 + 1)), (by first | rfl | (simp; done) | (simp [*]; done)), H', ⟨by have := HJ5.out; have := HK2.out; omega⟩, ⟨by (with_reducible repeat (first | apply Kd.Q_alloc | apply Kd.Q_drewN | apply Kd.Q_drew)); exact HO_3.out⟩, ⟨belowA⟩⟩
                · rw [if_neg c16] at H
                  exact absurd H (by simp)
              · rw [if_neg c15] at H
                have c15b0 : decide (x9_2 < (t357.length : Int)) = false := decide_eq_false c15
                clear c15
                replace H := Option.bind_eq_some_iff.mp H
                obtain ⟨t365, A260, H⟩ := H
                (try dsimp only at H)
                have A26 := Aside0.mk A260
                clear A260
                obtain rfl := Option.some.inj H
                go_wp2_with (first | ((with_reducible refine gate_callee (f := 43) rfl ?_); refine goesL_ (some 75) rfl rfl Tryd.func43 (by kernel_rfl) rfl #[.slice Ao8 t357.length co8, .int .i64 t358] rfl argsA ?_; (with_reducible refine (laws_lpAt.calls k2 _ _ t357 t358 t365 _ ?side1 ?side2 A26.out).mono ?_); (case side1 => repeat (first | exact (Kd.Q_reads' HO_3.out).2.2 | (with_reducible refine Kd.C_alloc ?_ _) | (with_reducible refine Kd.C_drewN ?_ _) | (with_reducible refine Kd.C_drew ?_))); (case side2 => exact (Kd.Q_reads' HO_3.out).2.1); rintro e w' ⟨rfl, ⟨nd, rfl⟩⟩; refine ⟨_, rfl, ?_⟩))
                go_ret
                exact ⟨endA, belowA⟩
def laws_FnTreeUp.Pure : Prop := ∀ (l0 : List Int), (l0.length * 1 ≤ 140737488351232) → (∀ x_ ∈ l0, (Lit.int .u8 x_).wf = true) → ∃ k, laws_FnTreeUp.f k l0 = some true
theorem laws_FnTreeUp.walk (P : laws_FnTreeUp.Pure) (A0 : Option Addr) (c0 : Nat) (l0 : List Int) (w : World) (hr0 : Kd.C (Kd.int .u8) w A0 l0.length l0) (hc0 : l0.length ≤ c0) (ht : TabOk w) (w0_0 : l0.length * 1 ≤ 140737488351232) (w0_1 : ∀ x_ ∈ l0, (Lit.int .u8 x_).wf = true) :
    Calls Tryd.prog 18 #[.slice A0 l0.length c0] w fun e w' => e = .returned (.bool true) ∧ Below w.heap.size w w' := by
  obtain ⟨k, h⟩ := P l0 w0_0 w0_1
  refine (laws_FnTreeUp.calls k A0 c0 l0 true w hr0 hc0 ht h).mono ?_
  rintro e w' ⟨rfl, hd⟩
  exact ⟨rfl, hd⟩

end Go.Proofs.YtaajcbbbmpdcnaaDoor.P
