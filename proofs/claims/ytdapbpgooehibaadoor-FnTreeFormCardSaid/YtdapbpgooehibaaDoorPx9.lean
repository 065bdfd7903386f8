-- Written by wip/tools/pprint.py (a program of this session) over the kit's printer; not trusted: Lean checks it.
import Derived.Test.YtdapbpgooehibaaDoorPx0
import Derived.Test.YtdapbpgooehibaaDoorPx6
import Derived.Test.YtdapbpgooehibaaDoorPx7
import Derived.Test.YtdapbpgooehibaaDoorPx8
import Derived.Test.YtdapbpgooehibaaDoorV
namespace Go.Proofs.YtdapbpgooehibaaDoor.P
open Go.RowKit Go.Proofs.YtdapbpgooehibaaDoorW.PrintWords Go.Proofs.YtdapbpgooehibaaDoorW.PrintLast Go.Proofs.YtdapbpgooehibaaDoorW.PrintMore
attribute [local go_sem] cell_set_set cell_set_far_set max2_int min2_int max_two min_two max_three min_three max_four min_four   -- for this text's walks alone
set_option linter.unusedVariables false
set_option linter.unusedSimpArgs false

/-! ### laws_FnTreeForm: function 3 -/
mutual
def laws_FnTreeForm.j0 : Nat → List Int → List Int → Bool → Option (Bool)
  | 0, _, _, _ => none
  | k + 1, x0, x1, x18 => if x18 = true then (some true) else ((spec_DrawTreeOk.f k x0).bind fun t329 => ((impl_TreeOk.f t329).bind fun t332 => ((spec_TreeOk.f k t329).bind fun t333 => (if (t332 != t333) = true then (laws_FnTreeForm.j1 k x1 t329 t332 true) else (laws_FnTreeForm.j1 k x1 t329 t332 (!t332))))))
def laws_FnTreeForm.j1 : Nat → List Int → List (S29) → Bool → Bool → Option (Bool)
  | 0, _, _, _, _ => none
  | k + 1, x1, x5, x6, x30 => if x30 = true then ((spec_TreeOk.f k x5).bind fun t334 => (some (x6 == t334))) else (laws_FnTreeForm.l0 k x1 x5 0)
def laws_FnTreeForm.l0 : Nat → List Int → List (S29) → Int → Option (Bool)
  | 0, _, _, _ => none
  | k + 1, x1, x5, x7 => if x7 < (x5.length : Int) then (if 0 ≤ x7 then ((impl_TreeUp.f x5 ((rd_T29 x5 x7).f0)).bind fun bt336 => (if bt336.2 = true then ((laws_lpAt.f k x5 ((rd_T29 x5 x7).f0)).bind fun t339 => (if t339 = x7 then (if ((bt336.1 == 0) != (((rd_T29 x5 x7).f1) == 0)) = true then (some false) else (if bt336.1 > 0 then ((laws_lpAt.f k x5 bt336.1).bind fun t341 => (if 0 ≤ t341 then (if t341 < (x5.length : Int) then (if ((rd_T29 x5 t341).f1) = (wrap64 (((rd_T29 x5 x7).f1) - 1)) then (laws_FnTreeForm.l0 k x1 x5 (wrap64 (x7 + 1))) else (some false)) else (none)) else (none))) else (laws_FnTreeForm.l0 k x1 x5 (wrap64 (x7 + 1))))) else (some false))) else (some false))) else (none)) else (if (x5.length : Int) = 0 then (none) else ((some (([] : List (S29)) : List (S29))).bind fun y344 => (if y344.length + x5.length < 4398046511104 then ((some (y344 ++ x5 : List (S29))).bind fun y347 => (if 0 ≤ ((x1.length : Int) % (x5.length : Int)) then (if ((x1.length : Int) % (x5.length : Int)) < (x5.length : Int) then ((some (([(⟨(rd_T29 x5 ((x1.length : Int) % (x5.length : Int))).f0, (rd_T29 x5 ((x1.length : Int) % (x5.length : Int))).f1, (rd_T29 x5 ((x1.length : Int) % (x5.length : Int))).f2⟩ : S29)] : List (S29)) : List (S29))).bind fun y351 => (if y347.length + y351.length < 4398046511104 then ((impl_TreeOk.f (y347 ++ y351)).bind fun t357 => (if t357 = true then (some false) else (if 1 ≤ (x5.length : Int) then ((impl_TreeOk.f (x5.drop 1)).bind fun t362 => (if t362 = true then (some false) else ((impl_TreeNew.f).bind fun t363 => ((impl_TreeOk.f t363).bind fun t366 => (some t366))))) else (none)))) else (none))) else (none)) else (none))) else (none))))
end
def laws_FnTreeForm.f (k : Nat) (l0 : List Int) (l1 : List Int) : Option (Bool) := if (l0.length : Int) > 1048576 then (laws_FnTreeForm.j0 k l0 l1 true) else (laws_FnTreeForm.j0 k l0 l1 (decide ((l1.length : Int) > 1048576)))
theorem laws_FnTreeForm.mono_l : ∀ k, (∀ y0 y1 y2, LeO (laws_FnTreeForm.j0 k y0 y1 y2) (laws_FnTreeForm.j0 (k + 1) y0 y1 y2)) ∧ (∀ y0 y1 y2 y3, LeO (laws_FnTreeForm.j1 k y0 y1 y2 y3) (laws_FnTreeForm.j1 (k + 1) y0 y1 y2 y3)) ∧ (∀ y0 y1 y2, LeO (laws_FnTreeForm.l0 k y0 y1 y2) (laws_FnTreeForm.l0 (k + 1) y0 y1 y2))
  | 0 => ⟨fun _ _ _ r h => by simp [laws_FnTreeForm.j0] at h, fun _ _ _ _ r h => by simp [laws_FnTreeForm.j1] at h, fun _ _ _ r h => by simp [laws_FnTreeForm.l0] at h⟩
  | k + 1 => by
    obtain ⟨ih0, ih1, ih2⟩ := laws_FnTreeForm.mono_l k
    refine ⟨?_, ?_, ?_⟩
    · intro y0 y1 y2
      unfold laws_FnTreeForm.j0
      repeat' first
      | (with_reducible exact ih0 _ _ _)
      | (with_reducible exact ih1 _ _ _ _)
      | (with_reducible exact ih2 _ _ _)
      | (with_reducible exact laws_lpAt.mono _ _ _)
      | (with_reducible exact spec_DrawTreeOk.mono _ _)
      | (with_reducible exact spec_TreeOk.mono _ _)
      | (with_reducible exact LeO.refl _)
      | (with_reducible exact LeO.none _)
      | (with_reducible refine LeO.ite ?_ ?_)
      | (with_reducible refine LeO.bind ?_ (fun _ => ?_))
      | exact ih0 _ _ _
      | exact ih1 _ _ _ _
      | exact ih2 _ _ _
      | exact laws_lpAt.mono _ _ _
      | exact spec_DrawTreeOk.mono _ _
      | exact spec_TreeOk.mono _ _
      | exact LeO.none _
      | refine LeO.ite ?_ ?_
      | refine LeO.bind ?_ (fun _ => ?_)
    · intro y0 y1 y2 y3
      unfold laws_FnTreeForm.j1
      repeat' first
      | (with_reducible exact ih0 _ _ _)
      | (with_reducible exact ih1 _ _ _ _)
      | (with_reducible exact ih2 _ _ _)
      | (with_reducible exact laws_lpAt.mono _ _ _)
      | (with_reducible exact spec_DrawTreeOk.mono _ _)
      | (with_reducible exact spec_TreeOk.mono _ _)
      | (with_reducible exact LeO.refl _)
      | (with_reducible exact LeO.none _)
      | (with_reducible refine LeO.ite ?_ ?_)
      | (with_reducible refine LeO.bind ?_ (fun _ => ?_))
      | exact ih0 _ _ _
      | exact ih1 _ _ _ _
      | exact ih2 _ _ _
      | exact laws_lpAt.mono _ _ _
      | exact spec_DrawTreeOk.mono _ _
      | exact spec_TreeOk.mono _ _
      | exact LeO.none _
      | refine LeO.ite ?_ ?_
      | refine LeO.bind ?_ (fun _ => ?_)
    · intro y0 y1 y2
      unfold laws_FnTreeForm.l0
      repeat' first
      | (with_reducible exact ih0 _ _ _)
      | (with_reducible exact ih1 _ _ _ _)
      | (with_reducible exact ih2 _ _ _)
      | (with_reducible exact laws_lpAt.mono _ _ _)
      | (with_reducible exact spec_DrawTreeOk.mono _ _)
      | (with_reducible exact spec_TreeOk.mono _ _)
      | (with_reducible exact LeO.refl _)
      | (with_reducible exact LeO.none _)
      | (with_reducible refine LeO.ite ?_ ?_)
      | (with_reducible refine LeO.bind ?_ (fun _ => ?_))
      | exact ih0 _ _ _
      | exact ih1 _ _ _ _
      | exact ih2 _ _ _
      | exact laws_lpAt.mono _ _ _
      | exact spec_DrawTreeOk.mono _ _
      | exact spec_TreeOk.mono _ _
      | exact LeO.none _
      | refine LeO.ite ?_ ?_
      | refine LeO.bind ?_ (fun _ => ?_)
theorem laws_FnTreeForm.mono : ∀ a0 a1 k, LeO (laws_FnTreeForm.f k a0 a1) (laws_FnTreeForm.f (k + 1) a0 a1) := by
  intro a0 a1 k
  obtain ⟨ih0, ih1, ih2⟩ := laws_FnTreeForm.mono_l k
  unfold laws_FnTreeForm.f
  repeat' first
      | (with_reducible exact ih0 _ _ _)
      | (with_reducible exact ih1 _ _ _ _)
      | (with_reducible exact ih2 _ _ _)
      | (with_reducible exact laws_lpAt.mono _ _ _)
      | (with_reducible exact spec_DrawTreeOk.mono _ _)
      | (with_reducible exact spec_TreeOk.mono _ _)
      | (with_reducible exact LeO.refl _)
      | (with_reducible exact LeO.none _)
      | (with_reducible refine LeO.ite ?_ ?_)
      | (with_reducible refine LeO.bind ?_ (fun _ => ?_))
      | exact ih0 _ _ _
      | exact ih1 _ _ _ _
      | exact ih2 _ _ _
      | exact laws_lpAt.mono _ _ _
      | exact spec_DrawTreeOk.mono _ _
      | exact spec_TreeOk.mono _ _
      | exact LeO.none _
      | refine LeO.ite ?_ ?_
      | refine LeO.bind ?_ (fun _ => ?_)
def laws_FnTreeForm.T11 : Bool × List (List Nat × List Nat) := (true, [([], []), ([0], [0]), ([1], [1]), ([2], [2]), ([2], [2]), ([2], [2]), ([4, 5, 2], [2, 4, 5]), ([6, 2], [2, 6]), ([7, 2], [2, 7]), ([3, 8, 2, 2], [2, 3, 8]), ([2], [2]), ([9, 10, 2], [2, 9, 10]), ([2, 11], [2, 11]), ([12, 9], [12]), ([13], [13]), ([14, 13], [13, 14]), ([13], [13]), ([13], [13]), ([16, 17, 13], [13, 16, 17]), ([18, 13], [13, 18]), ([19, 13], [13, 19]), ([20, 13], [13, 20]), ([15, 21, 13], [13, 15, 21]), ([13, 22], [13, 22]), ([23, 13], [23]), ([24], [24]), ([25, 24], [24, 25]), ([26, 24, 24], [24, 26]), ([27], [27]), ([27], [27]), ([27], [27]), ([29, 30, 27, 27], [27, 29, 30]), ([28, 31, 27], [27, 28, 31]), ([32, 27], [27, 32]), ([33, 27], [27, 33]), ([27], [27]), ([27], [27]), ([35, 36, 27], [27, 35, 36]), ([37, 27], [27, 37]), ([38, 27], [27, 38]), ([39, 27], [27, 39]), ([34, 40, 27], [27, 34, 40]), ([27, 41, 24], [24, 27, 41]), ([24, 42], [24, 42])])
def laws_FnTreeForm.B11 : List Nat := [0, 1, 3, 7, 7, 7, 55, 119, 247, 511, 7, 2047, 4095, 8191, 16383, 32767, 16383, 16383, 212991, 475135, 999423, 2047999, 4194303, 8388607, 16777215, 33554431, 67108863, 134217727, 268435455, 268435455, 268435455, 1879048191, 4294967295, 8589934591, 17179869183, 268435455, 268435455, 103347650559, 240786604031, 515664510975, 1065420324863, 2199023255551, 4398046511103, 8796093022207]
theorem laws_FnTreeForm.tab11 : rtab .any (opsOf Tryd.f3 11) = laws_FnTreeForm.T11 := by kernel_rfl
theorem laws_FnTreeForm.bits11 : waitsOk laws_FnTreeForm.T11.2 laws_FnTreeForm.B11 = true := by kernel_rfl
def laws_FnTreeForm.T14 : Bool × List (List Nat × List Nat) := (true, [([], []), ([], []), ([0, 1], [0, 1]), ([], []), ([], []), ([3, 4], [3, 4]), ([5], [5]), ([6], [6]), ([2, 7, 2], [2, 7]), ([8, 8], [8]), ([9], [9]), ([10, 9], [10]), ([11], [11]), ([12, 11], [11, 12]), ([13, 11, 11], [11, 13]), ([14, 11], [11, 14]), ([11, 15], [11, 15]), ([16, 14], [16]), ([17, 17], [17]), ([18, 18, 17], [17, 18]), ([17, 19], [17, 19]), ([20, 19, 0, 1, 2, 3, 4, 5, 6, 7, 8, 9, 10, 11, 12, 13, 14, 15, 16, 17, 18, 19, 20], [20])])
def laws_FnTreeForm.B14 : List Nat := [0, 0, 3, 0, 0, 24, 56, 120, 255, 511, 1023, 2047, 4095, 8191, 16383, 32767, 65535, 131071, 262143, 524287, 1048575, 2097151]
theorem laws_FnTreeForm.tab14 : rtab .any (opsOf Tryd.f3 14) = laws_FnTreeForm.T14 := by kernel_rfl
theorem laws_FnTreeForm.bits14 : waitsOk laws_FnTreeForm.T14.2 laws_FnTreeForm.B14 = true := by kernel_rfl
set_option maxHeartbeats 8000000 in
set_option maxRecDepth 100000 in
theorem laws_FnTreeForm.calls (k : Nat) (A0 : Option Addr) (c0 : Nat) (l0 : List Int) (A1 : Option Addr) (c1 : Nat) (l1 : List Int) (r : Bool) (w : World) (hr0 : Kd.C (Kd.int .u8) w A0 l0.length l0) (hc0 : l0.length ≤ c0) (hr1 : Kd.C (Kd.int .u8) w A1 l1.length l1) (hc1 : l1.length ≤ c1) (ht : TabOk w) (h : laws_FnTreeForm.f k l0 l1 = some r) :
    Calls Tryd.prog 3 #[.slice A0 l0.length c0, .slice A1 l1.length c1] w fun e w' => e = .returned (.bool r) ∧ Below w.heap.size w w' := by
  have hu29 := Tryd.underlying29
  have HR0 := Aside0.mk hr0
  have HC0 := Aside0.mk hc0
  clear hr0 hc0
  have HR1 := Aside0.mk hr1
  have HC1 := Aside0.mk hc1
  clear hr1 hc1
  have HT := Aside0.mk ht
  clear ht
  have HB := Aside0.mk (Below.refl w.heap.size w)
  have H : (if (l0.length : Int) > 1048576 then (laws_FnTreeForm.j0 k l0 l1 true) else (laws_FnTreeForm.j0 k l0 l1 (decide ((l1.length : Int) > 1048576)))) = some r := h
  clear h
  have HC3 := Aside0.mk H
  clear H
  go_enter Tryd.func3, Tryd.ntmps3
  go_upto_region 1 with (fail)
  go_cut [18] (fun v18 wc => ∃ (kq : Nat) (x18_2 : Bool), v18 = .bool x18_2 ∧ Aside0 (laws_FnTreeForm.j0 kq l0 l1 x18_2 = some r) ∧ Aside0 (kq ≤ k) ∧ Aside0 (Below w.heap.size w wc))
  case first =>
    have H := HC3.out
    clear HC3
    by_cases c4 : (l0.length : Int) > 1048576
    · rw [if_pos c4] at H
      have c4b0 : decide (1048576 < (l0.length : Int)) = true := decide_eq_true c4
      have c4b1 : decide (1048576 < l0.length) = true := decide_eq_true (by omega)
      clear c4
      (first | rw [c4b0] | (simp only [i64_w, i32_w]; rw [c4b0]) | skip)
      have H' := Aside0.mk H
      clear H
      go_wp2
      go_meet
      case rel => exact ⟨_, (true), (by first | rfl | (simp; done) | (simp [*]; done)), H', ⟨by first | omega | exact Nat.le_refl _⟩, ⟨belowA⟩⟩
    · rw [if_neg c4] at H
      have c4b0 : decide (1048576 < (l0.length : Int)) = false := decide_eq_false c4
      have c4b1 : decide (1048576 < l0.length) = false := decide_eq_false (by omega)
      clear c4
      (first | rw [c4b0] | (simp only [i64_w, i32_w]; rw [c4b0]) | skip)
      have H' := Aside0.mk H
      clear H
      go_wp2
      go_meet
      case rel => exact ⟨_, (decide ((l1.length : Int) > 1048576)), (by first | rfl | (simp; done) | (simp [*]; done)), H', ⟨by first | omega | exact Nat.le_refl _⟩, ⟨belowA⟩⟩
  case rest =>
    clear HC3
    try clear c1
    try clear p2
    try clear c3
    try clear c4
    try clear c4b0
    try clear c4b1
    obtain ⟨kq, x18_2, rfl, HA, HJ2, HB⟩ := hcut
    cases kq with
    | zero => exact absurd HA.out (by simp [laws_FnTreeForm.j0])
    | succ kj2 =>
      have H := HA.out
      clear HA
      simp only [laws_FnTreeForm.j0] at H
      by_cases c5 : x18_2 = true
      · subst c5
        have H1 : (some true) = some r := by rw [if_pos rfl] at H; exact H
        clear H
        have H := H1
        clear H1
        obtain rfl := Option.some.inj H
        go_wp2
        go_ret
        exact ⟨endA, belowA⟩
      · replace c5 := Bool.eq_false_iff.mpr c5
        subst c5
        have H1 : ((spec_DrawTreeOk.f kj2 l0).bind fun t329 => ((impl_TreeOk.f t329).bind fun t332 => ((spec_TreeOk.f kj2 t329).bind fun t333 => (if (t332 != t333) = true then (laws_FnTreeForm.j1 kj2 l1 t329 t332 true) else (laws_FnTreeForm.j1 kj2 l1 t329 t332 (!t332)))))) = some r := by rw [if_neg (show ¬ (false = true) by decide)] at H; exact H
        clear H
        have H := H1
        clear H1
        replace H := Option.bind_eq_some_iff.mp H
        obtain ⟨t329, A60, H⟩ := H
        (try dsimp only at H)
        have A6 := Aside0.mk A60
        clear A60
        replace H := Option.bind_eq_some_iff.mp H
        obtain ⟨t332, A70, H⟩ := H
        (try dsimp only at H)
        have A7 := Aside0.mk A70
        clear A70
        have HC8 := Aside0.mk H
        clear H
        go_upto_region 5 with (first | ((with_reducible refine gate_callee (f := 9) rfl ?_); refine goesL_ (some 20) rfl rfl Tryd.func9 (by kernel_rfl) rfl #[.slice A0 l0.length c0] rfl argsA ?_; (with_reducible refine (spec_DrawTreeOk.calls kj2 _ _ l0 t329 _ ?side1 ?side2 A6.out).mono ?_); (case side1 => exact CA (Kd.C_below HR0.out HB.out)); (case side2 => exact HC0.out); rintro e w9 ⟨v330, rfl, ho0, hb⟩; refine ⟨_, rfl, ?_⟩; have n0_ := Aside0.mk (Kd.Q_lower ho0 (below_size belowA)); have n1_ := Aside0.mk (below_step belowA hb); clear HB; have HO331 := n0_; have HB := n1_; clear n0_ n1_; (try clear hb); (try clear hb2); (try clear hk); (try clear hi); (try clear ho0); obtain ⟨Ao10, co10, eo10, _⟩ := Kd.Q_slice HO331.out; subst eo10) | ((with_reducible refine gate_callee (f := 10) rfl ?_); refine goesL_ (some 22) rfl rfl Tryd.func10 (by kernel_rfl) rfl #[.slice Ao10 t329.length co10] rfl argsA ?_; (with_reducible refine (impl_TreeOk.calls _ _ t329 t332 _ ?side1 ?side2 ?side3 A7.out).mono ?_); (case side1 => repeat (first | exact (Kd.Q_reads' HO331.out).2.2 | (with_reducible refine Kd.C_alloc ?_ _) | (with_reducible refine Kd.C_drewN ?_ _) | (with_reducible refine Kd.C_drew ?_))); (case side2 => exact (Kd.Q_reads' HO331.out).2.1); (case side3 => exact TabOk.below HT.out belowA); rintro e w11 ⟨rfl, hb⟩; refine ⟨_, rfl, ?_⟩; have n0_ := Aside0.mk (Kd.Q_below (by (with_reducible repeat (first | apply Kd.Q_alloc | apply Kd.Q_drewN | apply Kd.Q_drew)); exact HO331.out) hb); have n1_ := Aside0.mk (below_step belowA hb); clear HO331; clear HB; have HO331 := n0_; have HB := n1_; clear n0_ n1_; (try clear hb); (try clear hb2); (try clear hk); (try clear hi)))
        (try simp only [Act.put, List.setIfInBounds_toArray, List.set_cons_zero, List.set_cons_succ])
        go_cut [30] (fun v30 wc => ∃ (kq : Nat) (x30_7 : Bool), v30 = .bool x30_7 ∧ Aside0 (laws_FnTreeForm.j1 kq l1 t329 t332 x30_7 = some r) ∧ Aside0 (kq ≤ kj2) ∧ Aside0 (Kd.Q k29 29 wc w.heap.size (fun _ => True) (.slice Ao10 t329.length co10) t329) ∧ Aside0 (Below w.heap.size w wc))
        case first =>
          have H := HC8.out
          clear HC8
          replace H := Option.bind_eq_some_iff.mp H
          obtain ⟨t333, A120, H⟩ := H
          (try dsimp only at H)
          have A12 := Aside0.mk A120
          clear A120
          by_cases c13 : (t332 != t333) = true
          · rw [if_pos c13] at H
            have c13b0 : (t332 != t333) = true := c13
            (try (have c13b1 : decide (t332 = t333) = false := by simpa using c13))
            (try (have c13b2 : (t332 == t333) = false := by simpa using c13))
            (try (have c13b3 : ¬ (t332 = t333) := by simpa using c13))
            clear c13
            (first | rw [c13b0] | (simp only [i64_w, i32_w]; rw [c13b0]) | skip)
            have H' := Aside0.mk H
            clear H
            go_wp2_with (first | ((with_reducible refine gate_callee (f := 11) rfl ?_); refine goesL_ (some 25) rfl rfl Tryd.func11 (by kernel_rfl) rfl #[.slice Ao10 t329.length co10] rfl argsA ?_; (with_reducible refine (spec_TreeOk.calls kj2 _ _ t329 t333 _ ?side1 ?side2 A12.out).mono ?_); (case side1 => repeat (first | exact (Kd.Q_reads' HO331.out).2.2 | (with_reducible refine Kd.C_alloc ?_ _) | (with_reducible refine Kd.C_drewN ?_ _) | (with_reducible refine Kd.C_drew ?_))); (case side2 => exact (Kd.Q_reads' HO331.out).2.1); rintro e w14 ⟨rfl, hb⟩; refine ⟨_, rfl, ?_⟩; have n0_ := Aside0.mk (Kd.Q_below (by (with_reducible repeat (first | apply Kd.Q_alloc | apply Kd.Q_drewN | apply Kd.Q_drew)); exact HO331.out) hb); have n1_ := Aside0.mk (below_step belowA hb); clear HO331; clear HB; have HO331 := n0_; have HB := n1_; clear n0_ n1_; (try clear hb); (try clear hb2); (try clear hk); (try clear hi)))
            go_meet
            case rel => exact ⟨_, (true), (by first | rfl | (simp; done) | (simp [*]; done)), H', ⟨by have := HJ2.out; first | omega | exact Nat.le_refl _⟩, ⟨by (with_reducible repeat (first | apply Kd.Q_alloc | apply Kd.Q_drewN | apply Kd.Q_drew)); exact HO331.out⟩, ⟨belowA⟩⟩
          · rw [if_neg c13] at H
            have c13b0 : (t332 != t333) = false := by simpa using c13
            (try (have c13b1 : decide (t332 = t333) = true := by simpa using c13))
            (try (have c13b2 : (t332 == t333) = true := by simpa using c13))
            clear c13
            (first | rw [c13b0] | (simp only [i64_w, i32_w]; rw [c13b0]) | skip)
            have H' := Aside0.mk H
            clear H
            go_wp2_with (first | ((with_reducible refine gate_callee (f := 11) rfl ?_); refine goesL_ (some 25) rfl rfl Tryd.func11 (by kernel_rfl) rfl #[.slice Ao10 t329.length co10] rfl argsA ?_; (with_reducible refine (spec_TreeOk.calls kj2 _ _ t329 t333 _ ?side1 ?side2 A12.out).mono ?_); (case side1 => repeat (first | exact (Kd.Q_reads' HO331.out).2.2 | (with_reducible refine Kd.C_alloc ?_ _) | (with_reducible refine Kd.C_drewN ?_ _) | (with_reducible refine Kd.C_drew ?_))); (case side2 => exact (Kd.Q_reads' HO331.out).2.1); rintro e w15 ⟨rfl, hb⟩; refine ⟨_, rfl, ?_⟩; have n0_ := Aside0.mk (Kd.Q_below (by (with_reducible repeat (first | apply Kd.Q_alloc | apply Kd.Q_drewN | apply Kd.Q_drew)); exact HO331.out) hb); have n1_ := Aside0.mk (below_step belowA hb); clear HO331; clear HB; have HO331 := n0_; have HB := n1_; clear n0_ n1_; (try clear hb); (try clear hb2); (try clear hk); (try clear hi)))
            go_meet
            case rel => exact ⟨_, (!t332), (by first | rfl | (simp; done) | (simp [*]; done)), H', ⟨by have := HJ2.out; first | omega | exact Nat.le_refl _⟩, ⟨by (with_reducible repeat (first | apply Kd.Q_alloc | apply Kd.Q_drewN | apply Kd.Q_drew)); exact HO331.out⟩, ⟨belowA⟩⟩
        case rest =>
          clear HC8
          try clear c1
          try clear p2
          try clear c3
          try clear c4
          try clear c4b0
          try clear c4b1
          try clear c5
          try clear c9
          try clear c10
          try clear c11
          try clear c13
          try clear c13b0
          try clear c13b1
          try clear c13b2
          try clear p2
          obtain ⟨kq, x30_7, rfl, HA, HJ7, HO_5, HB⟩ := hcut
          cases kq with
          | zero => exact absurd HA.out (by simp [laws_FnTreeForm.j1])
          | succ kj7 =>
            have H := HA.out
            clear HA
            simp only [laws_FnTreeForm.j1] at H
            by_cases c16 : x30_7 = true
            · subst c16
              have H1 : ((spec_TreeOk.f kj7 t329).bind fun t334 => (some (t332 == t334))) = some r := by rw [if_pos rfl] at H; exact H
              clear H
              have H := H1
              clear H1
              replace H := Option.bind_eq_some_iff.mp H
              obtain ⟨t334, A170, H⟩ := H
              (try dsimp only at H)
              have A17 := Aside0.mk A170
              clear A170
              obtain rfl := Option.some.inj H
              go_wp2_with (first | ((with_reducible refine gate_callee (f := 11) rfl ?_); refine goesL_ (some 33) rfl rfl Tryd.func11 (by kernel_rfl) rfl #[.slice Ao10 t329.length co10] rfl argsA ?_; (with_reducible refine (spec_TreeOk.calls kj7 _ _ t329 t334 _ ?side1 ?side2 A17.out).mono ?_); (case side1 => repeat (first | exact (Kd.Q_reads' HO_5.out).2.2 | (with_reducible refine Kd.C_alloc ?_ _) | (with_reducible refine Kd.C_drewN ?_ _) | (with_reducible refine Kd.C_drew ?_))); (case side2 => exact (Kd.Q_reads' HO_5.out).2.1); rintro e w18 ⟨rfl, hb⟩; refine ⟨_, rfl, ?_⟩; have n0_ := Aside0.mk (Kd.Q_below (by (with_reducible repeat (first | apply Kd.Q_alloc | apply Kd.Q_drewN | apply Kd.Q_drew)); exact HO_5.out) hb); have n1_ := Aside0.mk (below_step belowA hb); clear HO_5; clear HB; have HO_5 := n0_; have HB := n1_; clear n0_ n1_; (try clear hb); (try clear hb2); (try clear hk); (try clear hi)))
              go_ret
              exact ⟨endA, belowA⟩
            · replace c16 := Bool.eq_false_iff.mpr c16
              subst c16
              have H1 : (laws_FnTreeForm.l0 kj7 l1 t329 0) = some r := by rw [if_neg (show ¬ (false = true) by decide)] at H; exact H
              clear H
              have H := H1
              clear H1
              have H' := Aside0.mk H
              clear H
              go_wp2
              go_loopg [7] kj7 (fun kq v7 w' => ∃ (x7_3 : Int), v7 = .int .i64 x7_3 ∧ Aside0 (laws_FnTreeForm.l0 kq l1 t329 x7_3 = some r) ∧ Aside0 (kq ≤ kj7) ∧ Aside0 (Kd.Q k29 29 w' w.heap.size (fun _ => True) (.slice Ao10 t329.length co10) t329) ∧ Aside0 (Below w.heap.size w w'))
              case atStart => exact ⟨(0), (by first | rfl | (simp; done) | (simp [*]; done)), H', ⟨Nat.le_refl _⟩, ⟨by (with_reducible repeat (first | apply Kd.Q_alloc | apply Kd.Q_drewN | apply Kd.Q_drew)); exact HO_5.out⟩, ⟨belowA⟩⟩
              case round =>
                clear H'
                try clear c1
                try clear p2
                try clear c3
                try clear c4
                try clear c4b0
                try clear c4b1
                try clear c5
                try clear c9
                try clear c10
                try clear c11
                try clear c13
                try clear c13b0
                try clear c13b1
                try clear c13b2
                try clear c16
                try clear p2
                obtain ⟨x7_3, rfl, HA, HK3, HO_5, HB⟩ := hrel
                cases gk with
                | zero => exact absurd HA.out (by simp [laws_FnTreeForm.l0])
                | succ k3 =>
                  have H := HA.out
                  clear HA
                  simp only [laws_FnTreeForm.l0] at H
                  by_cases c19 : x7_3 < (t329.length : Int)
                  · rw [if_pos c19] at H
                    have c19b0 : decide (x7_3 < (t329.length : Int)) = true := decide_eq_true c19
                    clear c19
                    by_cases c20 : 0 ≤ x7_3
                    · rw [if_pos c20] at H
                      have c20b0 : decide (0 ≤ x7_3) = true := decide_eq_true c20
                      clear c20
                      replace H := Option.bind_eq_some_iff.mp H
                      obtain ⟨⟨t336, t337⟩, A210, H⟩ := H
                      (try dsimp only at H)
                      have A21 := Aside0.mk A210
                      clear A210
                      by_cases c22 : t337 = true
                      · subst c22
                        have H1 : ((laws_lpAt.f k3 t329 ((rd_T29 t329 x7_3).f0)).bind fun t339 => (if t339 = x7_3 then (if ((t336 == 0) != (((rd_T29 t329 x7_3).f1) == 0)) = true then (some false) else (if t336 > 0 then ((laws_lpAt.f k3 t329 t336).bind fun t341 => (if 0 ≤ t341 then (if t341 < (t329.length : Int) then (if ((rd_T29 t329 t341).f1) = (wrap64 (((rd_T29 t329 x7_3).f1) - 1)) then (laws_FnTreeForm.l0 k3 l1 t329 (wrap64 (x7_3 + 1))) else (some false)) else (none)) else (none))) else (laws_FnTreeForm.l0 k3 l1 t329 (wrap64 (x7_3 + 1))))) else (some false))) = some r := by rw [if_pos rfl] at H; exact H
                        clear H
                        have H := H1
                        clear H1
                        replace H := Option.bind_eq_some_iff.mp H
                        obtain ⟨t339, A230, H⟩ := H
                        (try dsimp only at H)
                        have A23 := Aside0.mk A230
                        clear A230
                        by_cases c24 : t339 = x7_3
                        · rw [if_pos c24] at H
                          have c24b0 : (t339 == x7_3) = true := beq_iff_eq.mpr c24
                          have c24b1 : (t339 != x7_3) = false := bne_eq_false_iff_eq.mpr c24
                          clear c24
                          by_cases c25 : ((t336 == 0) != (((rd_T29 t329 x7_3).f1) == 0)) = true
                          · rw [if_pos c25] at H
                            have c25b0 : ((t336 == 0) != (((rd_T29 t329 x7_3).f1) == 0)) = true := c25
                            (try (have c25b1 : decide ((t336 == 0) = (((rd_T29 t329 x7_3).f1) == 0)) = false := by simpa using c25))
                            (try (have c25b2 : ((t336 == 0) == (((rd_T29 t329 x7_3).f1) == 0)) = false := by simpa using c25))
                            (try (have c25b3 : ¬ ((t336 == 0) = (((rd_T29 t329 x7_3).f1) == 0)) := by simpa using c25))
                            clear c25
                            obtain rfl := Option.some.inj H
                            have p335 : 0 ≤ (x7_3 : Int) := of_decide_eq_true (by first | (with_reducible assumption) | assumption)
                            have q335 : x7_3 < (t329.length : Int) := of_decide_eq_true (by first | (with_reducible assumption) | assumption)
                            obtain ⟨ad335, e335, hx335_0, hx335_1, hx335_2⟩ := at_T29 (Kd.Q_reads' HO_5.out).2.2 x7_3 p335 q335
                            cases e335
                            replace p335 := eq_true p335
                            replace q335 := eq_true q335
                            try go_wp2_with (first | ((with_reducible refine gate_callee (f := 12) rfl ?_); refine goesL_ (some 48) rfl rfl Tryd.func12 (by kernel_rfl) rfl #[.slice (some ad335) t329.length co10, .int .i64 ((rd_T29 t329 x7_3).f0)] rfl argsA ?_; (with_reducible refine (impl_TreeUp.calls _ _ t329 ((rd_T29 t329 x7_3).f0) t336 true _ ?side1 ?side2 ?side3 A21.out).mono ?_); (case side1 => repeat (first | exact (Kd.Q_reads' HO_5.out).2.2 | (with_reducible refine Kd.C_alloc ?_ _) | (with_reducible refine Kd.C_drewN ?_ _) | (with_reducible refine Kd.C_drew ?_))); (case side2 => exact (Kd.Q_reads' HO_5.out).2.1); (case side3 => exact TabOk.below HT.out belowA); rintro e w26 ⟨rfl, hb⟩; refine ⟨_, rfl, ?_⟩; have n0_ := Aside0.mk (Kd.Q_below (by (with_reducible repeat (first | apply Kd.Q_alloc | apply Kd.Q_drewN | apply Kd.Q_drew)); exact HO_5.out) hb); have n1_ := Aside0.mk (below_step belowA hb); clear HO_5; clear HB; have HO_5 := n0_; have HB := n1_; clear n0_ n1_; (try clear hb); (try clear hb2); (try clear hk); (try clear hi)))
                            have n0_ := Aside0.mk (Kd.Q_drew HO_5.out)
                            have n1_ := Aside0.mk (below_drew1 HB.out)
                            clear HO_5
                            clear HB
                            have HO_5 := n0_
                            have HB := n1_
                            clear n0_ n1_
                            have p338 : 0 ≤ (x7_3 : Int) := of_decide_eq_true (by first | (with_reducible assumption) | assumption)
                            have q338 : x7_3 < (t329.length : Int) := of_decide_eq_true (by first | (with_reducible assumption) | assumption)
                            obtain ⟨ad338, e338, hx338_0, hx338_1, hx338_2⟩ := at_T29 (Kd.Q_reads' HO_5.out).2.2 x7_3 p338 q338
                            obtain rfl : ad335 = ad338 := (by injection e338)
                            replace p338 := eq_true p338
                            replace q338 := eq_true q338
                            have p340 : 0 ≤ (x7_3 : Int) := of_decide_eq_true (by first | (with_reducible assumption) | assumption)
                            have q340 : x7_3 < (t329.length : Int) := of_decide_eq_true (by first | (with_reducible assumption) | assumption)
                            obtain ⟨ad340, e340, hx340_0, hx340_1, hx340_2⟩ := at_T29 (Kd.Q_reads' HO_5.out).2.2 x7_3 p340 q340
                            obtain rfl : ad335 = ad340 := (by injection e340)
                            replace p340 := eq_true p340
                            replace q340 := eq_true q340
                            refine start_ (n := 44) (S := fun w' => w'.cell? (ad335.add ((x7_3).toNat * 3)) = some (.int .i64 ((rd_T29 t329 x7_3).f0)) ∧ w'.cell? ⟨(ad335.add ((x7_3).toNat * 3)).block, (ad335.add ((x7_3).toNat * 3)).off + 1, none⟩ = some (.int .i64 ((rd_T29 t329 x7_3).f1)) ∧ w'.cell? ⟨(ad335.add ((x7_3).toNat * 3)).block, (ad335.add ((x7_3).toNat * 3)).off + 2, none⟩ = some (.string ((rd_T29 t329 x7_3).f2)) ∧ w'.cell? (ad335.add ((x7_3).toNat * 3)) = some (.int .i64 ((rd_T29 t329 x7_3).f0)) ∧ w'.cell? ⟨(ad335.add ((x7_3).toNat * 3)).block, (ad335.add ((x7_3).toNat * 3)).off + 1, none⟩ = some (.int .i64 ((rd_T29 t329 x7_3).f1)) ∧ w'.cell? ⟨(ad335.add ((x7_3).toNat * 3)).block, (ad335.add ((x7_3).toNat * 3)).off + 2, none⟩ = some (.string ((rd_T29 t329 x7_3).f2))) (ds := []) (tf 0 44) (by kernel_rfl) rfl rfl ⟨hx338_0, hx338_1, hx338_2, hx340_0, hx340_1, hx340_2⟩ (fun hHeld => ?_); refine with_tabW laws_FnTreeForm.tab11 laws_FnTreeForm.bits11 (fun HT_ HW_ => ?_)
                            generalize w26.drew = w27 at HO_5 HB hx338_0 hx338_1 hx338_2 hx340_0 hx340_1 hx340_2 hHeld ⊢
                            refine pure_ (i := 0) (N := some 51) (tf 1 43) rfl rfl (anA HT_) (fun _ _ _ h => h) yldA putA ?_
                            refine pure_ (i := 1) (N := some 52) (tf 2 42) rfl rfl (anA HT_) (fun _ _ _ h => h) yldA putA ?_
                            refine pure_ (i := 2) (N := some 53) (tf 3 41) rfl rfl (anA HT_) (fun _ _ _ h => h) yldA putA ?_
                            refine pure_ (i := 3) (N := some 54) (tf 4 40) rfl rfl (anA HT_) (fun _ _ _ h => h) yldA putA ?_
                            refine pure_ (i := 4) (N := some 55) (tf 5 39) rfl rfl (anA HT_) (fun _ _ _ h => h) yldA putA ?_
                            refine pure_ (i := 5) (N := some 56) (tf 6 38) rfl rfl (anA HT_) (fun _ _ _ h => h) yldA putA ?_
                            refine pure_ (i := 6) (N := some 57) (tf 7 37) rfl rfl (anA HT_) (fun _ _ _ h => h) yldA putA ?_
                            refine pure_ (i := 7) (N := some 58) (tf 8 36) rfl rfl (anA HT_) (fun _ _ _ h => h) yldA putA ?_
                            refine pure_ (i := 10) (N := some 61) #[true, true, true, true, true, true, true, true, false, false, true, false, false, false, false, false, false, false, false, false, false, false, false, false, false, false, false, false, false, false, false, false, false, false, false, false, false, false, false, false, false, false, false, false] rfl rfl (anA HT_) (fun _ _ _ h => h) yldA putA ?_
                            refine take_ (i := 8) (N := some 59) #[true, true, true, true, true, true, true, true, true, false, true, false, false, false, false, false, false, false, false, false, false, false, false, false, false, false, false, false, false, false, false, false, false, false, false, false, false, false, false, false, false, false, false, false] rfl rfl (take_ofW HT_.out HW_.out (by kernel_rfl)) (fun _ _ _ h => h) (Or.inl ⟨by rfl, by rintro w' ⟨s0, s1, s2, s3, s4, s5⟩; go_simp; with_reducible rfl⟩) hHeld putA ?_
                            refine one_ (i := 9) (N := some 60) (tf 11 33) rfl rfl (one_of HT_.out (by kernel_rfl)) (by decide) (fun K hK => ?_)
                            refine goes_ Tryd.func13 (by kernel_rfl) rfl #[.slice (some ad335) t329.length co10, .int .i64 ((rd_T29 t329 x7_3).f0)] (by rfl) rfl rfl argsA ?_
                            with_reducible refine (laws_lpAt.calls k3 _ _ t329 ((rd_T29 t329 x7_3).f0) t339 _ ?side1 ?side2 A23.out).mono ?_
                            (case side1 => repeat (first | exact (Kd.Q_reads' HO_5.out).2.2 | (with_reducible refine Kd.C_alloc ?_ _) | (with_reducible refine Kd.C_drewN ?_ _) | (with_reducible refine Kd.C_drew ?_)))
                            (case side2 => exact (Kd.Q_reads' HO_5.out).2.1)
                            rintro e w' ⟨rfl, ⟨nd, rfl⟩⟩
                            refine ⟨_, rfl, ?_⟩
                            refine hK.out _ _ ⟨hHeld.1, hHeld.2.1, hHeld.2.2.1, hHeld.2.2.2.1, hHeld.2.2.2.2.1, hHeld.2.2.2.2.2⟩ (fun hHeld => ?_)
                            clear hK K
                            refine norm_ (a' := ?_) ?_ ?_
                            rotate_left
                            · show Act.put _ (some 60) _ = _
                              simp only [Act.put, List.setIfInBounds_toArray, List.set_cons_zero, List.set_cons_succ, i64_w, i32_w]
                              rfl
                            refine pure_ (i := 11) (N := some 62) (tf 12 32) rfl rfl (anA HT_) (fun _ _ _ h => h) yldA putA ?_
                            refine pure_ (i := 12) (N := some 63) (tf 13 31) rfl rfl (anA HT_) (fun _ _ _ h => h) yldA putA ?_
                            refine pure_ (i := 13) (N := some 64) (tf 14 30) rfl rfl (anA HT_) (fun _ _ _ h => h) yldA putA ?_
                            refine pure_ (i := 14) (N := some 65) (tf 15 29) rfl rfl (anA HT_) (fun _ _ _ h => h) yldA putA ?_
                            refine pure_ (i := 15) (N := some 66) (tf 16 28) rfl rfl (anA HT_) (fun _ _ _ h => h) yldA putA ?_
                            refine pure_ (i := 16) (N := some 67) (tf 17 27) rfl rfl (anA HT_) (fun _ _ _ h => h) yldA putA ?_
                            refine pure_ (i := 17) (N := some 68) (tf 18 26) rfl rfl (anA HT_) (fun _ _ _ h => h) yldA putA ?_
                            refine pure_ (i := 18) (N := some 69) (tf 19 25) rfl rfl (anA HT_) (fun _ _ _ h => h) yldA putA ?_
                            refine pure_ (i := 19) (N := some 70) (tf 20 24) rfl rfl (anA HT_) (fun _ _ _ h => h) yldA putA ?_
                            refine take_ (i := 20) (N := some 71) (tf 21 23) rfl rfl (take_ofW HT_.out HW_.out (by kernel_rfl)) (fun _ _ _ h => h) (Or.inl ⟨by rfl, by rintro w' ⟨s0, s1, s2, s3, s4, s5⟩; go_simp; with_reducible rfl⟩) hHeld putA ?_
                            refine pure_ (i := 21) (N := some 72) (tf 22 22) rfl rfl (anA HT_) (fun _ _ _ h => h) yldA putA ?_
                            refine pure_ (i := 22) (N := some 73) (tf 23 21) rfl rfl (anA HT_) (fun _ _ _ h => h) yldA putA ?_
                            refine pure_ (i := 23) (N := some 74) (tf 24 20) rfl rfl (anA HT_) (fun _ _ _ h => h) yldA putA ?_
                            refine pure_ (i := 24) (N := some 75) (tf 25 19) rfl rfl (anA HT_) (fun _ _ _ h => h) yldA putA ?_
                            refine pure_ (i := 25) (N := some 76) (tf 26 18) rfl rfl (anA HT_) (fun _ _ _ h => h) yldU putA ?_
                            refine pure_ (i := 26) (N := some 77) (tf 27 17) rfl rfl (anA HT_) (fun _ _ _ h => h) yldU putA ?_
                            refine pure_ (i := 27) (N := some 78) (tf 28 16) rfl rfl (anA HT_) (fun _ _ _ h => h) yldU putA ?_
                            refine pure_ (i := 28) (N := some 79) (tf 29 15) rfl rfl (anA HT_) (fun _ _ _ h => h) yldU putA ?_
                            refine pure_ (i := 29) (N := some 80) (tf 30 14) rfl rfl (anA HT_) (fun _ _ _ h => h) yldU putA ?_
                            refine pure_ (i := 30) (N := some 81) (tf 31 13) rfl rfl (anA HT_) (fun _ _ _ h => h) yldU putA ?_
                            refine pure_ (i := 31) (N := some 82) (tf 32 12) rfl rfl (anA HT_) (fun _ _ _ h => h) yldU putA ?_
                            refine pure_ (i := 32) (N := some 83) (tf 33 11) rfl rfl (anA HT_) (fun _ _ _ h => h) yldU putA ?_
                            refine pure_ (i := 33) (N := some 84) (tf 34 10) rfl rfl (anA HT_) (fun _ _ _ h => h) yldU putA ?_
                            refine pure_ (i := 34) (N := some 85) (tf 35 9) rfl rfl (anA HT_) (fun _ _ _ h => h) yldU putA ?_
                            refine pure_ (i := 35) (N := some 86) (tf 36 8) rfl rfl (anA HT_) (fun _ _ _ h => h) yldU putA ?_
                            refine pure_ (i := 36) (N := some 87) (tf 37 7) rfl rfl (anA HT_) (fun _ _ _ h => h) yldU putA ?_
                            refine pure_ (i := 37) (N := some 88) (tf 38 6) rfl rfl (anA HT_) (fun _ _ _ h => h) yldU putA ?_
                            refine pure_ (i := 38) (N := some 89) (tf 39 5) rfl rfl (anA HT_) (fun _ _ _ h => h) yldU putA ?_
                            refine pure_ (i := 39) (N := some 90) (tf 40 4) rfl rfl (anA HT_) (fun _ _ _ h => h) yldU putA ?_
                            refine pure_ (i := 40) (N := some 91) (tf 41 3) rfl rfl (anA HT_) (fun _ _ _ h => h) yldU putA ?_
                            refine pure_ (i := 41) (N := some 92) (tf 42 2) rfl rfl (anA HT_) (fun _ _ _ h => h) yldU putA ?_
                            refine pure_ (i := 42) (N := some 93) (tf 43 1) rfl rfl (anA HT_) (fun _ _ _ h => h) yldU putA ?_
                            refine pure_ (i := 43) (N := some 94) (tf 44 0) rfl rfl (anA HT_) (fun _ _ _ h => h) yldA putA ?_
                            refine done_ (done_of HT_.out (by kernel_rfl)) ?_
                            try go_wp2
                            go_ret
                            exact ⟨endA, belowA⟩
                          · rw [if_neg c25] at H
                            have c25b0 : ((t336 == 0) != (((rd_T29 t329 x7_3).f1) == 0)) = false := by simpa using c25
                            (try (have c25b1 : decide ((t336 == 0) = (((rd_T29 t329 x7_3).f1) == 0)) = true := by simpa using c25))
                            (try (have c25b2 : ((t336 == 0) == (((rd_T29 t329 x7_3).f1) == 0)) = true := by simpa using c25))
                            clear c25
                            by_cases c28 : t336 > 0
                            · rw [if_pos c28] at H
                              have c28b0 : decide (0 < t336) = true := decide_eq_true c28
                              clear c28
                              replace H := Option.bind_eq_some_iff.mp H
                              obtain ⟨t341, A290, H⟩ := H
                              (try dsimp only at H)
                              have A29 := Aside0.mk A290
                              clear A290
                              by_cases c30 : 0 ≤ t341
                              · rw [if_pos c30] at H
                                have c30b0 : decide (0 ≤ t341) = true := decide_eq_true c30
                                clear c30
                                by_cases c31 : t341 < (t329.length : Int)
                                · rw [if_pos c31] at H
                                  have c31b0 : decide (t341 < (t329.length : Int)) = true := decide_eq_true c31
                                  clear c31
                                  by_cases c32 : ((rd_T29 t329 t341).f1) = (wrap64 (((rd_T29 t329 x7_3).f1) - 1))
                                  · rw [if_pos c32] at H
                                    have c32b0 : (((rd_T29 t329 t341).f1) == (wrap64 (((rd_T29 t329 x7_3).f1) - 1))) = true := beq_iff_eq.mpr c32
                                    have c32b1 : (((rd_T29 t329 t341).f1) != (wrap64 (((rd_T29 t329 x7_3).f1) - 1))) = false := bne_eq_false_iff_eq.mpr c32
                                    clear c32
                                    have H' := Aside0.mk H
                                    clear H
                                    have p335 : 0 ≤ (x7_3 : Int) := of_decide_eq_true (by first | (with_reducible assumption) | assumption)
                                    have q335 : x7_3 < (t329.length : Int) := of_decide_eq_true (by first | (with_reducible assumption) | assumption)
                                    obtain ⟨ad335, e335, hx335_0, hx335_1, hx335_2⟩ := at_T29 (Kd.Q_reads' HO_5.out).2.2 x7_3 p335 q335
                                    cases e335
                                    replace p335 := eq_true p335
                                    replace q335 := eq_true q335
                                    try go_wp2_with (first | ((with_reducible refine gate_callee (f := 12) rfl ?_); refine goesL_ (some 48) rfl rfl Tryd.func12 (by kernel_rfl) rfl #[.slice (some ad335) t329.length co10, .int .i64 ((rd_T29 t329 x7_3).f0)] rfl argsA ?_; (with_reducible refine (impl_TreeUp.calls _ _ t329 ((rd_T29 t329 x7_3).f0) t336 true _ ?side1 ?side2 ?side3 A21.out).mono ?_); (case side1 => repeat (first | exact (Kd.Q_reads' HO_5.out).2.2 | (with_reducible refine Kd.C_alloc ?_ _) | (with_reducible refine Kd.C_drewN ?_ _) | (with_reducible refine Kd.C_drew ?_))); (case side2 => exact (Kd.Q_reads' HO_5.out).2.1); (case side3 => exact TabOk.below HT.out belowA); rintro e w33 ⟨rfl, hb⟩; refine ⟨_, rfl, ?_⟩; have n0_ := Aside0.mk (Kd.Q_below (by (with_reducible repeat (first | apply Kd.Q_alloc | apply Kd.Q_drewN | apply Kd.Q_drew)); exact HO_5.out) hb); have n1_ := Aside0.mk (below_step belowA hb); clear HO_5; clear HB; have HO_5 := n0_; have HB := n1_; clear n0_ n1_; (try clear hb); (try clear hb2); (try clear hk); (try clear hi)))
                                    have n0_ := Aside0.mk (Kd.Q_drew HO_5.out)
                                    have n1_ := Aside0.mk (below_drew1 HB.out)
                                    clear HO_5
                                    clear HB
                                    have HO_5 := n0_
                                    have HB := n1_
                                    clear n0_ n1_
                                    have p338 : 0 ≤ (x7_3 : Int) := of_decide_eq_true (by first | (with_reducible assumption) | assumption)
                                    have q338 : x7_3 < (t329.length : Int) := of_decide_eq_true (by first | (with_reducible assumption) | assumption)
                                    obtain ⟨ad338, e338, hx338_0, hx338_1, hx338_2⟩ := at_T29 (Kd.Q_reads' HO_5.out).2.2 x7_3 p338 q338
                                    obtain rfl : ad335 = ad338 := (by injection e338)
                                    replace p338 := eq_true p338
                                    replace q338 := eq_true q338
                                    have p340 : 0 ≤ (x7_3 : Int) := of_decide_eq_true (by first | (with_reducible assumption) | assumption)
                                    have q340 : x7_3 < (t329.length : Int) := of_decide_eq_true (by first | (with_reducible assumption) | assumption)
                                    obtain ⟨ad340, e340, hx340_0, hx340_1, hx340_2⟩ := at_T29 (Kd.Q_reads' HO_5.out).2.2 x7_3 p340 q340
                                    obtain rfl : ad335 = ad340 := (by injection e340)
                                    replace p340 := eq_true p340
                                    replace q340 := eq_true q340
                                    have p342 : 0 ≤ (t341 : Int) := of_decide_eq_true (by first | (with_reducible assumption) | assumption)
                                    have q342 : t341 < (t329.length : Int) := of_decide_eq_true (by first | (with_reducible assumption) | assumption)
                                    obtain ⟨ad342, e342, hx342_0, hx342_1, hx342_2⟩ := at_T29 (Kd.Q_reads' HO_5.out).2.2 t341 p342 q342
                                    obtain rfl : ad335 = ad342 := (by injection e342)
                                    replace p342 := eq_true p342
                                    replace q342 := eq_true q342
                                    have p343 : 0 ≤ (x7_3 : Int) := of_decide_eq_true (by first | (with_reducible assumption) | assumption)
                                    have q343 : x7_3 < (t329.length : Int) := of_decide_eq_true (by first | (with_reducible assumption) | assumption)
                                    obtain ⟨ad343, e343, hx343_0, hx343_1, hx343_2⟩ := at_T29 (Kd.Q_reads' HO_5.out).2.2 x7_3 p343 q343
                                    obtain rfl : ad335 = ad343 := (by injection e343)
                                    replace p343 := eq_true p343
                                    replace q343 := eq_true q343
                                    refine start_ (n := 44) (S := fun w' => w'.cell? (ad335.add ((x7_3).toNat * 3)) = some (.int .i64 ((rd_T29 t329 x7_3).f0)) ∧ w'.cell? ⟨(ad335.add ((x7_3).toNat * 3)).block, (ad335.add ((x7_3).toNat * 3)).off + 1, none⟩ = some (.int .i64 ((rd_T29 t329 x7_3).f1)) ∧ w'.cell? ⟨(ad335.add ((x7_3).toNat * 3)).block, (ad335.add ((x7_3).toNat * 3)).off + 2, none⟩ = some (.string ((rd_T29 t329 x7_3).f2)) ∧ w'.cell? (ad335.add ((x7_3).toNat * 3)) = some (.int .i64 ((rd_T29 t329 x7_3).f0)) ∧ w'.cell? ⟨(ad335.add ((x7_3).toNat * 3)).block, (ad335.add ((x7_3).toNat * 3)).off + 1, none⟩ = some (.int .i64 ((rd_T29 t329 x7_3).f1)) ∧ w'.cell? ⟨(ad335.add ((x7_3).toNat * 3)).block, (ad335.add ((x7_3).toNat * 3)).off + 2, none⟩ = some (.string ((rd_T29 t329 x7_3).f2)) ∧ w'.cell? (ad335.add ((t341).toNat * 3)) = some (.int .i64 ((rd_T29 t329 t341).f0)) ∧ w'.cell? ⟨(ad335.add ((t341).toNat * 3)).block, (ad335.add ((t341).toNat * 3)).off + 1, none⟩ = some (.int .i64 ((rd_T29 t329 t341).f1)) ∧ w'.cell? ⟨(ad335.add ((t341).toNat * 3)).block, (ad335.add ((t341).toNat * 3)).off + 2, none⟩ = some (.string ((rd_T29 t329 t341).f2)) ∧ w'.cell? (ad335.add ((x7_3).toNat * 3)) = some (.int .i64 ((rd_T29 t329 x7_3).f0)) ∧ w'.cell? ⟨(ad335.add ((x7_3).toNat * 3)).block, (ad335.add ((x7_3).toNat * 3)).off + 1, none⟩ = some (.int .i64 ((rd_T29 t329 x7_3).f1)) ∧ w'.cell? ⟨(ad335.add ((x7_3).toNat * 3)).block, (ad335.add ((x7_3).toNat * 3)).off + 2, none⟩ = some (.string ((rd_T29 t329 x7_3).f2))) (ds := []) (tf 0 44) (by kernel_rfl) rfl rfl ⟨hx338_0, hx338_1, hx338_2, hx340_0, hx340_1, hx340_2, hx342_0, hx342_1, hx342_2, hx343_0, hx343_1, hx343_2⟩ (fun hHeld => ?_); refine with_tabW laws_FnTreeForm.tab11 laws_FnTreeForm.bits11 (fun HT_ HW_ => ?_)
                                    generalize w33.drew = w34 at HO_5 HB hx338_0 hx338_1 hx338_2 hx340_0 hx340_1 hx340_2 hx342_0 hx342_1 hx342_2 hx343_0 hx343_1 hx343_2 hHeld ⊢
                                    refine pure_ (i := 0) (N := some 51) (tf 1 43) rfl rfl (anA HT_) (fun _ _ _ h => h) yldA putA ?_
                                    refine pure_ (i := 1) (N := some 52) (tf 2 42) rfl rfl (anA HT_) (fun _ _ _ h => h) yldA putA ?_
                                    refine pure_ (i := 2) (N := some 53) (tf 3 41) rfl rfl (anA HT_) (fun _ _ _ h => h) yldA putA ?_
                                    refine pure_ (i := 3) (N := some 54) (tf 4 40) rfl rfl (anA HT_) (fun _ _ _ h => h) yldA putA ?_
                                    refine pure_ (i := 4) (N := some 55) (tf 5 39) rfl rfl (anA HT_) (fun _ _ _ h => h) yldA putA ?_
                                    refine pure_ (i := 5) (N := some 56) (tf 6 38) rfl rfl (anA HT_) (fun _ _ _ h => h) yldA putA ?_
                                    refine pure_ (i := 6) (N := some 57) (tf 7 37) rfl rfl (anA HT_) (fun _ _ _ h => h) yldA putA ?_
                                    refine pure_ (i := 7) (N := some 58) (tf 8 36) rfl rfl (anA HT_) (fun _ _ _ h => h) yldA putA ?_
                                    refine pure_ (i := 10) (N := some 61) #[true, true, true, true, true, true, true, true, false, false, true, false, false, false, false, false, false, false, false, false, false, false, false, false, false, false, false, false, false, false, false, false, false, false, false, false, false, false, false, false, false, false, false, false] rfl rfl (anA HT_) (fun _ _ _ h => h) yldA putA ?_
                                    refine take_ (i := 8) (N := some 59) #[true, true, true, true, true, true, true, true, true, false, true, false, false, false, false, false, false, false, false, false, false, false, false, false, false, false, false, false, false, false, false, false, false, false, false, false, false, false, false, false, false, false, false, false] rfl rfl (take_ofW HT_.out HW_.out (by kernel_rfl)) (fun _ _ _ h => h) (Or.inl ⟨by rfl, by rintro w' ⟨s0, s1, s2, s3, s4, s5, s6, s7, s8, s9, s10, s11⟩; go_simp; with_reducible rfl⟩) hHeld putA ?_
                                    refine one_ (i := 9) (N := some 60) (tf 11 33) rfl rfl (one_of HT_.out (by kernel_rfl)) (by decide) (fun K hK => ?_)
                                    refine goes_ Tryd.func13 (by kernel_rfl) rfl #[.slice (some ad335) t329.length co10, .int .i64 ((rd_T29 t329 x7_3).f0)] (by rfl) rfl rfl argsA ?_
                                    with_reducible refine (laws_lpAt.calls k3 _ _ t329 ((rd_T29 t329 x7_3).f0) t339 _ ?side1 ?side2 A23.out).mono ?_
                                    (case side1 => repeat (first | exact (Kd.Q_reads' HO_5.out).2.2 | (with_reducible refine Kd.C_alloc ?_ _) | (with_reducible refine Kd.C_drewN ?_ _) | (with_reducible refine Kd.C_drew ?_)))
                                    (case side2 => exact (Kd.Q_reads' HO_5.out).2.1)
                                    rintro e w' ⟨rfl, ⟨nd, rfl⟩⟩
                                    refine ⟨_, rfl, ?_⟩
                                    refine hK.out _ _ ⟨hHeld.1, hHeld.2.1, hHeld.2.2.1, hHeld.2.2.2.1, hHeld.2.2.2.2.1, hHeld.2.2.2.2.2.1, hHeld.2.2.2.2.2.2.1, hHeld.2.2.2.2.2.2.2.1, hHeld.2.2.2.2.2.2.2.2.1, hHeld.2.2.2.2.2.2.2.2.2.1, hHeld.2.2.2.2.2.2.2.2.2.2.1, hHeld.2.2.2.2.2.2.2.2.2.2.2⟩ (fun hHeld => ?_)
                                    clear hK K
                                    refine norm_ (a' := ?_) ?_ ?_
                                    rotate_left
                                    · show Act.put _ (some 60) _ = _
                                      simp only [Act.put, List.setIfInBounds_toArray, List.set_cons_zero, List.set_cons_succ, i64_w, i32_w]
                                      rfl
                                    refine pure_ (i := 11) (N := some 62) (tf 12 32) rfl rfl (anA HT_) (fun _ _ _ h => h) yldA putA ?_
                                    refine pure_ (i := 12) (N := some 63) (tf 13 31) rfl rfl (anA HT_) (fun _ _ _ h => h) yldA putA ?_
                                    refine pure_ (i := 13) (N := some 64) (tf 14 30) rfl rfl (anA HT_) (fun _ _ _ h => h) yldA putA ?_
                                    refine pure_ (i := 14) (N := some 65) (tf 15 29) rfl rfl (anA HT_) (fun _ _ _ h => h) yldA putA ?_
                                    refine pure_ (i := 15) (N := some 66) (tf 16 28) rfl rfl (anA HT_) (fun _ _ _ h => h) yldA putA ?_
                                    refine pure_ (i := 16) (N := some 67) (tf 17 27) rfl rfl (anA HT_) (fun _ _ _ h => h) yldA putA ?_
                                    refine pure_ (i := 17) (N := some 68) (tf 18 26) rfl rfl (anA HT_) (fun _ _ _ h => h) yldA putA ?_
                                    refine pure_ (i := 18) (N := some 69) (tf 19 25) rfl rfl (anA HT_) (fun _ _ _ h => h) yldA putA ?_
                                    refine pure_ (i := 19) (N := some 70) (tf 20 24) rfl rfl (anA HT_) (fun _ _ _ h => h) yldA putA ?_
                                    refine take_ (i := 20) (N := some 71) (tf 21 23) rfl rfl (take_ofW HT_.out HW_.out (by kernel_rfl)) (fun _ _ _ h => h) (Or.inl ⟨by rfl, by rintro w' ⟨s0, s1, s2, s3, s4, s5, s6, s7, s8, s9, s10, s11⟩; go_simp; with_reducible rfl⟩) hHeld putA ?_
                                    refine pure_ (i := 21) (N := some 72) (tf 22 22) rfl rfl (anA HT_) (fun _ _ _ h => h) yldA putA ?_
                                    refine pure_ (i := 22) (N := some 73) (tf 23 21) rfl rfl (anA HT_) (fun _ _ _ h => h) yldA putA ?_
                                    refine pure_ (i := 23) (N := some 74) (tf 24 20) rfl rfl (anA HT_) (fun _ _ _ h => h) yldA putA ?_
                                    refine pure_ (i := 24) (N := some 75) (tf 25 19) rfl rfl (anA HT_) (fun _ _ _ h => h) yldA putA ?_
                                    refine pure_ (i := 25) (N := some 76) (tf 26 18) rfl rfl (anA HT_) (fun _ _ _ h => h) yldA putA ?_
                                    refine pure_ (i := 26) (N := some 77) (tf 27 17) rfl rfl (anA HT_) (fun _ _ _ h => h) yldA putA ?_
                                    refine pure_ (i := 27) (N := some 78) (tf 28 16) rfl rfl (anA HT_) (fun _ _ _ h => h) yldA putA ?_
                                    refine pure_ (i := 28) (N := some 79) (tf 29 15) rfl rfl (anA HT_) (fun _ _ _ h => h) yldA putA ?_
                                    refine pure_ (i := 29) (N := some 80) (tf 30 14) rfl rfl (anA HT_) (fun _ _ _ h => h) yldA putA ?_
                                    refine pure_ (i := 30) (N := some 81) (tf 31 13) rfl rfl (anA HT_) (fun _ _ _ h => h) yldA putA ?_
                                    refine pure_ (i := 35) (N := some 86) #[true, true, true, true, true, true, true, true, true, true, true, true, true, true, true, true, true, true, true, true, true, true, true, true, true, true, true, true, true, true, true, false, false, false, false, true, false, false, false, false, false, false, false, false] rfl rfl (anA HT_) (fun _ _ _ h => h) yldA putA ?_
                                    refine pure_ (i := 36) (N := some 87) #[true, true, true, true, true, true, true, true, true, true, true, true, true, true, true, true, true, true, true, true, true, true, true, true, true, true, true, true, true, true, true, false, false, false, false, true, true, false, false, false, false, false, false, false] rfl rfl (anA HT_) (fun _ _ _ h => h) yldA putA ?_
                                    refine pure_ (i := 37) (N := some 88) #[true, true, true, true, true, true, true, true, true, true, true, true, true, true, true, true, true, true, true, true, true, true, true, true, true, true, true, true, true, true, true, false, false, false, false, true, true, true, false, false, false, false, false, false] rfl rfl (anA HT_) (fun _ _ _ h => h) yldA putA ?_
                                    refine pure_ (i := 38) (N := some 89) #[true, true, true, true, true, true, true, true, true, true, true, true, true, true, true, true, true, true, true, true, true, true, true, true, true, true, true, true, true, true, true, false, false, false, false, true, true, true, true, false, false, false, false, false] rfl rfl (anA HT_) (fun _ _ _ h => h) yldA putA ?_
                                    refine take_ (i := 39) (N := some 90) #[true, true, true, true, true, true, true, true, true, true, true, true, true, true, true, true, true, true, true, true, true, true, true, true, true, true, true, true, true, true, true, false, false, false, false, true, true, true, true, true, false, false, false, false] rfl rfl (take_ofW HT_.out HW_.out (by kernel_rfl)) (fun _ _ _ h => h) (Or.inl ⟨by rfl, by rintro w' ⟨s0, s1, s2, s3, s4, s5, s6, s7, s8, s9, s10, s11⟩; go_simp; with_reducible rfl⟩) hHeld putA ?_
                                    refine pure_ (i := 40) (N := some 91) #[true, true, true, true, true, true, true, true, true, true, true, true, true, true, true, true, true, true, true, true, true, true, true, true, true, true, true, true, true, true, true, false, false, false, false, true, true, true, true, true, true, false, false, false] rfl rfl (anA HT_) (fun _ _ _ h => h) yldA putA ?_
                                    refine one_ (i := 31) (N := some 82) #[true, true, true, true, true, true, true, true, true, true, true, true, true, true, true, true, true, true, true, true, true, true, true, true, true, true, true, true, true, true, true, true, false, false, false, true, true, true, true, true, true, false, false, false] rfl rfl (one_of HT_.out (by kernel_rfl)) (by decide) (fun K hK => ?_)
                                    refine goes_ Tryd.func13 (by kernel_rfl) rfl #[.slice (some ad335) t329.length co10, .int .i64 t336] (by rfl) rfl rfl argsA ?_
                                    with_reducible refine (laws_lpAt.calls k3 _ _ t329 t336 t341 _ ?side1 ?side2 A29.out).mono ?_
                                    (case side1 => repeat (first | exact (Kd.Q_reads' HO_5.out).2.2 | (with_reducible refine Kd.C_alloc ?_ _) | (with_reducible refine Kd.C_drewN ?_ _) | (with_reducible refine Kd.C_drew ?_)))
                                    (case side2 => exact (Kd.Q_reads' HO_5.out).2.1)
                                    rintro e w' ⟨rfl, ⟨nd, rfl⟩⟩
                                    refine ⟨_, rfl, ?_⟩
                                    refine hK.out _ _ ⟨hHeld.1, hHeld.2.1, hHeld.2.2.1, hHeld.2.2.2.1, hHeld.2.2.2.2.1, hHeld.2.2.2.2.2.1, hHeld.2.2.2.2.2.2.1, hHeld.2.2.2.2.2.2.2.1, hHeld.2.2.2.2.2.2.2.2.1, hHeld.2.2.2.2.2.2.2.2.2.1, hHeld.2.2.2.2.2.2.2.2.2.2.1, hHeld.2.2.2.2.2.2.2.2.2.2.2⟩ (fun hHeld => ?_)
                                    clear hK K
                                    refine norm_ (a' := ?_) ?_ ?_
                                    rotate_left
                                    · show Act.put _ (some 82) _ = _
                                      simp only [Act.put, List.setIfInBounds_toArray, List.set_cons_zero, List.set_cons_succ, i64_w, i32_w]
                                      rfl
                                    refine pure_ (i := 32) (N := some 83) #[true, true, true, true, true, true, true, true, true, true, true, true, true, true, true, true, true, true, true, true, true, true, true, true, true, true, true, true, true, true, true, true, true, false, false, true, true, true, true, true, true, false, false, false] rfl rfl (anA HT_) (fun _ _ _ h => h) yldA putA ?_
                                    refine pure_ (i := 33) (N := some 84) #[true, true, true, true, true, true, true, true, true, true, true, true, true, true, true, true, true, true, true, true, true, true, true, true, true, true, true, true, true, true, true, true, true, true, false, true, true, true, true, true, true, false, false, false] rfl rfl (anA HT_) (fun _ _ _ h => h) yldA putA ?_
                                    refine take_ (i := 34) (N := some 85) (tf 41 3) rfl rfl (take_ofW HT_.out HW_.out (by kernel_rfl)) (fun _ _ _ h => h) (Or.inl ⟨by rfl, by rintro w' ⟨s0, s1, s2, s3, s4, s5, s6, s7, s8, s9, s10, s11⟩; go_simp; with_reducible rfl⟩) hHeld putA ?_
                                    refine pure_ (i := 41) (N := some 92) (tf 42 2) rfl rfl (anA HT_) (fun _ _ _ h => h) yldA putA ?_
                                    refine pure_ (i := 42) (N := some 93) (tf 43 1) rfl rfl (anA HT_) (fun _ _ _ h => h) yldA putA ?_
                                    refine pure_ (i := 43) (N := some 94) (tf 44 0) rfl rfl (anA HT_) (fun _ _ _ h => h) yldA putA ?_
                                    refine done_ (done_of HT_.out (by kernel_rfl)) ?_
                                    try go_wp2
                                    go_roundg k3
                                    case measure => have := HJ2.out; have := HJ7.out; have := HK3.out; omega
                                    case rel => exact ⟨(wrap64 (x7_3 + 1)), (by first | rfl | (simp; done) | (simp [*]; done)), H', ⟨by have := HJ2.out; have := HJ7.out; have := HK3.out; omega⟩, ⟨by (with_reducible repeat (first | apply Kd.Q_alloc | apply Kd.Q_drewN | apply Kd.Q_drew)); exact HO_5.out⟩, ⟨belowA⟩⟩
                                  · rw [if_neg c32] at H
                                    have c32b0 : (((rd_T29 t329 t341).f1) == (wrap64 (((rd_T29 t329 x7_3).f1) - 1))) = false := beq_eq_false_iff_ne.mpr c32
                                    have c32b1 : (((rd_T29 t329 t341).f1) != (wrap64 (((rd_T29 t329 x7_3).f1) - 1))) = true := bne_iff_ne.mpr c32
                                    obtain rfl := Option.some.inj H
                                    have p335 : 0 ≤ (x7_3 : Int) := of_decide_eq_true (by first | (with_reducible assumption) | assumption)
                                    have q335 : x7_3 < (t329.length : Int) := of_decide_eq_true (by first | (with_reducible assumption) | assumption)
                                    obtain ⟨ad335, e335, hx335_0, hx335_1, hx335_2⟩ := at_T29 (Kd.Q_reads' HO_5.out).2.2 x7_3 p335 q335
                                    cases e335
                                    replace p335 := eq_true p335
                                    replace q335 := eq_true q335
                                    try go_wp2_with (first | ((with_reducible refine gate_callee (f := 12) rfl ?_); refine goesL_ (some 48) rfl rfl Tryd.func12 (by kernel_rfl) rfl #[.slice (some ad335) t329.length co10, .int .i64 ((rd_T29 t329 x7_3).f0)] rfl argsA ?_; (with_reducible refine (impl_TreeUp.calls _ _ t329 ((rd_T29 t329 x7_3).f0) t336 true _ ?side1 ?side2 ?side3 A21.out).mono ?_); (case side1 => repeat (first | exact (Kd.Q_reads' HO_5.out).2.2 | (with_reducible refine Kd.C_alloc ?_ _) | (with_reducible refine Kd.C_drewN ?_ _) | (with_reducible refine Kd.C_drew ?_))); (case side2 => exact (Kd.Q_reads' HO_5.out).2.1); (case side3 => exact TabOk.below HT.out belowA); rintro e w35 ⟨rfl, hb⟩; refine ⟨_, rfl, ?_⟩; have n0_ := Aside0.mk (Kd.Q_below (by (with_reducible repeat (first | apply Kd.Q_alloc | apply Kd.Q_drewN | apply Kd.Q_drew)); exact HO_5.out) hb); have n1_ := Aside0.mk (below_step belowA hb); clear HO_5; clear HB; have HO_5 := n0_; have HB := n1_; clear n0_ n1_; (try clear hb); (try clear hb2); (try clear hk); (try clear hi)))
                                    have n0_ := Aside0.mk (Kd.Q_drew HO_5.out)
                                    have n1_ := Aside0.mk (below_drew1 HB.out)
                                    clear HO_5
                                    clear HB
                                    have HO_5 := n0_
                                    have HB := n1_
                                    clear n0_ n1_
                                    have p338 : 0 ≤ (x7_3 : Int) := of_decide_eq_true (by first | (with_reducible assumption) | assumption)
                                    have q338 : x7_3 < (t329.length : Int) := of_decide_eq_true (by first | (with_reducible assumption) | assumption)
                                    obtain ⟨ad338, e338, hx338_0, hx338_1, hx338_2⟩ := at_T29 (Kd.Q_reads' HO_5.out).2.2 x7_3 p338 q338
                                    obtain rfl : ad335 = ad338 := (by injection e338)
                                    replace p338 := eq_true p338
                                    replace q338 := eq_true q338
                                    have p340 : 0 ≤ (x7_3 : Int) := of_decide_eq_true (by first | (with_reducible assumption) | assumption)
                                    have q340 : x7_3 < (t329.length : Int) := of_decide_eq_true (by first | (with_reducible assumption) | assumption)
                                    obtain ⟨ad340, e340, hx340_0, hx340_1, hx340_2⟩ := at_T29 (Kd.Q_reads' HO_5.out).2.2 x7_3 p340 q340
                                    obtain rfl : ad335 = ad340 := (by injection e340)
                                    replace p340 := eq_true p340
                                    replace q340 := eq_true q340
                                    have p342 : 0 ≤ (t341 : Int) := of_decide_eq_true (by first | (with_reducible assumption) | assumption)
                                    have q342 : t341 < (t329.length : Int) := of_decide_eq_true (by first | (with_reducible assumption) | assumption)
                                    obtain ⟨ad342, e342, hx342_0, hx342_1, hx342_2⟩ := at_T29 (Kd.Q_reads' HO_5.out).2.2 t341 p342 q342
                                    obtain rfl : ad335 = ad342 := (by injection e342)
                                    replace p342 := eq_true p342
                                    replace q342 := eq_true q342
                                    have p343 : 0 ≤ (x7_3 : Int) := of_decide_eq_true (by first | (with_reducible assumption) | assumption)
                                    have q343 : x7_3 < (t329.length : Int) := of_decide_eq_true (by first | (with_reducible assumption) | assumption)
                                    obtain ⟨ad343, e343, hx343_0, hx343_1, hx343_2⟩ := at_T29 (Kd.Q_reads' HO_5.out).2.2 x7_3 p343 q343
                                    obtain rfl : ad335 = ad343 := (by injection e343)
                                    replace p343 := eq_true p343
                                    replace q343 := eq_true q343
                                    refine start_ (n := 44) (S := fun w' => w'.cell? (ad335.add ((x7_3).toNat * 3)) = some (.int .i64 ((rd_T29 t329 x7_3).f0)) ∧ w'.cell? ⟨(ad335.add ((x7_3).toNat * 3)).block, (ad335.add ((x7_3).toNat * 3)).off + 1, none⟩ = some (.int .i64 ((rd_T29 t329 x7_3).f1)) ∧ w'.cell? ⟨(ad335.add ((x7_3).toNat * 3)).block, (ad335.add ((x7_3).toNat * 3)).off + 2, none⟩ = some (.string ((rd_T29 t329 x7_3).f2)) ∧ w'.cell? (ad335.add ((x7_3).toNat * 3)) = some (.int .i64 ((rd_T29 t329 x7_3).f0)) ∧ w'.cell? ⟨(ad335.add ((x7_3).toNat * 3)).block, (ad335.add ((x7_3).toNat * 3)).off + 1, none⟩ = some (.int .i64 ((rd_T29 t329 x7_3).f1)) ∧ w'.cell? ⟨(ad335.add ((x7_3).toNat * 3)).block, (ad335.add ((x7_3).toNat * 3)).off + 2, none⟩ = some (.string ((rd_T29 t329 x7_3).f2)) ∧ w'.cell? (ad335.add ((t341).toNat * 3)) = some (.int .i64 ((rd_T29 t329 t341).f0)) ∧ w'.cell? ⟨(ad335.add ((t341).toNat * 3)).block, (ad335.add ((t341).toNat * 3)).off + 1, none⟩ = some (.int .i64 ((rd_T29 t329 t341).f1)) ∧ w'.cell? ⟨(ad335.add ((t341).toNat * 3)).block, (ad335.add ((t341).toNat * 3)).off + 2, none⟩ = some (.string ((rd_T29 t329 t341).f2)) ∧ w'.cell? (ad335.add ((x7_3).toNat * 3)) = some (.int .i64 ((rd_T29 t329 x7_3).f0)) ∧ w'.cell? ⟨(ad335.add ((x7_3).toNat * 3)).block, (ad335.add ((x7_3).toNat * 3)).off + 1, none⟩ = some (.int .i64 ((rd_T29 t329 x7_3).f1)) ∧ w'.cell? ⟨(ad335.add ((x7_3).toNat * 3)).block, (ad335.add ((x7_3).toNat * 3)).off + 2, none⟩ = some (.string ((rd_T29 t329 x7_3).f2))) (ds := []) (tf 0 44) (by kernel_rfl) rfl rfl ⟨hx338_0, hx338_1, hx338_2, hx340_0, hx340_1, hx340_2, hx342_0, hx342_1, hx342_2, hx343_0, hx343_1, hx343_2⟩ (fun hHeld => ?_); refine with_tabW laws_FnTreeForm.tab11 laws_FnTreeForm.bits11 (fun HT_ HW_ => ?_)
                                    generalize w35.drew = w36 at HO_5 HB hx338_0 hx338_1 hx338_2 hx340_0 hx340_1 hx340_2 hx342_0 hx342_1 hx342_2 hx343_0 hx343_1 hx343_2 hHeld ⊢
                                    refine pure_ (i := 0) (N := some 51) (tf 1 43) rfl rfl (anA HT_) (fun _ _ _ h => h) yldA putA ?_
                                    refine pure_ (i := 1) (N := some 52) (tf 2 42) rfl rfl (anA HT_) (fun _ _ _ h => h) yldA putA ?_
                                    refine pure_ (i := 2) (N := some 53) (tf 3 41) rfl rfl (anA HT_) (fun _ _ _ h => h) yldA putA ?_
                                    refine pure_ (i := 3) (N := some 54) (tf 4 40) rfl rfl (anA HT_) (fun _ _ _ h => h) yldA putA ?_
                                    refine pure_ (i := 4) (N := some 55) (tf 5 39) rfl rfl (anA HT_) (fun _ _ _ h => h) yldA putA ?_
                                    refine pure_ (i := 5) (N := some 56) (tf 6 38) rfl rfl (anA HT_) (fun _ _ _ h => h) yldA putA ?_
                                    refine pure_ (i := 6) (N := some 57) (tf 7 37) rfl rfl (anA HT_) (fun _ _ _ h => h) yldA putA ?_
                                    refine pure_ (i := 7) (N := some 58) (tf 8 36) rfl rfl (anA HT_) (fun _ _ _ h => h) yldA putA ?_
                                    refine pure_ (i := 10) (N := some 61) #[true, true, true, true, true, true, true, true, false, false, true, false, false, false, false, false, false, false, false, false, false, false, false, false, false, false, false, false, false, false, false, false, false, false, false, false, false, false, false, false, false, false, false, false] rfl rfl (anA HT_) (fun _ _ _ h => h) yldA putA ?_
                                    refine take_ (i := 8) (N := some 59) #[true, true, true, true, true, true, true, true, true, false, true, false, false, false, false, false, false, false, false, false, false, false, false, false, false, false, false, false, false, false, false, false, false, false, false, false, false, false, false, false, false, false, false, false] rfl rfl (take_ofW HT_.out HW_.out (by kernel_rfl)) (fun _ _ _ h => h) (Or.inl ⟨by rfl, by rintro w' ⟨s0, s1, s2, s3, s4, s5, s6, s7, s8, s9, s10, s11⟩; go_simp; with_reducible rfl⟩) hHeld putA ?_
                                    refine one_ (i := 9) (N := some 60) (tf 11 33) rfl rfl (one_of HT_.out (by kernel_rfl)) (by decide) (fun K hK => ?_)
                                    refine goes_ Tryd.func13 (by kernel_rfl) rfl #[.slice (some ad335) t329.length co10, .int .i64 ((rd_T29 t329 x7_3).f0)] (by rfl) rfl rfl argsA ?_
                                    with_reducible refine (laws_lpAt.calls k3 _ _ t329 ((rd_T29 t329 x7_3).f0) t339 _ ?side1 ?side2 A23.out).mono ?_
                                    (case side1 => repeat (first | exact (Kd.Q_reads' HO_5.out).2.2 | (with_reducible refine Kd.C_alloc ?_ _) | (with_reducible refine Kd.C_drewN ?_ _) | (with_reducible refine Kd.C_drew ?_)))
                                    (case side2 => exact (Kd.Q_reads' HO_5.out).2.1)
                                    rintro e w' ⟨rfl, ⟨nd, rfl⟩⟩
                                    refine ⟨_, rfl, ?_⟩
                                    refine hK.out _ _ ⟨hHeld.1, hHeld.2.1, hHeld.2.2.1, hHeld.2.2.2.1, hHeld.2.2.2.2.1, hHeld.2.2.2.2.2.1, hHeld.2.2.2.2.2.2.1, hHeld.2.2.2.2.2.2.2.1, hHeld.2.2.2.2.2.2.2.2.1, hHeld.2.2.2.2.2.2.2.2.2.1, hHeld.2.2.2.2.2.2.2.2.2.2.1, hHeld.2.2.2.2.2.2.2.2.2.2.2⟩ (fun hHeld => ?_)
                                    clear hK K
                                    refine norm_ (a' := ?_) ?_ ?_
                                    rotate_left
                                    · show Act.put _ (some 60) _ = _
                                      simp only [Act.put, List.setIfInBounds_toArray, List.set_cons_zero, List.set_cons_succ, i64_w, i32_w]
                                      rfl
                                    refine pure_ (i := 11) (N := some 62) (tf 12 32) rfl rfl (anA HT_) (fun _ _ _ h => h) yldA putA ?_
                                    refine pure_ (i := 12) (N := some 63) (tf 13 31) rfl rfl (anA HT_) (fun _ _ _ h => h) yldA putA ?_
                                    refine pure_ (i := 13) (N := some 64) (tf 14 30) rfl rfl (anA HT_) (fun _ _ _ h => h) yldA putA ?_
                                    refine pure_ (i := 14) (N := some 65) (tf 15 29) rfl rfl (anA HT_) (fun _ _ _ h => h) yldA putA ?_
                                    refine pure_ (i := 15) (N := some 66) (tf 16 28) rfl rfl (anA HT_) (fun _ _ _ h => h) yldA putA ?_
                                    refine pure_ (i := 16) (N := some 67) (tf 17 27) rfl rfl (anA HT_) (fun _ _ _ h => h) yldA putA ?_
                                    refine pure_ (i := 17) (N := some 68) (tf 18 26) rfl rfl (anA HT_) (fun _ _ _ h => h) yldA putA ?_
                                    refine pure_ (i := 18) (N := some 69) (tf 19 25) rfl rfl (anA HT_) (fun _ _ _ h => h) yldA putA ?_
                                    refine pure_ (i := 19) (N := some 70) (tf 20 24) rfl rfl (anA HT_) (fun _ _ _ h => h) yldA putA ?_
                                    refine take_ (i := 20) (N := some 71) (tf 21 23) rfl rfl (take_ofW HT_.out HW_.out (by kernel_rfl)) (fun _ _ _ h => h) (Or.inl ⟨by rfl, by rintro w' ⟨s0, s1, s2, s3, s4, s5, s6, s7, s8, s9, s10, s11⟩; go_simp; with_reducible rfl⟩) hHeld putA ?_
                                    refine pure_ (i := 21) (N := some 72) (tf 22 22) rfl rfl (anA HT_) (fun _ _ _ h => h) yldA putA ?_
                                    refine pure_ (i := 22) (N := some 73) (tf 23 21) rfl rfl (anA HT_) (fun _ _ _ h => h) yldA putA ?_
                                    refine pure_ (i := 23) (N := some 74) (tf 24 20) rfl rfl (anA HT_) (fun _ _ _ h => h) yldA putA ?_
                                    refine pure_ (i := 24) (N := some 75) (tf 25 19) rfl rfl (anA HT_) (fun _ _ _ h => h) yldA putA ?_
                                    refine pure_ (i := 25) (N := some 76) (tf 26 18) rfl rfl (anA HT_) (fun _ _ _ h => h) yldA putA ?_
                                    refine pure_ (i := 26) (N := some 77) (tf 27 17) rfl rfl (anA HT_) (fun _ _ _ h => h) yldA putA ?_
                                    refine pure_ (i := 27) (N := some 78) (tf 28 16) rfl rfl (anA HT_) (fun _ _ _ h => h) yldA putA ?_
                                    refine pure_ (i := 28) (N := some 79) (tf 29 15) rfl rfl (anA HT_) (fun _ _ _ h => h) yldA putA ?_
                                    refine pure_ (i := 29) (N := some 80) (tf 30 14) rfl rfl (anA HT_) (fun _ _ _ h => h) yldA putA ?_
                                    refine pure_ (i := 30) (N := some 81) (tf 31 13) rfl rfl (anA HT_) (fun _ _ _ h => h) yldA putA ?_
                                    refine pure_ (i := 35) (N := some 86) #[true, true, true, true, true, true, true, true, true, true, true, true, true, true, true, true, true, true, true, true, true, true, true, true, true, true, true, true, true, true, true, false, false, false, false, true, false, false, false, false, false, false, false, false] rfl rfl (anA HT_) (fun _ _ _ h => h) yldA putA ?_
                                    refine pure_ (i := 36) (N := some 87) #[true, true, true, true, true, true, true, true, true, true, true, true, true, true, true, true, true, true, true, true, true, true, true, true, true, true, true, true, true, true, true, false, false, false, false, true, true, false, false, false, false, false, false, false] rfl rfl (anA HT_) (fun _ _ _ h => h) yldA putA ?_
                                    refine pure_ (i := 37) (N := some 88) #[true, true, true, true, true, true, true, true, true, true, true, true, true, true, true, true, true, true, true, true, true, true, true, true, true, true, true, true, true, true, true, false, false, false, false, true, true, true, false, false, false, false, false, false] rfl rfl (anA HT_) (fun _ _ _ h => h) yldA putA ?_
                                    refine pure_ (i := 38) (N := some 89) #[true, true, true, true, true, true, true, true, true, true, true, true, true, true, true, true, true, true, true, true, true, true, true, true, true, true, true, true, true, true, true, false, false, false, false, true, true, true, true, false, false, false, false, false] rfl rfl (anA HT_) (fun _ _ _ h => h) yldA putA ?_
                                    refine take_ (i := 39) (N := some 90) #[true, true, true, true, true, true, true, true, true, true, true, true, true, true, true, true, true, true, true, true, true, true, true, true, true, true, true, true, true, true, true, false, false, false, false, true, true, true, true, true, false, false, false, false] rfl rfl (take_ofW HT_.out HW_.out (by kernel_rfl)) (fun _ _ _ h => h) (Or.inl ⟨by rfl, by rintro w' ⟨s0, s1, s2, s3, s4, s5, s6, s7, s8, s9, s10, s11⟩; go_simp; with_reducible rfl⟩) hHeld putA ?_
                                    refine pure_ (i := 40) (N := some 91) #[true, true, true, true, true, true, true, true, true, true, true, true, true, true, true, true, true, true, true, true, true, true, true, true, true, true, true, true, true, true, true, false, false, false, false, true, true, true, true, true, true, false, false, false] rfl rfl (anA HT_) (fun _ _ _ h => h) yldA putA ?_
                                    refine one_ (i := 31) (N := some 82) #[true, true, true, true, true, true, true, true, true, true, true, true, true, true, true, true, true, true, true, true, true, true, true, true, true, true, true, true, true, true, true, true, false, false, false, true, true, true, true, true, true, false, false, false] rfl rfl (one_of HT_.out (by kernel_rfl)) (by decide) (fun K hK => ?_)
                                    refine goes_ Tryd.func13 (by kernel_rfl) rfl #[.slice (some ad335) t329.length co10, .int .i64 t336] (by rfl) rfl rfl argsA ?_
                                    with_reducible refine (laws_lpAt.calls k3 _ _ t329 t336 t341 _ ?side1 ?side2 A29.out).mono ?_
                                    (case side1 => repeat (first | exact (Kd.Q_reads' HO_5.out).2.2 | (with_reducible refine Kd.C_alloc ?_ _) | (with_reducible refine Kd.C_drewN ?_ _) | (with_reducible refine Kd.C_drew ?_)))
                                    (case side2 => exact (Kd.Q_reads' HO_5.out).2.1)
                                    rintro e w' ⟨rfl, ⟨nd, rfl⟩⟩
                                    refine ⟨_, rfl, ?_⟩
                                    refine hK.out _ _ ⟨hHeld.1, hHeld.2.1, hHeld.2.2.1, hHeld.2.2.2.1, hHeld.2.2.2.2.1, hHeld.2.2.2.2.2.1, hHeld.2.2.2.2.2.2.1, hHeld.2.2.2.2.2.2.2.1, hHeld.2.2.2.2.2.2.2.2.1, hHeld.2.2.2.2.2.2.2.2.2.1, hHeld.2.2.2.2.2.2.2.2.2.2.1, hHeld.2.2.2.2.2.2.2.2.2.2.2⟩ (fun hHeld => ?_)
                                    clear hK K
                                    refine norm_ (a' := ?_) ?_ ?_
                                    rotate_left
                                    · show Act.put _ (some 82) _ = _
                                      simp only [Act.put, List.setIfInBounds_toArray, List.set_cons_zero, List.set_cons_succ, i64_w, i32_w]
                                      rfl
                                    refine pure_ (i := 32) (N := some 83) #[true, true, true, true, true, true, true, true, true, true, true, true, true, true, true, true, true, true, true, true, true, true, true, true, true, true, true, true, true, true, true, true, true, false, false, true, true, true, true, true, true, false, false, false] rfl rfl (anA HT_) (fun _ _ _ h => h) yldA putA ?_
                                    refine pure_ (i := 33) (N := some 84) #[true, true, true, true, true, true, true, true, true, true, true, true, true, true, true, true, true, true, true, true, true, true, true, true, true, true, true, true, true, true, true, true, true, true, false, true, true, true, true, true, true, false, false, false] rfl rfl (anA HT_) (fun _ _ _ h => h) yldA putA ?_
                                    refine take_ (i := 34) (N := some 85) (tf 41 3) rfl rfl (take_ofW HT_.out HW_.out (by kernel_rfl)) (fun _ _ _ h => h) (Or.inl ⟨by rfl, by rintro w' ⟨s0, s1, s2, s3, s4, s5, s6, s7, s8, s9, s10, s11⟩; go_simp; with_reducible rfl⟩) hHeld putA ?_
                                    refine pure_ (i := 41) (N := some 92) (tf 42 2) rfl rfl (anA HT_) (fun _ _ _ h => h) yldA putA ?_
                                    refine pure_ (i := 42) (N := some 93) (tf 43 1) rfl rfl (anA HT_) (fun _ _ _ h => h) yldA putA ?_
                                    refine pure_ (i := 43) (N := some 94) (tf 44 0) rfl rfl (anA HT_) (fun _ _ _ h => h) yldA putA ?_
                                    refine done_ (done_of HT_.out (by kernel_rfl)) ?_
                                    try go_wp2
                                    go_ret
                                    exact ⟨endA, belowA⟩
                                · rw [if_neg c31] at H
                                  exact absurd H (by simp)
                              · rw [if_neg c30] at H
                                exact absurd H (by simp)
                            · rw [if_neg c28] at H
                              have c28b0 : decide (0 < t336) = false := decide_eq_false c28
                              clear c28
                              have H' := Aside0.mk H
                              clear H
                              have p335 : 0 ≤ (x7_3 : Int) := of_decide_eq_true (by first | (with_reducible assumption) | assumption)
                              have q335 : x7_3 < (t329.length : Int) := of_decide_eq_true (by first | (with_reducible assumption) | assumption)
                              obtain ⟨ad335, e335, hx335_0, hx335_1, hx335_2⟩ := at_T29 (Kd.Q_reads' HO_5.out).2.2 x7_3 p335 q335
                              cases e335
                              replace p335 := eq_true p335
                              replace q335 := eq_true q335
                              try go_wp2_with (first | ((with_reducible refine gate_callee (f := 12) rfl ?_); refine goesL_ (some 48) rfl rfl Tryd.func12 (by kernel_rfl) rfl #[.slice (some ad335) t329.length co10, .int .i64 ((rd_T29 t329 x7_3).f0)] rfl argsA ?_; (with_reducible refine (impl_TreeUp.calls _ _ t329 ((rd_T29 t329 x7_3).f0) t336 true _ ?side1 ?side2 ?side3 A21.out).mono ?_); (case side1 => repeat (first | exact (Kd.Q_reads' HO_5.out).2.2 | (with_reducible refine Kd.C_alloc ?_ _) | (with_reducible refine Kd.C_drewN ?_ _) | (with_reducible refine Kd.C_drew ?_))); (case side2 => exact (Kd.Q_reads' HO_5.out).2.1); (case side3 => exact TabOk.below HT.out belowA); rintro e w37 ⟨rfl, hb⟩; refine ⟨_, rfl, ?_⟩; have n0_ := Aside0.mk (Kd.Q_below (by (with_reducible repeat (first | apply Kd.Q_alloc | apply Kd.Q_drewN | apply Kd.Q_drew)); exact HO_5.out) hb); have n1_ := Aside0.mk (below_step belowA hb); clear HO_5; clear HB; have HO_5 := n0_; have HB := n1_; clear n0_ n1_; (try clear hb); (try clear hb2); (try clear hk); (try clear hi)))
                              have n0_ := Aside0.mk (Kd.Q_drew HO_5.out)
                              have n1_ := Aside0.mk (below_drew1 HB.out)
                              clear HO_5
                              clear HB
                              have HO_5 := n0_
                              have HB := n1_
                              clear n0_ n1_
                              have p338 : 0 ≤ (x7_3 : Int) := of_decide_eq_true (by first | (with_reducible assumption) | assumption)
                              have q338 : x7_3 < (t329.length : Int) := of_decide_eq_true (by first | (with_reducible assumption) | assumption)
                              obtain ⟨ad338, e338, hx338_0, hx338_1, hx338_2⟩ := at_T29 (Kd.Q_reads' HO_5.out).2.2 x7_3 p338 q338
                              obtain rfl : ad335 = ad338 := (by injection e338)
                              replace p338 := eq_true p338
                              replace q338 := eq_true q338
                              have p340 : 0 ≤ (x7_3 : Int) := of_decide_eq_true (by first | (with_reducible assumption) | assumption)
                              have q340 : x7_3 < (t329.length : Int) := of_decide_eq_true (by first | (with_reducible assumption) | assumption)
                              obtain ⟨ad340, e340, hx340_0, hx340_1, hx340_2⟩ := at_T29 (Kd.Q_reads' HO_5.out).2.2 x7_3 p340 q340
                              obtain rfl : ad335 = ad340 := (by injection e340)
                              replace p340 := eq_true p340
                              replace q340 := eq_true q340
                              refine start_ (n := 44) (S := fun w' => w'.cell? (ad335.add ((x7_3).toNat * 3)) = some (.int .i64 ((rd_T29 t329 x7_3).f0)) ∧ w'.cell? ⟨(ad335.add ((x7_3).toNat * 3)).block, (ad335.add ((x7_3).toNat * 3)).off + 1, none⟩ = some (.int .i64 ((rd_T29 t329 x7_3).f1)) ∧ w'.cell? ⟨(ad335.add ((x7_3).toNat * 3)).block, (ad335.add ((x7_3).toNat * 3)).off + 2, none⟩ = some (.string ((rd_T29 t329 x7_3).f2)) ∧ w'.cell? (ad335.add ((x7_3).toNat * 3)) = some (.int .i64 ((rd_T29 t329 x7_3).f0)) ∧ w'.cell? ⟨(ad335.add ((x7_3).toNat * 3)).block, (ad335.add ((x7_3).toNat * 3)).off + 1, none⟩ = some (.int .i64 ((rd_T29 t329 x7_3).f1)) ∧ w'.cell? ⟨(ad335.add ((x7_3).toNat * 3)).block, (ad335.add ((x7_3).toNat * 3)).off + 2, none⟩ = some (.string ((rd_T29 t329 x7_3).f2))) (ds := []) (tf 0 44) (by kernel_rfl) rfl rfl ⟨hx338_0, hx338_1, hx338_2, hx340_0, hx340_1, hx340_2⟩ (fun hHeld => ?_); refine with_tabW laws_FnTreeForm.tab11 laws_FnTreeForm.bits11 (fun HT_ HW_ => ?_)
                              generalize w37.drew = w38 at HO_5 HB hx338_0 hx338_1 hx338_2 hx340_0 hx340_1 hx340_2 hHeld ⊢
                              refine pure_ (i := 0) (N := some 51) (tf 1 43) rfl rfl (anA HT_) (fun _ _ _ h => h) yldA putA ?_
                              refine pure_ (i := 1) (N := some 52) (tf 2 42) rfl rfl (anA HT_) (fun _ _ _ h => h) yldA putA ?_
                              refine pure_ (i := 2) (N := some 53) (tf 3 41) rfl rfl (anA HT_) (fun _ _ _ h => h) yldA putA ?_
                              refine pure_ (i := 3) (N := some 54) (tf 4 40) rfl rfl (anA HT_) (fun _ _ _ h => h) yldA putA ?_
                              refine pure_ (i := 4) (N := some 55) (tf 5 39) rfl rfl (anA HT_) (fun _ _ _ h => h) yldA putA ?_
                              refine pure_ (i := 5) (N := some 56) (tf 6 38) rfl rfl (anA HT_) (fun _ _ _ h => h) yldA putA ?_
                              refine pure_ (i := 6) (N := some 57) (tf 7 37) rfl rfl (anA HT_) (fun _ _ _ h => h) yldA putA ?_
                              refine pure_ (i := 7) (N := some 58) (tf 8 36) rfl rfl (anA HT_) (fun _ _ _ h => h) yldA putA ?_
                              refine pure_ (i := 10) (N := some 61) #[true, true, true, true, true, true, true, true, false, false, true, false, false, false, false, false, false, false, false, false, false, false, false, false, false, false, false, false, false, false, false, false, false, false, false, false, false, false, false, false, false, false, false, false] rfl rfl (anA HT_) (fun _ _ _ h => h) yldA putA ?_
                              refine take_ (i := 8) (N := some 59) #[true, true, true, true, true, true, true, true, true, false, true, false, false, false, false, false, false, false, false, false, false, false, false, false, false, false, false, false, false, false, false, false, false, false, false, false, false, false, false, false, false, false, false, false] rfl rfl (take_ofW HT_.out HW_.out (by kernel_rfl)) (fun _ _ _ h => h) (Or.inl ⟨by rfl, by rintro w' ⟨s0, s1, s2, s3, s4, s5⟩; go_simp; with_reducible rfl⟩) hHeld putA ?_
                              refine one_ (i := 9) (N := some 60) (tf 11 33) rfl rfl (one_of HT_.out (by kernel_rfl)) (by decide) (fun K hK => ?_)
                              refine goes_ Tryd.func13 (by kernel_rfl) rfl #[.slice (some ad335) t329.length co10, .int .i64 ((rd_T29 t329 x7_3).f0)] (by rfl) rfl rfl argsA ?_
                              with_reducible refine (laws_lpAt.calls k3 _ _ t329 ((rd_T29 t329 x7_3).f0) t339 _ ?side1 ?side2 A23.out).mono ?_
                              (case side1 => repeat (first | exact (Kd.Q_reads' HO_5.out).2.2 | (with_reducible refine Kd.C_alloc ?_ _) | (with_reducible refine Kd.C_drewN ?_ _) | (with_reducible refine Kd.C_drew ?_)))
                              (case side2 => exact (Kd.Q_reads' HO_5.out).2.1)
                              rintro e w' ⟨rfl, ⟨nd, rfl⟩⟩
                              refine ⟨_, rfl, ?_⟩
                              refine hK.out _ _ ⟨hHeld.1, hHeld.2.1, hHeld.2.2.1, hHeld.2.2.2.1, hHeld.2.2.2.2.1, hHeld.2.2.2.2.2⟩ (fun hHeld => ?_)
                              clear hK K
                              refine norm_ (a' := ?_) ?_ ?_
                              rotate_left
                              · show Act.put _ (some 60) _ = _
                                simp only [Act.put, List.setIfInBounds_toArray, List.set_cons_zero, List.set_cons_succ, i64_w, i32_w]
                                rfl
                              refine pure_ (i := 11) (N := some 62) (tf 12 32) rfl rfl (anA HT_) (fun _ _ _ h => h) yldA putA ?_
                              refine pure_ (i := 12) (N := some 63) (tf 13 31) rfl rfl (anA HT_) (fun _ _ _ h => h) yldA putA ?_
                              refine pure_ (i := 13) (N := some 64) (tf 14 30) rfl rfl (anA HT_) (fun _ _ _ h => h) yldA putA ?_
                              refine pure_ (i := 14) (N := some 65) (tf 15 29) rfl rfl (anA HT_) (fun _ _ _ h => h) yldA putA ?_
                              refine pure_ (i := 15) (N := some 66) (tf 16 28) rfl rfl (anA HT_) (fun _ _ _ h => h) yldA putA ?_
                              refine pure_ (i := 16) (N := some 67) (tf 17 27) rfl rfl (anA HT_) (fun _ _ _ h => h) yldA putA ?_
                              refine pure_ (i := 17) (N := some 68) (tf 18 26) rfl rfl (anA HT_) (fun _ _ _ h => h) yldA putA ?_
                              refine pure_ (i := 18) (N := some 69) (tf 19 25) rfl rfl (anA HT_) (fun _ _ _ h => h) yldA putA ?_
                              refine pure_ (i := 19) (N := some 70) (tf 20 24) rfl rfl (anA HT_) (fun _ _ _ h => h) yldA putA ?_
                              refine take_ (i := 20) (N := some 71) (tf 21 23) rfl rfl (take_ofW HT_.out HW_.out (by kernel_rfl)) (fun _ _ _ h => h) (Or.inl ⟨by rfl, by rintro w' ⟨s0, s1, s2, s3, s4, s5⟩; go_simp; with_reducible rfl⟩) hHeld putA ?_
                              refine pure_ (i := 21) (N := some 72) (tf 22 22) rfl rfl (anA HT_) (fun _ _ _ h => h) yldA putA ?_
                              refine pure_ (i := 22) (N := some 73) (tf 23 21) rfl rfl (anA HT_) (fun _ _ _ h => h) yldA putA ?_
                              refine pure_ (i := 23) (N := some 74) (tf 24 20) rfl rfl (anA HT_) (fun _ _ _ h => h) yldA putA ?_
                              refine pure_ (i := 24) (N := some 75) (tf 25 19) rfl rfl (anA HT_) (fun _ _ _ h => h) yldA putA ?_
                              refine pure_ (i := 25) (N := some 76) (tf 26 18) rfl rfl (anA HT_) (fun _ _ _ h => h) yldA putA ?_
                              refine pure_ (i := 26) (N := some 77) (tf 27 17) rfl rfl (anA HT_) (fun _ _ _ h => h) yldA putA ?_
                              refine pure_ (i := 27) (N := some 78) (tf 28 16) rfl rfl (anA HT_) (fun _ _ _ h => h) yldA putA ?_
                              refine pure_ (i := 28) (N := some 79) (tf 29 15) rfl rfl (anA HT_) (fun _ _ _ h => h) yldU putA ?_
                              refine pure_ (i := 29) (N := some 80) (tf 30 14) rfl rfl (anA HT_) (fun _ _ _ h => h) yldU putA ?_
                              refine pure_ (i := 30) (N := some 81) (tf 31 13) rfl rfl (anA HT_) (fun _ _ _ h => h) yldU putA ?_
                              refine pure_ (i := 31) (N := some 82) (tf 32 12) rfl rfl (anA HT_) (fun _ _ _ h => h) yldU putA ?_
                              refine pure_ (i := 32) (N := some 83) (tf 33 11) rfl rfl (anA HT_) (fun _ _ _ h => h) yldU putA ?_
                              refine pure_ (i := 33) (N := some 84) (tf 34 10) rfl rfl (anA HT_) (fun _ _ _ h => h) yldU putA ?_
                              refine pure_ (i := 34) (N := some 85) (tf 35 9) rfl rfl (anA HT_) (fun _ _ _ h => h) yldU putA ?_
                              refine pure_ (i := 35) (N := some 86) (tf 36 8) rfl rfl (anA HT_) (fun _ _ _ h => h) yldU putA ?_
                              refine pure_ (i := 36) (N := some 87) (tf 37 7) rfl rfl (anA HT_) (fun _ _ _ h => h) yldU putA ?_
                              refine pure_ (i := 37) (N := some 88) (tf 38 6) rfl rfl (anA HT_) (fun _ _ _ h => h) yldU putA ?_
                              refine pure_ (i := 38) (N := some 89) (tf 39 5) rfl rfl (anA HT_) (fun _ _ _ h => h) yldU putA ?_
                              refine pure_ (i := 39) (N := some 90) (tf 40 4) rfl rfl (anA HT_) (fun _ _ _ h => h) yldU putA ?_
                              refine pure_ (i := 40) (N := some 91) (tf 41 3) rfl rfl (anA HT_) (fun _ _ _ h => h) yldU putA ?_
                              refine pure_ (i := 41) (N := some 92) (tf 42 2) rfl rfl (anA HT_) (fun _ _ _ h => h) yldU putA ?_
                              refine pure_ (i := 42) (N := some 93) (tf 43 1) rfl rfl (anA HT_) (fun _ _ _ h => h) yldA putA ?_
                              refine pure_ (i := 43) (N := some 94) (tf 44 0) rfl rfl (anA HT_) (fun _ _ _ h => h) yldA putA ?_
                              refine done_ (done_of HT_.out (by kernel_rfl)) ?_
                              try go_wp2
                              go_roundg k3
                              case measure => have := HJ2.out; have := HJ7.out; have := HK3.out; omega
                              case rel => exact ⟨(wrap64 (x7_3 + 1)), (by first | rfl | (simp; done) | (simp [*]; done)), H', ⟨by have := HJ2.out; have := HJ7.out; have := HK3.out; omega⟩, ⟨by (with_reducible repeat (first | apply Kd.Q_alloc | apply Kd.Q_drewN | apply Kd.Q_drew)); exact HO_5.out⟩, ⟨belowA⟩⟩
                        · rw [if_neg c24] at H
                          have c24b0 : (t339 == x7_3) = false := beq_eq_false_iff_ne.mpr c24
                          have c24b1 : (t339 != x7_3) = true := bne_iff_ne.mpr c24
                          obtain rfl := Option.some.inj H
                          have p335 : 0 ≤ (x7_3 : Int) := of_decide_eq_true (by first | (with_reducible assumption) | assumption)
                          have q335 : x7_3 < (t329.length : Int) := of_decide_eq_true (by first | (with_reducible assumption) | assumption)
                          obtain ⟨ad335, e335, hx335_0, hx335_1, hx335_2⟩ := at_T29 (Kd.Q_reads' HO_5.out).2.2 x7_3 p335 q335
                          cases e335
                          replace p335 := eq_true p335
                          replace q335 := eq_true q335
                          try go_wp2_with (first | ((with_reducible refine gate_callee (f := 12) rfl ?_); refine goesL_ (some 48) rfl rfl Tryd.func12 (by kernel_rfl) rfl #[.slice (some ad335) t329.length co10, .int .i64 ((rd_T29 t329 x7_3).f0)] rfl argsA ?_; (with_reducible refine (impl_TreeUp.calls _ _ t329 ((rd_T29 t329 x7_3).f0) t336 true _ ?side1 ?side2 ?side3 A21.out).mono ?_); (case side1 => repeat (first | exact (Kd.Q_reads' HO_5.out).2.2 | (with_reducible refine Kd.C_alloc ?_ _) | (with_reducible refine Kd.C_drewN ?_ _) | (with_reducible refine Kd.C_drew ?_))); (case side2 => exact (Kd.Q_reads' HO_5.out).2.1); (case side3 => exact TabOk.below HT.out belowA); rintro e w39 ⟨rfl, hb⟩; refine ⟨_, rfl, ?_⟩; have n0_ := Aside0.mk (Kd.Q_below (by (with_reducible repeat (first | apply Kd.Q_alloc | apply Kd.Q_drewN | apply Kd.Q_drew)); exact HO_5.out) hb); have n1_ := Aside0.mk (below_step belowA hb); clear HO_5; clear HB; have HO_5 := n0_; have HB := n1_; clear n0_ n1_; (try clear hb); (try clear hb2); (try clear hk); (try clear hi)))
                          have n0_ := Aside0.mk (Kd.Q_drew HO_5.out)
                          have n1_ := Aside0.mk (below_drew1 HB.out)
                          clear HO_5
                          clear HB
                          have HO_5 := n0_
                          have HB := n1_
                          clear n0_ n1_
                          have p338 : 0 ≤ (x7_3 : Int) := of_decide_eq_true (by first | (with_reducible assumption) | assumption)
                          have q338 : x7_3 < (t329.length : Int) := of_decide_eq_true (by first | (with_reducible assumption) | assumption)
                          obtain ⟨ad338, e338, hx338_0, hx338_1, hx338_2⟩ := at_T29 (Kd.Q_reads' HO_5.out).2.2 x7_3 p338 q338
                          obtain rfl : ad335 = ad338 := (by injection e338)
                          replace p338 := eq_true p338
                          replace q338 := eq_true q338
                          refine start_ (n := 44) (S := fun w' => w'.cell? (ad335.add ((x7_3).toNat * 3)) = some (.int .i64 ((rd_T29 t329 x7_3).f0)) ∧ w'.cell? ⟨(ad335.add ((x7_3).toNat * 3)).block, (ad335.add ((x7_3).toNat * 3)).off + 1, none⟩ = some (.int .i64 ((rd_T29 t329 x7_3).f1)) ∧ w'.cell? ⟨(ad335.add ((x7_3).toNat * 3)).block, (ad335.add ((x7_3).toNat * 3)).off + 2, none⟩ = some (.string ((rd_T29 t329 x7_3).f2))) (ds := []) (tf 0 44) (by kernel_rfl) rfl rfl ⟨hx338_0, hx338_1, hx338_2⟩ (fun hHeld => ?_); refine with_tabW laws_FnTreeForm.tab11 laws_FnTreeForm.bits11 (fun HT_ HW_ => ?_)
                          generalize w39.drew = w40 at HO_5 HB hx338_0 hx338_1 hx338_2 hHeld ⊢
                          refine pure_ (i := 0) (N := some 51) (tf 1 43) rfl rfl (anA HT_) (fun _ _ _ h => h) yldA putA ?_
                          refine pure_ (i := 1) (N := some 52) (tf 2 42) rfl rfl (anA HT_) (fun _ _ _ h => h) yldA putA ?_
                          refine pure_ (i := 2) (N := some 53) (tf 3 41) rfl rfl (anA HT_) (fun _ _ _ h => h) yldA putA ?_
                          refine pure_ (i := 3) (N := some 54) (tf 4 40) rfl rfl (anA HT_) (fun _ _ _ h => h) yldA putA ?_
                          refine pure_ (i := 4) (N := some 55) (tf 5 39) rfl rfl (anA HT_) (fun _ _ _ h => h) yldA putA ?_
                          refine pure_ (i := 5) (N := some 56) (tf 6 38) rfl rfl (anA HT_) (fun _ _ _ h => h) yldA putA ?_
                          refine pure_ (i := 6) (N := some 57) (tf 7 37) rfl rfl (anA HT_) (fun _ _ _ h => h) yldA putA ?_
                          refine pure_ (i := 7) (N := some 58) (tf 8 36) rfl rfl (anA HT_) (fun _ _ _ h => h) yldA putA ?_
                          refine pure_ (i := 10) (N := some 61) #[true, true, true, true, true, true, true, true, false, false, true, false, false, false, false, false, false, false, false, false, false, false, false, false, false, false, false, false, false, false, false, false, false, false, false, false, false, false, false, false, false, false, false, false] rfl rfl (anA HT_) (fun _ _ _ h => h) yldA putA ?_
                          refine take_ (i := 8) (N := some 59) #[true, true, true, true, true, true, true, true, true, false, true, false, false, false, false, false, false, false, false, false, false, false, false, false, false, false, false, false, false, false, false, false, false, false, false, false, false, false, false, false, false, false, false, false] rfl rfl (take_ofW HT_.out HW_.out (by kernel_rfl)) (fun _ _ _ h => h) (Or.inl ⟨by rfl, by rintro w' ⟨s0, s1, s2⟩; go_simp; with_reducible rfl⟩) hHeld putA ?_
                          refine one_ (i := 9) (N := some 60) (tf 11 33) rfl rfl (one_of HT_.out (by kernel_rfl)) (by decide) (fun K hK => ?_)
                          refine goes_ Tryd.func13 (by kernel_rfl) rfl #[.slice (some ad335) t329.length co10, .int .i64 ((rd_T29 t329 x7_3).f0)] (by rfl) rfl rfl argsA ?_
                          with_reducible refine (laws_lpAt.calls k3 _ _ t329 ((rd_T29 t329 x7_3).f0) t339 _ ?side1 ?side2 A23.out).mono ?_
                          (case side1 => repeat (first | exact (Kd.Q_reads' HO_5.out).2.2 | (with_reducible refine Kd.C_alloc ?_ _) | (with_reducible refine Kd.C_drewN ?_ _) | (with_reducible refine Kd.C_drew ?_)))
                          (case side2 => exact (Kd.Q_reads' HO_5.out).2.1)
                          rintro e w' ⟨rfl, ⟨nd, rfl⟩⟩
                          refine ⟨_, rfl, ?_⟩
                          refine hK.out _ _ ⟨hHeld.1, hHeld.2.1, hHeld.2.2⟩ (fun hHeld => ?_)
                          clear hK K
                          refine norm_ (a' := ?_) ?_ ?_
                          rotate_left
                          · show Act.put _ (some 60) _ = _
                            simp only [Act.put, List.setIfInBounds_toArray, List.set_cons_zero, List.set_cons_succ, i64_w, i32_w]
                            rfl
                          refine pure_ (i := 11) (N := some 62) (tf 12 32) rfl rfl (anA HT_) (fun _ _ _ h => h) yldA putA ?_
                          refine pure_ (i := 12) (N := some 63) (tf 13 31) rfl rfl (anA HT_) (fun _ _ _ h => h) yldA putA ?_
                          refine pure_ (i := 13) (N := some 64) (tf 14 30) rfl rfl (anA HT_) (fun _ _ _ h => h) yldA putA ?_
                          refine pure_ (i := 14) (N := some 65) (tf 15 29) rfl rfl (anA HT_) (fun _ _ _ h => h) yldU putA ?_
                          refine pure_ (i := 15) (N := some 66) (tf 16 28) rfl rfl (anA HT_) (fun _ _ _ h => h) yldU putA ?_
                          refine pure_ (i := 16) (N := some 67) (tf 17 27) rfl rfl (anA HT_) (fun _ _ _ h => h) yldU putA ?_
                          refine pure_ (i := 17) (N := some 68) (tf 18 26) rfl rfl (anA HT_) (fun _ _ _ h => h) yldU putA ?_
                          refine pure_ (i := 18) (N := some 69) (tf 19 25) rfl rfl (anA HT_) (fun _ _ _ h => h) yldU putA ?_
                          refine pure_ (i := 19) (N := some 70) (tf 20 24) rfl rfl (anA HT_) (fun _ _ _ h => h) yldU putA ?_
                          refine pure_ (i := 20) (N := some 71) (tf 21 23) rfl rfl (anA HT_) (fun _ _ _ h => h) yldU putA ?_
                          refine pure_ (i := 21) (N := some 72) (tf 22 22) rfl rfl (anA HT_) (fun _ _ _ h => h) yldU putA ?_
                          refine pure_ (i := 22) (N := some 73) (tf 23 21) rfl rfl (anA HT_) (fun _ _ _ h => h) yldU putA ?_
                          refine pure_ (i := 23) (N := some 74) (tf 24 20) rfl rfl (anA HT_) (fun _ _ _ h => h) yldA putA ?_
                          refine pure_ (i := 24) (N := some 75) (tf 25 19) rfl rfl (anA HT_) (fun _ _ _ h => h) yldA putA ?_
                          refine pure_ (i := 25) (N := some 76) (tf 26 18) rfl rfl (anA HT_) (fun _ _ _ h => h) yldU putA ?_
                          refine pure_ (i := 26) (N := some 77) (tf 27 17) rfl rfl (anA HT_) (fun _ _ _ h => h) yldU putA ?_
                          refine pure_ (i := 27) (N := some 78) (tf 28 16) rfl rfl (anA HT_) (fun _ _ _ h => h) yldU putA ?_
                          refine pure_ (i := 28) (N := some 79) (tf 29 15) rfl rfl (anA HT_) (fun _ _ _ h => h) yldU putA ?_
                          refine pure_ (i := 29) (N := some 80) (tf 30 14) rfl rfl (anA HT_) (fun _ _ _ h => h) yldU putA ?_
                          refine pure_ (i := 30) (N := some 81) (tf 31 13) rfl rfl (anA HT_) (fun _ _ _ h => h) yldU putA ?_
                          refine pure_ (i := 31) (N := some 82) (tf 32 12) rfl rfl (anA HT_) (fun _ _ _ h => h) yldU putA ?_
                          refine pure_ (i := 32) (N := some 83) (tf 33 11) rfl rfl (anA HT_) (fun _ _ _ h => h) yldU putA ?_
                          refine pure_ (i := 33) (N := some 84) (tf 34 10) rfl rfl (anA HT_) (fun _ _ _ h => h) yldU putA ?_
                          refine pure_ (i := 34) (N := some 85) (tf 35 9) rfl rfl (anA HT_) (fun _ _ _ h => h) yldU putA ?_
                          refine pure_ (i := 35) (N := some 86) (tf 36 8) rfl rfl (anA HT_) (fun _ _ _ h => h) yldU putA ?_
                          refine pure_ (i := 36) (N := some 87) (tf 37 7) rfl rfl (anA HT_) (fun _ _ _ h => h) yldU putA ?_
                          refine pure_ (i := 37) (N := some 88) (tf 38 6) rfl rfl (anA HT_) (fun _ _ _ h => h) yldU putA ?_
                          refine pure_ (i := 38) (N := some 89) (tf 39 5) rfl rfl (anA HT_) (fun _ _ _ h => h) yldU putA ?_
                          refine pure_ (i := 39) (N := some 90) (tf 40 4) rfl rfl (anA HT_) (fun _ _ _ h => h) yldU putA ?_
                          refine pure_ (i := 40) (N := some 91) (tf 41 3) rfl rfl (anA HT_) (fun _ _ _ h => h) yldU putA ?_
                          refine pure_ (i := 41) (N := some 92) (tf 42 2) rfl rfl (anA HT_) (fun _ _ _ h => h) yldU putA ?_
                          refine pure_ (i := 42) (N := some 93) (tf 43 1) rfl rfl (anA HT_) (fun _ _ _ h => h) yldU putA ?_
                          refine pure_ (i := 43) (N := some 94) (tf 44 0) rfl rfl (anA HT_) (fun _ _ _ h => h) yldA putA ?_
                          refine done_ (done_of HT_.out (by kernel_rfl)) ?_
                          try go_wp2
                          go_ret
                          exact ⟨endA, belowA⟩
                      · replace c22 := Bool.eq_false_iff.mpr c22
                        subst c22
                        have H1 : (some false) = some r := by rw [if_neg (show ¬ (false = true) by decide)] at H; exact H
                        clear H
                        have H := H1
                        clear H1
                        obtain rfl := Option.some.inj H
                        have p335 : 0 ≤ (x7_3 : Int) := of_decide_eq_true (by first | (with_reducible assumption) | assumption)
                        have q335 : x7_3 < (t329.length : Int) := of_decide_eq_true (by first | (with_reducible assumption) | assumption)
                        obtain ⟨ad335, e335, hx335_0, hx335_1, hx335_2⟩ := at_T29 (Kd.Q_reads' HO_5.out).2.2 x7_3 p335 q335
                        cases e335
                        replace p335 := eq_true p335
                        replace q335 := eq_true q335
                        try go_wp2_with (first | ((with_reducible refine gate_callee (f := 12) rfl ?_); refine goesL_ (some 48) rfl rfl Tryd.func12 (by kernel_rfl) rfl #[.slice (some ad335) t329.length co10, .int .i64 ((rd_T29 t329 x7_3).f0)] rfl argsA ?_; (with_reducible refine (impl_TreeUp.calls _ _ t329 ((rd_T29 t329 x7_3).f0) t336 false _ ?side1 ?side2 ?side3 A21.out).mono ?_); (case side1 => repeat (first | exact (Kd.Q_reads' HO_5.out).2.2 | (with_reducible refine Kd.C_alloc ?_ _) | (with_reducible refine Kd.C_drewN ?_ _) | (with_reducible refine Kd.C_drew ?_))); (case side2 => exact (Kd.Q_reads' HO_5.out).2.1); (case side3 => exact TabOk.below HT.out belowA); rintro e w41 ⟨rfl, hb⟩; refine ⟨_, rfl, ?_⟩; have n0_ := Aside0.mk (Kd.Q_below (by (with_reducible repeat (first | apply Kd.Q_alloc | apply Kd.Q_drewN | apply Kd.Q_drew)); exact HO_5.out) hb); have n1_ := Aside0.mk (below_step belowA hb); clear HO_5; clear HB; have HO_5 := n0_; have HB := n1_; clear n0_ n1_; (try clear hb); (try clear hb2); (try clear hk); (try clear hi)))
                        have n0_ := Aside0.mk (Kd.Q_drew HO_5.out)
                        have n1_ := Aside0.mk (below_drew1 HB.out)
                        clear HO_5
                        clear HB
                        have HO_5 := n0_
                        have HB := n1_
                        clear n0_ n1_
                        refine start_ (n := 44) (S := fun w' => True) (ds := []) (tf 0 44) (by kernel_rfl) rfl rfl trivial (fun hHeld => ?_); refine with_tabW laws_FnTreeForm.tab11 laws_FnTreeForm.bits11 (fun HT_ HW_ => ?_)
                        generalize w41.drew = w42 at HO_5 HB hHeld ⊢
                        refine pure_ (i := 0) (N := some 51) (tf 1 43) rfl rfl (anA HT_) (fun _ _ _ h => h) yldA putA ?_
                        refine pure_ (i := 1) (N := some 52) (tf 2 42) rfl rfl (anA HT_) (fun _ _ _ h => h) yldA putA ?_
                        refine pure_ (i := 2) (N := some 53) (tf 3 41) rfl rfl (anA HT_) (fun _ _ _ h => h) yldA putA ?_
                        refine pure_ (i := 3) (N := some 54) (tf 4 40) rfl rfl (anA HT_) (fun _ _ _ h => h) yldU putA ?_
                        refine pure_ (i := 4) (N := some 55) (tf 5 39) rfl rfl (anA HT_) (fun _ _ _ h => h) yldU putA ?_
                        refine pure_ (i := 5) (N := some 56) (tf 6 38) rfl rfl (anA HT_) (fun _ _ _ h => h) yldU putA ?_
                        refine pure_ (i := 6) (N := some 57) (tf 7 37) rfl rfl (anA HT_) (fun _ _ _ h => h) yldU putA ?_
                        refine pure_ (i := 7) (N := some 58) (tf 8 36) rfl rfl (anA HT_) (fun _ _ _ h => h) yldU putA ?_
                        refine pure_ (i := 8) (N := some 59) (tf 9 35) rfl rfl (anA HT_) (fun _ _ _ h => h) yldU putA ?_
                        refine pure_ (i := 9) (N := some 60) (tf 10 34) rfl rfl (anA HT_) (fun _ _ _ h => h) yldU putA ?_
                        refine pure_ (i := 10) (N := some 61) (tf 11 33) rfl rfl (anA HT_) (fun _ _ _ h => h) yldU putA ?_
                        refine pure_ (i := 11) (N := some 62) (tf 12 32) rfl rfl (anA HT_) (fun _ _ _ h => h) yldU putA ?_
                        refine pure_ (i := 12) (N := some 63) (tf 13 31) rfl rfl (anA HT_) (fun _ _ _ h => h) yldA putA ?_
                        refine pure_ (i := 13) (N := some 64) (tf 14 30) rfl rfl (anA HT_) (fun _ _ _ h => h) yldA putA ?_
                        refine pure_ (i := 14) (N := some 65) (tf 15 29) rfl rfl (anA HT_) (fun _ _ _ h => h) yldU putA ?_
                        refine pure_ (i := 15) (N := some 66) (tf 16 28) rfl rfl (anA HT_) (fun _ _ _ h => h) yldU putA ?_
                        refine pure_ (i := 16) (N := some 67) (tf 17 27) rfl rfl (anA HT_) (fun _ _ _ h => h) yldU putA ?_
                        refine pure_ (i := 17) (N := some 68) (tf 18 26) rfl rfl (anA HT_) (fun _ _ _ h => h) yldU putA ?_
                        refine pure_ (i := 18) (N := some 69) (tf 19 25) rfl rfl (anA HT_) (fun _ _ _ h => h) yldU putA ?_
                        refine pure_ (i := 19) (N := some 70) (tf 20 24) rfl rfl (anA HT_) (fun _ _ _ h => h) yldU putA ?_
                        refine pure_ (i := 20) (N := some 71) (tf 21 23) rfl rfl (anA HT_) (fun _ _ _ h => h) yldU putA ?_
                        refine pure_ (i := 21) (N := some 72) (tf 22 22) rfl rfl (anA HT_) (fun _ _ _ h => h) yldU putA ?_
                        refine pure_ (i := 22) (N := some 73) (tf 23 21) rfl rfl (anA HT_) (fun _ _ _ h => h) yldU putA ?_
                        refine pure_ (i := 23) (N := some 74) (tf 24 20) rfl rfl (anA HT_) (fun _ _ _ h => h) yldA putA ?_
                        refine pure_ (i := 24) (N := some 75) (tf 25 19) rfl rfl (anA HT_) (fun _ _ _ h => h) yldA putA ?_
                        refine pure_ (i := 25) (N := some 76) (tf 26 18) rfl rfl (anA HT_) (fun _ _ _ h => h) yldU putA ?_
                        refine pure_ (i := 26) (N := some 77) (tf 27 17) rfl rfl (anA HT_) (fun _ _ _ h => h) yldU putA ?_
                        refine pure_ (i := 27) (N := some 78) (tf 28 16) rfl rfl (anA HT_) (fun _ _ _ h => h) yldU putA ?_
                        refine pure_ (i := 28) (N := some 79) (tf 29 15) rfl rfl (anA HT_) (fun _ _ _ h => h) yldU putA ?_
                        refine pure_ (i := 29) (N := some 80) (tf 30 14) rfl rfl (anA HT_) (fun _ _ _ h => h) yldU putA ?_
                        refine pure_ (i := 30) (N := some 81) (tf 31 13) rfl rfl (anA HT_) (fun _ _ _ h => h) yldU putA ?_
                        refine pure_ (i := 31) (N := some 82) (tf 32 12) rfl rfl (anA HT_) (fun _ _ _ h => h) yldU putA ?_
                        refine pure_ (i := 32) (N := some 83) (tf 33 11) rfl rfl (anA HT_) (fun _ _ _ h => h) yldU putA ?_
                        refine pure_ (i := 33) (N := some 84) (tf 34 10) rfl rfl (anA HT_) (fun _ _ _ h => h) yldU putA ?_
                        refine pure_ (i := 34) (N := some 85) (tf 35 9) rfl rfl (anA HT_) (fun _ _ _ h => h) yldU putA ?_
                        refine pure_ (i := 35) (N := some 86) (tf 36 8) rfl rfl (anA HT_) (fun _ _ _ h => h) yldU putA ?_
                        refine pure_ (i := 36) (N := some 87) (tf 37 7) rfl rfl (anA HT_) (fun _ _ _ h => h) yldU putA ?_
                        refine pure_ (i := 37) (N := some 88) (tf 38 6) rfl rfl (anA HT_) (fun _ _ _ h => h) yldU putA ?_
                        refine pure_ (i := 38) (N := some 89) (tf 39 5) rfl rfl (anA HT_) (fun _ _ _ h => h) yldU putA ?_
                        refine pure_ (i := 39) (N := some 90) (tf 40 4) rfl rfl (anA HT_) (fun _ _ _ h => h) yldU putA ?_
                        refine pure_ (i := 40) (N := some 91) (tf 41 3) rfl rfl (anA HT_) (fun _ _ _ h => h) yldU putA ?_
                        refine pure_ (i := 41) (N := some 92) (tf 42 2) rfl rfl (anA HT_) (fun _ _ _ h => h) yldU putA ?_
                        refine pure_ (i := 42) (N := some 93) (tf 43 1) rfl rfl (anA HT_) (fun _ _ _ h => h) yldU putA ?_
                        refine pure_ (i := 43) (N := some 94) (tf 44 0) rfl rfl (anA HT_) (fun _ _ _ h => h) yldA putA ?_
                        refine done_ (done_of HT_.out (by kernel_rfl)) ?_
                        try go_wp2
                        go_ret
                        exact ⟨endA, belowA⟩
                    · rw [if_neg c20] at H
                      exact absurd H (by simp)
                  · rw [if_neg c19] at H
                    have c19b0 : decide (x7_3 < (t329.length : Int)) = false := decide_eq_false c19
                    clear c19
                    by_cases c43 : (t329.length : Int) = 0
                    · rw [if_pos c43] at H
                      exact absurd H (by simp)
                    · rw [if_neg c43] at H
                      have c43b0 : ((t329.length : Int) == 0) = false := beq_eq_false_iff_ne.mpr c43
                      have c43b1 : ((t329.length : Int) != 0) = true := bne_iff_ne.mpr c43
                      have c43b2 : ¬ (t329 = []) := fun h_ => c43 (by rw [h_]; rfl)
                      obtain ⟨y344, hy344⟩ : ∃ y_ : List (S29), y_ = (([] : List (S29))) := ⟨_, rfl⟩
                      replace H : (if y344.length + t329.length < 4398046511104 then ((some (y344 ++ t329 : List (S29))).bind fun y347 => (if 0 ≤ ((l1.length : Int) % (t329.length : Int)) then (if ((l1.length : Int) % (t329.length : Int)) < (t329.length : Int) then ((some (([(⟨(rd_T29 t329 ((l1.length : Int) % (t329.length : Int))).f0, (rd_T29 t329 ((l1.length : Int) % (t329.length : Int))).f1, (rd_T29 t329 ((l1.length : Int) % (t329.length : Int))).f2⟩ : S29)] : List (S29)) : List (S29))).bind fun y351 => (if y347.length + y351.length < 4398046511104 then ((impl_TreeOk.f (y347 ++ y351)).bind fun t357 => (if t357 = true then (some false) else (if 1 ≤ (t329.length : Int) then ((impl_TreeOk.f (t329.drop 1)).bind fun t362 => (if t362 = true then (some false) else ((impl_TreeNew.f).bind fun t363 => ((impl_TreeOk.f t363).bind fun t366 => (some t366))))) else (none)))) else (none))) else (none)) else (none))) else (none)) = some r := by first | (rw [hy344]; with_reducible exact H) | (have H2_ := (Option.bind_some _ _).symm.trans H; rw [hy344]; with_reducible exact H2_) | (have H2_ := (Option.bind_some _ _).symm.trans H; with_reducible exact H2_) | with_reducible exact H | (rw [hy344]; exact H) | exact H
                      have Ny344 := Aside0.mk hy344
                      clear hy344
                      by_cases c44 : y344.length + t329.length < 4398046511104
                      · rw [if_pos c44] at H
                        have LMc44 := Aside0.mk c44
                        clear c44
                        obtain ⟨y347, hy347⟩ : ∃ y_ : List (S29), y_ = (y344 ++ t329) := ⟨_, rfl⟩
                        replace H : (if 0 ≤ ((l1.length : Int) % (t329.length : Int)) then (if ((l1.length : Int) % (t329.length : Int)) < (t329.length : Int) then ((some (([(⟨(rd_T29 t329 ((l1.length : Int) % (t329.length : Int))).f0, (rd_T29 t329 ((l1.length : Int) % (t329.length : Int))).f1, (rd_T29 t329 ((l1.length : Int) % (t329.length : Int))).f2⟩ : S29)] : List (S29)) : List (S29))).bind fun y351 => (if y347.length + y351.length < 4398046511104 then ((impl_TreeOk.f (y347 ++ y351)).bind fun t357 => (if t357 = true then (some false) else (if 1 ≤ (t329.length : Int) then ((impl_TreeOk.f (t329.drop 1)).bind fun t362 => (if t362 = true then (some false) else ((impl_TreeNew.f).bind fun t363 => ((impl_TreeOk.f t363).bind fun t366 => (some t366))))) else (none)))) else (none))) else (none)) else (none)) = some r := by first | (rw [hy347]; with_reducible exact H) | (have H2_ := (Option.bind_some _ _).symm.trans H; rw [hy347]; with_reducible exact H2_) | (have H2_ := (Option.bind_some _ _).symm.trans H; with_reducible exact H2_) | with_reducible exact H | (rw [hy347]; exact H) | exact H
                        have Ny347 := Aside0.mk hy347
                        clear hy347
                        obtain ⟨ji45, hji45⟩ : ∃ j_ : Int, ((l1.length : Int) % (t329.length : Int)) = j_ := ⟨_, rfl⟩
                        replace H : (if 0 ≤ (ji45) then (if (ji45) < (t329.length : Int) then ((some (([(⟨(rd_T29 t329 (ji45)).f0, (rd_T29 t329 (ji45)).f1, (rd_T29 t329 (ji45)).f2⟩ : S29)] : List (S29)) : List (S29))).bind fun y351 => (if y347.length + y351.length < 4398046511104 then ((impl_TreeOk.f (y347 ++ y351)).bind fun t357 => (if t357 = true then (some false) else (if 1 ≤ (t329.length : Int) then ((impl_TreeOk.f (t329.drop 1)).bind fun t362 => (if t362 = true then (some false) else ((impl_TreeNew.f).bind fun t363 => ((impl_TreeOk.f t363).bind fun t366 => (some t366))))) else (none)))) else (none))) else (none)) else (none)) = some r := by first | (rw [hji45] at H; exact H) | (simp only [hji45] at H ⊢; exact H)
                        by_cases c46 : 0 ≤ (ji45)
                        · rw [if_pos c46] at H
                          have c46b0 : decide (0 ≤ (ji45)) = true := decide_eq_true c46
                          clear c46
                          by_cases c47 : (ji45) < (t329.length : Int)
                          · rw [if_pos c47] at H
                            have c47b0 : decide ((ji45) < (t329.length : Int)) = true := decide_eq_true c47
                            clear c47
                            obtain ⟨y351, hy351⟩ : ∃ y_ : List (S29), y_ = (([(⟨(rd_T29 t329 (ji45)).f0, (rd_T29 t329 (ji45)).f1, (rd_T29 t329 (ji45)).f2⟩ : S29)] : List (S29))) := ⟨_, rfl⟩
                            replace H : (if y347.length + y351.length < 4398046511104 then ((impl_TreeOk.f (y347 ++ y351)).bind fun t357 => (if t357 = true then (some false) else (if 1 ≤ (t329.length : Int) then ((impl_TreeOk.f (t329.drop 1)).bind fun t362 => (if t362 = true then (some false) else ((impl_TreeNew.f).bind fun t363 => ((impl_TreeOk.f t363).bind fun t366 => (some t366))))) else (none)))) else (none)) = some r := by first | (rw [hy351]; with_reducible exact H) | (have H2_ := (Option.bind_some _ _).symm.trans H; rw [hy351]; with_reducible exact H2_) | (have H2_ := (Option.bind_some _ _).symm.trans H; with_reducible exact H2_) | with_reducible exact H | (rw [hy351]; exact H) | exact H
                            have Ny351 := Aside0.mk hy351
                            clear hy351
                            by_cases c48 : y347.length + y351.length < 4398046511104
                            · rw [if_pos c48] at H
                              have LMc48 := Aside0.mk c48
                              clear c48
                              obtain ⟨y354, hy354⟩ : ∃ y_ : List (S29), y_ = (y347 ++ y351) := ⟨_, rfl⟩
                              replace H : ((impl_TreeOk.f y354).bind fun t357 => (if t357 = true then (some false) else (if 1 ≤ (t329.length : Int) then ((impl_TreeOk.f (t329.drop 1)).bind fun t362 => (if t362 = true then (some false) else ((impl_TreeNew.f).bind fun t363 => ((impl_TreeOk.f t363).bind fun t366 => (some t366))))) else (none)))) = some r := by first | (rw [hy354]; with_reducible exact H) | (have H2_ := (Option.bind_some _ _).symm.trans H; rw [hy354]; with_reducible exact H2_) | (have H2_ := (Option.bind_some _ _).symm.trans H; with_reducible exact H2_) | with_reducible exact H | (rw [hy354]; exact H) | exact H
                              have Ny354 := Aside0.mk hy354
                              clear hy354
                              replace H := Option.bind_eq_some_iff.mp H
                              obtain ⟨t357, A490, H⟩ := H
                              (try dsimp only at H)
                              have A49 := Aside0.mk A490
                              clear A490
                              by_cases c50 : t357 = true
                              · subst c50
                                have H1 : (some false) = some r := by rw [if_pos rfl] at H; exact H
                                clear H
                                have H := H1
                                clear H1
                                obtain rfl := Option.some.inj H
                                try go_wp2
                                have n0_ := Aside0.mk (Kd.Q_drew HO_5.out)
                                have n1_ := Aside0.mk (below_drew1 HB.out)
                                clear HO_5
                                clear HB
                                have HO_5 := n0_
                                have HB := n1_
                                clear n0_ n1_
                                have p350 : 0 ≤ ((ji45) : Int) := of_decide_eq_true (by first | (with_reducible assumption) | assumption)
                                have q350 : (ji45) < (t329.length : Int) := of_decide_eq_true (by first | (with_reducible assumption) | assumption)
                                obtain ⟨ad350, e350, hx350_0, hx350_1, hx350_2⟩ := at_T29 (Kd.Q_reads' HO_5.out).2.2 (ji45) p350 q350
                                cases e350
                                replace p350 := eq_true p350
                                replace q350 := eq_true q350
                                refine start_ (n := 22) (S := fun w' => w'.cell? (ad350.add (((ji45)).toNat * 3)) = some (.int .i64 ((rd_T29 t329 (ji45)).f0)) ∧ w'.cell? ⟨(ad350.add (((ji45)).toNat * 3)).block, (ad350.add (((ji45)).toNat * 3)).off + 1, none⟩ = some (.int .i64 ((rd_T29 t329 (ji45)).f1)) ∧ w'.cell? ⟨(ad350.add (((ji45)).toNat * 3)).block, (ad350.add (((ji45)).toNat * 3)).off + 2, none⟩ = some (.string ((rd_T29 t329 (ji45)).f2))) (ds := []) (tf 0 22) (by kernel_rfl) rfl rfl ⟨hx350_0, hx350_1, hx350_2⟩ (fun hHeld => ?_); refine with_tabW laws_FnTreeForm.tab14 laws_FnTreeForm.bits14 (fun HT_ HW_ => ?_)
                                generalize wr.drew = w51 at HO_5 HB hx350_0 hx350_1 hx350_2 hHeld ⊢
                                refine pure_ (i := 1) (N := some 101) #[false, true, false, false, false, false, false, false, false, false, false, false, false, false, false, false, false, false, false, false, false, false] rfl rfl (anA HT_) (fun _ _ _ h => h) yldA putA ?_
                                refine pure_ (i := 3) (N := some 103) #[false, true, false, true, false, false, false, false, false, false, false, false, false, false, false, false, false, false, false, false, false, false] rfl rfl (anA HT_) (fun _ _ _ h => h) yldA putA ?_
                                refine pure_ (i := 4) (N := some 104) #[false, true, false, true, true, false, false, false, false, false, false, false, false, false, false, false, false, false, false, false, false, false] rfl rfl (anA HT_) (fun _ _ _ h => h) yldA putA ?_
                                refine pure_ (i := 5) (N := some 105) #[false, true, false, true, true, true, false, false, false, false, false, false, false, false, false, false, false, false, false, false, false, false] rfl rfl (anA HT_) (fun _ _ _ h => h) yldA putA ?_
                                refine take_ (i := 6) (N := some 106) #[false, true, false, true, true, true, true, false, false, false, false, false, false, false, false, false, false, false, false, false, false, false] rfl rfl (take_ofW HT_.out HW_.out (by kernel_rfl)) (fun _ _ _ h => h) (Or.inl ⟨by rfl, by rintro w' ⟨s0, s1, s2⟩; go_simp; with_reducible rfl⟩) hHeld putA ?_
                                refine join_ (σ := Value × Value × Value) 14 (tf 8 14) (fun s_ => [(100, s_.1), (102, s_.2.1), (107, s_.2.2)]) (fun s_ w' => (w'.cell? (ad350.add (((ji45)).toNat * 3)) = some (.int .i64 ((rd_T29 t329 (ji45)).f0)) ∧ w'.cell? ⟨(ad350.add (((ji45)).toNat * 3)).block, (ad350.add (((ji45)).toNat * 3)).off + 1, none⟩ = some (.int .i64 ((rd_T29 t329 (ji45)).f1)) ∧ w'.cell? ⟨(ad350.add (((ji45)).toNat * 3)).block, (ad350.add (((ji45)).toNat * 3)).off + 2, none⟩ = some (.string ((rd_T29 t329 (ji45)).f2))) ∧ (Kd.R k29 29 w' w.heap.size (fun k_ => some k_ ≠ (s_.2.2 : Value).ownBlock ∧ some k_ ≠ (.slice (some ad350) t329.length co10 : Value).ownBlock) s_.2.1 y347) ∧ (Kd.R k29 29 w' w.heap.size (fun k_ => some k_ ≠ (s_.2.1 : Value).ownBlock ∧ some k_ ≠ (.slice (some ad350) t329.length co10 : Value).ownBlock) s_.2.2 y351) ∧ (Kd.Q k29 29 w' w.heap.size (fun k_ => some k_ ≠ (s_.2.1 : Value).ownBlock ∧ some k_ ≠ (s_.2.2 : Value).ownBlock) (.slice (some ad350) t329.length co10) t329) ∧ (Below w.heap.size w w')) ?_ ?_
                                rotate_left
                                · intro hCont
                                  refine two_ (i := 0) (j := 7) (Ni := some 100) (Nj := some 107) #[true, true, false, true, true, true, true, false, false, false, false, false, false, false, false, false, false, false, false, false, false, false] #[false, true, false, true, true, true, true, true, false, false, false, false, false, false, false, false, false, false, false, false, false, false] rfl rfl rfl rfl (two_of HT_.out (by kernel_rfl)) (by decide) (by decide) (fun K hK => ?_) (fun K hK => ?_)
                                  · skip
                                    refine Kd.R_lit_step k29 _ 29 ?hg (N := 100) ?hd (xs := ([] : List (S29))) (inner := []) (ok := fun _ => True) (okp := fun _ => True) ?hr ?hp (fun _ hk => hk) trivial (Below.refl _ _) (Nat.le_refl _) (by simp) ?_; (case hd => rfl); (case hg => rfl); (case hr => first | (go_simp; done) | (go_simp; rfl)); (case hp => exact (Reps.none _ _))
                                    intro v345 w52 ho53 hb hg_ hnew_
                                    have HS0_ := (hb.cell (World.block_lt_of_cell? _ _ (hHeld.1))).trans (hHeld.1)
                                    have HS1_ := (hb.cell (World.block_lt_of_cell? _ _ (hHeld.2.1))).trans (hHeld.2.1)
                                    have HS2_ := (hb.cell (World.block_lt_of_cell? _ _ (hHeld.2.2))).trans (hHeld.2.2)
                                    clear hg_ hnew_
                                    (first | rw [← Ny344.out] at ho53 | (simp only [Int.reduceToNat] at ho53; rw [← Ny344.out] at ho53))
                                    have n0_ := Aside0.mk (Kd.Q_elder' (by (with_reducible repeat (first | apply Kd.Q_alloc | apply Kd.Q_drewN | apply Kd.Q_drew)); exact HO_5.out) (Kd.R_base ho53) hb)
                                    have n1_ := Aside0.mk (Kd.R_lower (Kd.R_new' ho53 (Kd.Q_lt (by (with_reducible repeat (first | apply Kd.Q_alloc | apply Kd.Q_drewN | apply Kd.Q_drew)); exact HO_5.out))) (below_size belowA))
                                    have n2_ := Aside0.mk (below_step belowA hb)
                                    clear HO_5
                                    clear HB
                                    have HO_5 := n0_
                                    have HO346 := n1_
                                    have HB := n2_
                                    clear n0_ n1_ n2_
                                    clear hb ho53
                                    refine hK.out _ _ ⟨HS0_, HS1_, HS2_⟩ (fun hHeld => ?_)
                                    clear hK K
                                    refine norm_ (a' := ?_) ?_ ?_
                                    rotate_left
                                    · show Act.put _ (some 100) _ = _
                                      simp only [Act.put, List.setIfInBounds_toArray, List.set_cons_zero, List.set_cons_succ, i64_w, i32_w]
                                      rfl
                                    refine two_ (i := 2) (j := 7) (Ni := some 102) (Nj := some 107) (tf 7 15) #[true, true, false, true, true, true, true, true, false, false, false, false, false, false, false, false, false, false, false, false, false, false] rfl rfl rfl rfl (two_of HT_.out (by kernel_rfl)) (by decide) (by decide) (fun K hK => ?_) (fun K hK => ?_)
                                    · skip
                                      refine Kd.R_append_rows_step k29 (w0 := w) w.heap.size (by rfl) (.tmp 100) (.tmp 101) 23 29 (.agg #[(.int .i64 0), (.int .i64 0), (.string ⟨#[]⟩)]) 32 rfl Tryd.underlying23 info29 rfl (by decide) (by omega) v345 y344 t329 _ _ _ (fun k_ => some k_ ≠ (.slice (some ad350) t329.length co10 : Value).ownBlock) (fun _ => False) rfl rfl ?aO ?aR (fun _ _ h => h) (fun _ h => h.elim) ?aF ?aB ?aS ?aL ?_
                                      (case aR => repeat (first | exact (Kd.Q_reads' HO_5.out).2.2 | (with_reducible refine Kd.C_alloc ?_ _) | (with_reducible refine Kd.C_drewN ?_ _) | (with_reducible refine Kd.C_drew ?_)))
                                      (case aB => exact belowA)
                                      (case aF => exact (fun k_ hk => Kd.fresh' (Kd.Q_lt (by (with_reducible repeat (first | apply Kd.Q_alloc | apply Kd.Q_drewN | apply Kd.Q_drew)); exact HO_5.out)) k_ hk))
                                      (case aO => exact (by (with_reducible repeat (first | apply Kd.R_alloc | apply Kd.R_drewN | apply Kd.R_drew)); exact Kd.R_mono HO346.out (fun _ hk => hk.2)))
                                      (case aS => exact (below_size belowA))
                                      (case aL => have := LMc44.out; omega)
                                      intro v348 w54 ho hb hg hat
                                      have HS0_ := heldG hg HO346.out.1 (hHeld.1)
                                      have HS1_ := heldG hg HO346.out.1 (hHeld.2.1)
                                      have HS2_ := heldG hg HO346.out.1 (hHeld.2.2)
                                      rw [← Ny347.out] at ho
                                      have n0_ := Aside0.mk (Kd.Q_after (ok := (fun _ => True)) (by (with_reducible repeat (first | apply Kd.Q_alloc | apply Kd.Q_drewN | apply Kd.Q_drew)); exact HO_5.out) hg hat)
                                      have n1_ := Aside0.mk (hb)
                                      have n2_ := Aside0.mk (ho)
                                      clear HO_5
                                      clear HB
                                      clear HO346
                                      have HO_5 := n0_
                                      have HB := n1_
                                      have HO349 := n2_
                                      clear n0_ n1_ n2_
                                      clear ho hb hg hat
                                      refine hK.out _ _ ⟨HS0_, HS1_, HS2_⟩ (fun hHeld => ?_)
                                      clear hK K
                                      refine norm_ (a' := ?_) ?_ ?_
                                      rotate_left
                                      · show Act.put _ (some 102) _ = _
                                        simp only [Act.put, List.setIfInBounds_toArray, List.set_cons_zero, List.set_cons_succ, i64_w, i32_w]
                                        rfl
                                      refine one_ (i := 7) (N := some 107) (tf 8 14) rfl rfl (one_of HT_.out (by kernel_rfl)) (by decide) (fun K hK => ?_)
                                      refine Kd.R_lit_step k29 _ 29 ?hg (N := 107) ?hd (xs := ([(⟨(rd_T29 t329 (ji45)).f0, (rd_T29 t329 (ji45)).f1, (rd_T29 t329 (ji45)).f2⟩ : S29)] : List (S29))) (inner := [.int .i64 ((rd_T29 t329 (ji45)).f0), .int .i64 ((rd_T29 t329 (ji45)).f1), .string ((rd_T29 t329 (ji45)).f2)]) (ok := fun _ => True) (okp := fun _ => True) ?hr ?hp (fun _ hk => hk) trivial (Below.refl _ _) (Nat.le_refl _) (by simp) ?_; (case hd => rfl); (case hg => rfl); (case hr => first | (go_simp; done) | (go_simp; rfl)); (case hp => exact (Reps.c3 (show Kd.M k29 _ _ _ (⟨(rd_T29 t329 (ji45)).f0, (rd_T29 t329 (ji45)).f1, (rd_T29 t329 (ji45)).f2⟩ : S29) [.int .i64 ((rd_T29 t329 (ji45)).f0), .int .i64 ((rd_T29 t329 (ji45)).f1), .string ((rd_T29 t329 (ji45)).f2)] from (k29_mkM _ _ _ (⟨(rd_T29 t329 (ji45)).f0, (rd_T29 t329 (ji45)).f1, (rd_T29 t329 (ji45)).f2⟩ : S29) )) (Reps.none _ _)))
                                      intro v352 w55 ho56 hb hg_ hnew_
                                      have HS0_ := (hb.cell (World.block_lt_of_cell? _ _ (hHeld.1))).trans (hHeld.1)
                                      have HS1_ := (hb.cell (World.block_lt_of_cell? _ _ (hHeld.2.1))).trans (hHeld.2.1)
                                      have HS2_ := (hb.cell (World.block_lt_of_cell? _ _ (hHeld.2.2))).trans (hHeld.2.2)
                                      clear hg_ hnew_
                                      (first | rw [← Ny351.out] at ho56 | (simp only [Int.reduceToNat] at ho56; rw [← Ny351.out] at ho56))
                                      have n0_ := Aside0.mk (Kd.Q_elder' (by (with_reducible repeat (first | apply Kd.Q_alloc | apply Kd.Q_drewN | apply Kd.Q_drew)); exact HO_5.out) (Kd.R_base ho56) hb)
                                      have n1_ := Aside0.mk (Kd.R_elder' (RA HO349) (Kd.R_base ho56) hb)
                                      have n2_ := Aside0.mk (Kd.R_lower (Kd.R_new' (Kd.R_new' ho56 (Kd.Q_lt (by (with_reducible repeat (first | apply Kd.Q_alloc | apply Kd.Q_drewN | apply Kd.Q_drew)); exact HO_5.out))) (Kd.R_lt (RA HO349))) (below_size belowA))
                                      have n3_ := Aside0.mk (below_step belowA hb)
                                      clear HO_5
                                      clear HO349
                                      clear HB
                                      have HO_5 := n0_
                                      have HO349 := n1_
                                      have HO353 := n2_
                                      have HB := n3_
                                      clear n0_ n1_ n2_ n3_
                                      clear hb ho56
                                      refine hK.out _ _ ⟨HS0_, HS1_, HS2_⟩ (fun hHeld => ?_)
                                      clear hK K
                                      refine norm_ (a' := ?_) ?_ ?_
                                      rotate_left
                                      · show Act.put _ (some 107) _ = _
                                        simp only [Act.put, List.setIfInBounds_toArray, List.set_cons_zero, List.set_cons_succ, i64_w, i32_w]
                                        rfl
                                      exact norm_ (by simp only [putAll, Act.put, List.setIfInBounds_toArray, List.set_cons_zero, List.set_cons_succ]) (hCont (v345, v348, v352) _ ⟨hHeld, (by (with_reducible repeat (first | apply Kd.R_alloc | apply Kd.R_drewN | apply Kd.R_drew)); exact Kd.R_mono HO349.out (fun _ hk => ⟨hk.2, hk.1⟩)), (by (with_reducible repeat (first | apply Kd.R_alloc | apply Kd.R_drewN | apply Kd.R_drew)); exact Kd.R_mono HO353.out (fun _ hk => ⟨hk.2, hk.1.2⟩)), (by (with_reducible repeat (first | apply Kd.Q_alloc | apply Kd.Q_drewN | apply Kd.Q_drew)); exact Kd.Q_mono HO_5.out (fun _ hk => ⟨hk.1.2, hk.2⟩)), belowA⟩)
                                    · skip
                                      refine Kd.R_lit_step k29 _ 29 ?hg (N := 107) ?hd (xs := ([(⟨(rd_T29 t329 (ji45)).f0, (rd_T29 t329 (ji45)).f1, (rd_T29 t329 (ji45)).f2⟩ : S29)] : List (S29))) (inner := [.int .i64 ((rd_T29 t329 (ji45)).f0), .int .i64 ((rd_T29 t329 (ji45)).f1), .string ((rd_T29 t329 (ji45)).f2)]) (ok := fun _ => True) (okp := fun _ => True) ?hr ?hp (fun _ hk => hk) trivial (Below.refl _ _) (Nat.le_refl _) (by simp) ?_; (case hd => rfl); (case hg => rfl); (case hr => first | (go_simp; done) | (go_simp; rfl)); (case hp => exact (Reps.c3 (show Kd.M k29 _ _ _ (⟨(rd_T29 t329 (ji45)).f0, (rd_T29 t329 (ji45)).f1, (rd_T29 t329 (ji45)).f2⟩ : S29) [.int .i64 ((rd_T29 t329 (ji45)).f0), .int .i64 ((rd_T29 t329 (ji45)).f1), .string ((rd_T29 t329 (ji45)).f2)] from (k29_mkM _ _ _ (⟨(rd_T29 t329 (ji45)).f0, (rd_T29 t329 (ji45)).f1, (rd_T29 t329 (ji45)).f2⟩ : S29) )) (Reps.none _ _)))
                                      intro v352 w54 ho55 hb hg_ hnew_
                                      have HS0_ := (hb.cell (World.block_lt_of_cell? _ _ (hHeld.1))).trans (hHeld.1)
                                      have HS1_ := (hb.cell (World.block_lt_of_cell? _ _ (hHeld.2.1))).trans (hHeld.2.1)
                                      have HS2_ := (hb.cell (World.block_lt_of_cell? _ _ (hHeld.2.2))).trans (hHeld.2.2)
                                      clear hg_ hnew_
                                      (first | rw [← Ny351.out] at ho55 | (simp only [Int.reduceToNat] at ho55; rw [← Ny351.out] at ho55))
                                      have n0_ := Aside0.mk (Kd.Q_elder' (by (with_reducible repeat (first | apply Kd.Q_alloc | apply Kd.Q_drewN | apply Kd.Q_drew)); exact HO_5.out) (Kd.R_base ho55) hb)
                                      have n1_ := Aside0.mk (Kd.R_elder' (RA HO346) (Kd.R_base ho55) hb)
                                      have n2_ := Aside0.mk (Kd.R_lower (Kd.R_new' (Kd.R_new' ho55 (Kd.Q_lt (by (with_reducible repeat (first | apply Kd.Q_alloc | apply Kd.Q_drewN | apply Kd.Q_drew)); exact HO_5.out))) (Kd.R_lt (RA HO346))) (below_size belowA))
                                      have n3_ := Aside0.mk (below_step belowA hb)
                                      clear HO_5
                                      clear HO346
                                      clear HB
                                      have HO_5 := n0_
                                      have HO346 := n1_
                                      have HO353 := n2_
                                      have HB := n3_
                                      clear n0_ n1_ n2_ n3_
                                      clear hb ho55
                                      refine hK.out _ _ ⟨HS0_, HS1_, HS2_⟩ (fun hHeld => ?_)
                                      clear hK K
                                      refine norm_ (a' := ?_) ?_ ?_
                                      rotate_left
                                      · show Act.put _ (some 107) _ = _
                                        simp only [Act.put, List.setIfInBounds_toArray, List.set_cons_zero, List.set_cons_succ, i64_w, i32_w]
                                        rfl
                                      refine one_ (i := 2) (N := some 102) (tf 8 14) rfl rfl (one_of HT_.out (by kernel_rfl)) (by decide) (fun K hK => ?_)
                                      refine Kd.R_append_rows_step k29 (w0 := w) w.heap.size (by rfl) (.tmp 100) (.tmp 101) 23 29 (.agg #[(.int .i64 0), (.int .i64 0), (.string ⟨#[]⟩)]) 32 rfl Tryd.underlying23 info29 rfl (by decide) (by omega) v345 y344 t329 _ _ _ (fun k_ => some k_ ≠ (.slice (some ad350) t329.length co10 : Value).ownBlock ∧ some k_ ≠ (v352 : Value).ownBlock) (fun _ => False) rfl rfl ?aO ?aR (fun _ _ h => h) (fun _ h => h.elim) ?aF ?aB ?aS ?aL ?_
                                      (case aR => repeat (first | exact (Kd.Q_reads' HO_5.out).2.2 | (with_reducible refine Kd.C_alloc ?_ _) | (with_reducible refine Kd.C_drewN ?_ _) | (with_reducible refine Kd.C_drew ?_)))
                                      (case aB => exact belowA)
                                      (case aF => exact (fun k_ hk => ⟨Kd.fresh' (Kd.Q_lt (by (with_reducible repeat (first | apply Kd.Q_alloc | apply Kd.Q_drewN | apply Kd.Q_drew)); exact HO_5.out)) k_ hk, Kd.fresh' (Kd.R_lt (RA HO353)) k_ hk⟩))
                                      (case aO => exact (by (with_reducible repeat (first | apply Kd.R_alloc | apply Kd.R_drewN | apply Kd.R_drew)); exact Kd.R_mono HO346.out (fun _ hk => ⟨hk.1.2, hk.2⟩)))
                                      (case aS => exact (below_size belowA))
                                      (case aL => have := LMc44.out; omega)
                                      intro v348 w56 ho hb hg hat
                                      have HS0_ := heldG hg HO346.out.1 (hHeld.1)
                                      have HS1_ := heldG hg HO346.out.1 (hHeld.2.1)
                                      have HS2_ := heldG hg HO346.out.1 (hHeld.2.2)
                                      rw [← Ny347.out] at ho
                                      have n0_ := Aside0.mk (Kd.Q_after (ok := (fun k_ => some k_ ≠ (v352 : Value).ownBlock)) (by (with_reducible repeat (first | apply Kd.Q_alloc | apply Kd.Q_drewN | apply Kd.Q_drew)); exact Kd.Q_mono HO_5.out (fun _ hk => ⟨hk.2, hk.1.2⟩)) hg hat)
                                      have n1_ := Aside0.mk (Kd.R_after (ok := (fun k_ => some k_ ≠ (.slice (some ad350) t329.length co10 : Value).ownBlock)) (by (with_reducible repeat (first | apply Kd.R_alloc | apply Kd.R_drewN | apply Kd.R_drew)); exact Kd.R_mono HO353.out (fun _ hk => ⟨hk.1.2, hk.2⟩)) hg hat)
                                      have n2_ := Aside0.mk (hb)
                                      have n3_ := Aside0.mk (ho)
                                      clear HO_5
                                      clear HO353
                                      clear HB
                                      clear HO346
                                      have HO_5 := n0_
                                      have HO353 := n1_
                                      have HB := n2_
                                      have HO349 := n3_
                                      clear n0_ n1_ n2_ n3_
                                      clear ho hb hg hat
                                      refine hK.out _ _ ⟨HS0_, HS1_, HS2_⟩ (fun hHeld => ?_)
                                      clear hK K
                                      refine norm_ (a' := ?_) ?_ ?_
                                      rotate_left
                                      · show Act.put _ (some 102) _ = _
                                        simp only [Act.put, List.setIfInBounds_toArray, List.set_cons_zero, List.set_cons_succ, i64_w, i32_w]
                                        rfl
                                      exact norm_ (by simp only [putAll, Act.put, List.setIfInBounds_toArray, List.set_cons_zero, List.set_cons_succ]) (hCont (v345, v348, v352) _ ⟨hHeld, (by (with_reducible repeat (first | apply Kd.R_alloc | apply Kd.R_drewN | apply Kd.R_drew)); exact Kd.R_mono HO349.out (fun _ hk => ⟨hk.2, hk.1⟩)), (by (with_reducible repeat (first | apply Kd.R_alloc | apply Kd.R_drewN | apply Kd.R_drew)); exact Kd.R_mono HO353.out (fun _ hk => ⟨hk.2, hk.1⟩)), (by (with_reducible repeat (first | apply Kd.Q_alloc | apply Kd.Q_drewN | apply Kd.Q_drew)); exact Kd.Q_mono HO_5.out (fun _ hk => ⟨hk.2, hk.1⟩)), belowA⟩)
                                  · skip
                                    refine Kd.R_lit_step k29 _ 29 ?hg (N := 107) ?hd (xs := ([(⟨(rd_T29 t329 (ji45)).f0, (rd_T29 t329 (ji45)).f1, (rd_T29 t329 (ji45)).f2⟩ : S29)] : List (S29))) (inner := [.int .i64 ((rd_T29 t329 (ji45)).f0), .int .i64 ((rd_T29 t329 (ji45)).f1), .string ((rd_T29 t329 (ji45)).f2)]) (ok := fun _ => True) (okp := fun _ => True) ?hr ?hp (fun _ hk => hk) trivial (Below.refl _ _) (Nat.le_refl _) (by simp) ?_; (case hd => rfl); (case hg => rfl); (case hr => first | (go_simp; done) | (go_simp; rfl)); (case hp => exact (Reps.c3 (show Kd.M k29 _ _ _ (⟨(rd_T29 t329 (ji45)).f0, (rd_T29 t329 (ji45)).f1, (rd_T29 t329 (ji45)).f2⟩ : S29) [.int .i64 ((rd_T29 t329 (ji45)).f0), .int .i64 ((rd_T29 t329 (ji45)).f1), .string ((rd_T29 t329 (ji45)).f2)] from (k29_mkM _ _ _ (⟨(rd_T29 t329 (ji45)).f0, (rd_T29 t329 (ji45)).f1, (rd_T29 t329 (ji45)).f2⟩ : S29) )) (Reps.none _ _)))
                                    intro v352 w52 ho53 hb hg_ hnew_
                                    have HS0_ := (hb.cell (World.block_lt_of_cell? _ _ (hHeld.1))).trans (hHeld.1)
                                    have HS1_ := (hb.cell (World.block_lt_of_cell? _ _ (hHeld.2.1))).trans (hHeld.2.1)
                                    have HS2_ := (hb.cell (World.block_lt_of_cell? _ _ (hHeld.2.2))).trans (hHeld.2.2)
                                    clear hg_ hnew_
                                    (first | rw [← Ny351.out] at ho53 | (simp only [Int.reduceToNat] at ho53; rw [← Ny351.out] at ho53))
                                    have n0_ := Aside0.mk (Kd.Q_elder' (by (with_reducible repeat (first | apply Kd.Q_alloc | apply Kd.Q_drewN | apply Kd.Q_drew)); exact HO_5.out) (Kd.R_base ho53) hb)
                                    have n1_ := Aside0.mk (Kd.R_lower (Kd.R_new' ho53 (Kd.Q_lt (by (with_reducible repeat (first | apply Kd.Q_alloc | apply Kd.Q_drewN | apply Kd.Q_drew)); exact HO_5.out))) (below_size belowA))
                                    have n2_ := Aside0.mk (below_step belowA hb)
                                    clear HO_5
                                    clear HB
                                    have HO_5 := n0_
                                    have HO353 := n1_
                                    have HB := n2_
                                    clear n0_ n1_ n2_
                                    clear hb ho53
                                    refine hK.out _ _ ⟨HS0_, HS1_, HS2_⟩ (fun hHeld => ?_)
                                    clear hK K
                                    refine norm_ (a' := ?_) ?_ ?_
                                    rotate_left
                                    · show Act.put _ (some 107) _ = _
                                      simp only [Act.put, List.setIfInBounds_toArray, List.set_cons_zero, List.set_cons_succ, i64_w, i32_w]
                                      rfl
                                    refine one_ (i := 0) (N := some 100) #[true, true, false, true, true, true, true, true, false, false, false, false, false, false, false, false, false, false, false, false, false, false] rfl rfl (one_of HT_.out (by kernel_rfl)) (by decide) (fun K hK => ?_)
                                    refine Kd.R_lit_step k29 _ 29 ?hg (N := 100) ?hd (xs := ([] : List (S29))) (inner := []) (ok := fun _ => True) (okp := fun _ => True) ?hr ?hp (fun _ hk => hk) trivial (Below.refl _ _) (Nat.le_refl _) (by simp) ?_; (case hd => rfl); (case hg => rfl); (case hr => first | (go_simp; done) | (go_simp; rfl)); (case hp => exact (Reps.none _ _))
                                    intro v345 w54 ho55 hb hg_ hnew_
                                    have HS0_ := (hb.cell (World.block_lt_of_cell? _ _ (hHeld.1))).trans (hHeld.1)
                                    have HS1_ := (hb.cell (World.block_lt_of_cell? _ _ (hHeld.2.1))).trans (hHeld.2.1)
                                    have HS2_ := (hb.cell (World.block_lt_of_cell? _ _ (hHeld.2.2))).trans (hHeld.2.2)
                                    clear hg_ hnew_
                                    (first | rw [← Ny344.out] at ho55 | (simp only [Int.reduceToNat] at ho55; rw [← Ny344.out] at ho55))
                                    have n0_ := Aside0.mk (Kd.Q_elder' (by (with_reducible repeat (first | apply Kd.Q_alloc | apply Kd.Q_drewN | apply Kd.Q_drew)); exact HO_5.out) (Kd.R_base ho55) hb)
                                    have n1_ := Aside0.mk (Kd.R_elder' (RA HO353) (Kd.R_base ho55) hb)
                                    have n2_ := Aside0.mk (Kd.R_lower (Kd.R_new' (Kd.R_new' ho55 (Kd.Q_lt (by (with_reducible repeat (first | apply Kd.Q_alloc | apply Kd.Q_drewN | apply Kd.Q_drew)); exact HO_5.out))) (Kd.R_lt (RA HO353))) (below_size belowA))
                                    have n3_ := Aside0.mk (below_step belowA hb)
                                    clear HO_5
                                    clear HO353
                                    clear HB
                                    have HO_5 := n0_
                                    have HO353 := n1_
                                    have HO346 := n2_
                                    have HB := n3_
                                    clear n0_ n1_ n2_ n3_
                                    clear hb ho55
                                    refine hK.out _ _ ⟨HS0_, HS1_, HS2_⟩ (fun hHeld => ?_)
                                    clear hK K
                                    refine norm_ (a' := ?_) ?_ ?_
                                    rotate_left
                                    · show Act.put _ (some 100) _ = _
                                      simp only [Act.put, List.setIfInBounds_toArray, List.set_cons_zero, List.set_cons_succ, i64_w, i32_w]
                                      rfl
                                    refine one_ (i := 2) (N := some 102) (tf 8 14) rfl rfl (one_of HT_.out (by kernel_rfl)) (by decide) (fun K hK => ?_)
                                    refine Kd.R_append_rows_step k29 (w0 := w) w.heap.size (by rfl) (.tmp 100) (.tmp 101) 23 29 (.agg #[(.int .i64 0), (.int .i64 0), (.string ⟨#[]⟩)]) 32 rfl Tryd.underlying23 info29 rfl (by decide) (by omega) v345 y344 t329 _ _ _ (fun k_ => some k_ ≠ (.slice (some ad350) t329.length co10 : Value).ownBlock ∧ some k_ ≠ (v352 : Value).ownBlock) (fun _ => False) rfl rfl ?aO ?aR (fun _ _ h => h) (fun _ h => h.elim) ?aF ?aB ?aS ?aL ?_
                                    (case aR => repeat (first | exact (Kd.Q_reads' HO_5.out).2.2 | (with_reducible refine Kd.C_alloc ?_ _) | (with_reducible refine Kd.C_drewN ?_ _) | (with_reducible refine Kd.C_drew ?_)))
                                    (case aB => exact belowA)
                                    (case aF => exact (fun k_ hk => ⟨Kd.fresh' (Kd.Q_lt (by (with_reducible repeat (first | apply Kd.Q_alloc | apply Kd.Q_drewN | apply Kd.Q_drew)); exact HO_5.out)) k_ hk, Kd.fresh' (Kd.R_lt (RA HO353)) k_ hk⟩))
                                    (case aO => exact (by (with_reducible repeat (first | apply Kd.R_alloc | apply Kd.R_drewN | apply Kd.R_drew)); exact Kd.R_mono HO346.out (fun _ hk => ⟨hk.1.2, hk.2⟩)))
                                    (case aS => exact (below_size belowA))
                                    (case aL => have := LMc44.out; omega)
                                    intro v348 w56 ho hb hg hat
                                    have HS0_ := heldG hg HO346.out.1 (hHeld.1)
                                    have HS1_ := heldG hg HO346.out.1 (hHeld.2.1)
                                    have HS2_ := heldG hg HO346.out.1 (hHeld.2.2)
                                    rw [← Ny347.out] at ho
                                    have n0_ := Aside0.mk (Kd.Q_after (ok := (fun k_ => some k_ ≠ (v352 : Value).ownBlock)) (by (with_reducible repeat (first | apply Kd.Q_alloc | apply Kd.Q_drewN | apply Kd.Q_drew)); exact Kd.Q_mono HO_5.out (fun _ hk => ⟨hk.1.2, hk.2⟩)) hg hat)
                                    have n1_ := Aside0.mk (Kd.R_after (ok := (fun k_ => some k_ ≠ (.slice (some ad350) t329.length co10 : Value).ownBlock)) (by (with_reducible repeat (first | apply Kd.R_alloc | apply Kd.R_drewN | apply Kd.R_drew)); exact Kd.R_mono HO353.out (fun _ hk => ⟨hk.1.2, hk.2⟩)) hg hat)
                                    have n2_ := Aside0.mk (hb)
                                    have n3_ := Aside0.mk (ho)
                                    clear HO_5
                                    clear HO353
                                    clear HB
                                    clear HO346
                                    have HO_5 := n0_
                                    have HO353 := n1_
                                    have HB := n2_
                                    have HO349 := n3_
                                    clear n0_ n1_ n2_ n3_
                                    clear ho hb hg hat
                                    refine hK.out _ _ ⟨HS0_, HS1_, HS2_⟩ (fun hHeld => ?_)
                                    clear hK K
                                    refine norm_ (a' := ?_) ?_ ?_
                                    rotate_left
                                    · show Act.put _ (some 102) _ = _
                                      simp only [Act.put, List.setIfInBounds_toArray, List.set_cons_zero, List.set_cons_succ, i64_w, i32_w]
                                      rfl
                                    exact norm_ (by simp only [putAll, Act.put, List.setIfInBounds_toArray, List.set_cons_zero, List.set_cons_succ]) (hCont (v345, v348, v352) _ ⟨hHeld, (by (with_reducible repeat (first | apply Kd.R_alloc | apply Kd.R_drewN | apply Kd.R_drew)); exact Kd.R_mono HO349.out (fun _ hk => ⟨hk.2, hk.1⟩)), (by (with_reducible repeat (first | apply Kd.R_alloc | apply Kd.R_drewN | apply Kd.R_drew)); exact Kd.R_mono HO353.out (fun _ hk => ⟨hk.2, hk.1⟩)), (by (with_reducible repeat (first | apply Kd.Q_alloc | apply Kd.Q_drewN | apply Kd.Q_drew)); exact Kd.Q_mono HO_5.out (fun _ hk => ⟨hk.2, hk.1⟩)), belowA⟩)
                                rintro ⟨v345, v348, v352⟩ w57 ⟨hS_, h0_, h1_, h2_, h3_⟩
                                have n0_ : Aside0 (Kd.R k29 29 w57 w.heap.size (fun k_ => some k_ ≠ (v352 : Value).ownBlock ∧ some k_ ≠ (.slice (some ad350) t329.length co10 : Value).ownBlock) v348 y347) := ⟨h0_⟩
                                have n1_ : Aside0 (Kd.R k29 29 w57 w.heap.size (fun k_ => some k_ ≠ (v348 : Value).ownBlock ∧ some k_ ≠ (.slice (some ad350) t329.length co10 : Value).ownBlock) v352 y351) := ⟨h1_⟩
                                have n2_ : Aside0 (Kd.Q k29 29 w57 w.heap.size (fun k_ => some k_ ≠ (v348 : Value).ownBlock ∧ some k_ ≠ (v352 : Value).ownBlock) (.slice (some ad350) t329.length co10) t329) := ⟨h2_⟩
                                have n3_ : Aside0 (Below w.heap.size w w57) := ⟨h3_⟩
                                clear HO_5
                                clear HB
                                clear h0_ h1_ h2_ h3_
                                have HO349 := n0_
                                have HO353 := n1_
                                have HO_5 := n2_
                                have HB := n3_
                                clear n0_ n1_ n2_ n3_
                                have hHeld : w57.cell? (ad350.add (((ji45)).toNat * 3)) = some (.int .i64 ((rd_T29 t329 (ji45)).f0)) ∧ w57.cell? ⟨(ad350.add (((ji45)).toNat * 3)).block, (ad350.add (((ji45)).toNat * 3)).off + 1, none⟩ = some (.int .i64 ((rd_T29 t329 (ji45)).f1)) ∧ w57.cell? ⟨(ad350.add (((ji45)).toNat * 3)).block, (ad350.add (((ji45)).toNat * 3)).off + 2, none⟩ = some (.string ((rd_T29 t329 (ji45)).f2)) := hS_
                                obtain ⟨Ao59, co59, eo59⟩ := Kd.R_slice HO353.out
                                (first | subst eo59 | (injection eo59 with f1_ f2_ f3_; have f4_ := f1_.symm; have f5_ := f3_.symm; clear f1_ f2_ f3_; subst f4_; subst f5_))
                                refine norm_ (a' := ?_) ?_ ?_
                                rotate_left
                                · simp only [putAll, Act.put, List.setIfInBounds_toArray, List.set_cons_zero, List.set_cons_succ]
                                  rfl
                                refine one_ (i := 8) (N := some 108) (tf 9 13) rfl rfl (one_of HT_.out (by kernel_rfl)) (by decide) (fun K hK => ?_)
                                refine Kd.R_append_rows_step k29 (w0 := w) w.heap.size (by rfl) (.tmp 102) (.tmp 107) 23 29 (.agg #[(.int .i64 0), (.int .i64 0), (.string ⟨#[]⟩)]) 32 rfl Tryd.underlying23 info29 rfl (by decide) (by omega) v348 y347 y351 _ _ _ (fun k_ => some k_ ≠ (.slice (some ad350) t329.length co10 : Value).ownBlock ∧ some k_ ≠ (.slice Ao59 y351.length co59 : Value).ownBlock) (fun _ => False) rfl rfl ?aO ?aR (fun _ _ h => h) (fun _ h => h.elim) ?aF ?aB ?aS ?aL ?_
                                (case aR => repeat (first | exact (Kd.R_reads' HO353.out).2.2 | (with_reducible refine Kd.C_alloc ?_ _) | (with_reducible refine Kd.C_drewN ?_ _) | (with_reducible refine Kd.C_drew ?_)))
                                (case aB => exact belowA)
                                (case aF => exact (fun k_ hk => ⟨Kd.fresh' (Kd.Q_lt (by (with_reducible repeat (first | apply Kd.Q_alloc | apply Kd.Q_drewN | apply Kd.Q_drew)); exact HO_5.out)) k_ hk, Kd.fresh' (Kd.R_lt (RA HO353)) k_ hk⟩))
                                (case aO => exact (by (with_reducible repeat (first | apply Kd.R_alloc | apply Kd.R_drewN | apply Kd.R_drew)); exact Kd.R_mono HO349.out (fun _ hk => ⟨hk.2, hk.1⟩)))
                                (case aS => exact (below_size belowA))
                                (case aL => have := LMc48.out; omega)
                                intro v355 w58 ho hb hg hat
                                have HS0_ := heldG hg HO349.out.1 (hHeld.1)
                                have HS1_ := heldG hg HO349.out.1 (hHeld.2.1)
                                have HS2_ := heldG hg HO349.out.1 (hHeld.2.2)
                                rw [← Ny354.out] at ho
                                have n0_ := Aside0.mk (Kd.Q_after (ok := (fun k_ => some k_ ≠ (.slice Ao59 y351.length co59 : Value).ownBlock)) (by (with_reducible repeat (first | apply Kd.Q_alloc | apply Kd.Q_drewN | apply Kd.Q_drew)); exact Kd.Q_mono HO_5.out (fun _ hk => ⟨hk.2, hk.1⟩)) hg hat)
                                have n1_ := Aside0.mk (Kd.R_after (ok := (fun k_ => some k_ ≠ (.slice (some ad350) t329.length co10 : Value).ownBlock)) (by (with_reducible repeat (first | apply Kd.R_alloc | apply Kd.R_drewN | apply Kd.R_drew)); exact Kd.R_mono HO353.out (fun _ hk => ⟨hk.2, hk.1⟩)) hg hat)
                                have n2_ := Aside0.mk (hb)
                                have n3_ := Aside0.mk (ho)
                                clear HO_5
                                clear HO353
                                clear HB
                                clear HO349
                                have HO_5 := n0_
                                have HO353 := n1_
                                have HB := n2_
                                have HO356 := n3_
                                clear n0_ n1_ n2_ n3_
                                clear ho hb hg hat
                                obtain ⟨Ao60, co60, eo60⟩ := Kd.R_slice HO356.out
                                (first | subst eo60 | (injection eo60 with f1_ f2_ f3_; have f4_ := f1_.symm; have f5_ := f3_.symm; clear f1_ f2_ f3_; subst f4_; subst f5_))
                                refine hK.out _ _ ⟨HS0_, HS1_, HS2_⟩ (fun hHeld => ?_)
                                clear hK K
                                refine norm_ (a' := ?_) ?_ ?_
                                rotate_left
                                · show Act.put _ (some 108) _ = _
                                  simp only [Act.put, List.setIfInBounds_toArray, List.set_cons_zero, List.set_cons_succ, i64_w, i32_w]
                                  rfl
                                refine one_ (i := 9) (N := some 109) (tf 10 12) rfl rfl (one_of HT_.out (by kernel_rfl)) (by decide) (fun K hK => ?_)
                                refine goes_ Tryd.func10 (by kernel_rfl) rfl #[.slice Ao60 y354.length co60] (by rfl) rfl rfl argsA ?_
                                with_reducible refine (impl_TreeOk.calls _ _ y354 true _ ?side1 ?side2 ?side3 A49.out).mono ?_
                                (case side1 => repeat (first | exact (Kd.R_reads' HO356.out).2.2 | (with_reducible refine Kd.C_alloc ?_ _) | (with_reducible refine Kd.C_drewN ?_ _) | (with_reducible refine Kd.C_drew ?_)))
                                (case side2 => exact (Kd.R_reads' HO356.out).2.1)
                                (case side3 => exact TabOk.below HT.out belowA)
                                rintro e w61 ⟨rfl, hb⟩
                                have HS0_ := (hb.cell (World.block_lt_of_cell? _ _ (hHeld.1))).trans (hHeld.1)
                                have HS1_ := (hb.cell (World.block_lt_of_cell? _ _ (hHeld.2.1))).trans (hHeld.2.1)
                                have HS2_ := (hb.cell (World.block_lt_of_cell? _ _ (hHeld.2.2))).trans (hHeld.2.2)
                                refine ⟨_, rfl, ?_⟩
                                have n0_ := Aside0.mk (Kd.Q_below (by (with_reducible repeat (first | apply Kd.Q_alloc | apply Kd.Q_drewN | apply Kd.Q_drew)); exact HO_5.out) hb)
                                have n1_ := Aside0.mk (Kd.R_below (RA HO353) hb)
                                have n2_ := Aside0.mk (Kd.R_below (RA HO356) hb)
                                have n3_ := Aside0.mk (below_step belowA hb)
                                clear HO_5
                                clear HO353
                                clear HO356
                                clear HB
                                have HO_5 := n0_
                                have HO353 := n1_
                                have HO356 := n2_
                                have HB := n3_
                                clear n0_ n1_ n2_ n3_
                                (try clear hb)
                                (try clear hb2)
                                (try clear hk)
                                (try clear hi)
                                refine hK.out _ _ ⟨HS0_, HS1_, HS2_⟩ (fun hHeld => ?_)
                                clear hK K
                                refine norm_ (a' := ?_) ?_ ?_
                                rotate_left
                                · show Act.put _ (some 109) _ = _
                                  simp only [Act.put, List.setIfInBounds_toArray, List.set_cons_zero, List.set_cons_succ, i64_w, i32_w]
                                  rfl
                                refine pure_ (i := 10) (N := some 110) (tf 11 11) rfl rfl (anA HT_) (fun _ _ _ h => h) yldA putA ?_
                                refine pure_ (i := 11) (N := some 111) (tf 12 10) rfl rfl (anA HT_) (fun _ _ _ h => h) yldA putA ?_
                                refine pure_ (i := 12) (N := some 112) (tf 13 9) rfl rfl (anA HT_) (fun _ _ _ h => h) yldU putA ?_
                                refine pure_ (i := 13) (N := some 113) (tf 14 8) rfl rfl (anA HT_) (fun _ _ _ h => h) yldU putA ?_
                                refine pure_ (i := 14) (N := some 114) (tf 15 7) rfl rfl (anA HT_) (fun _ _ _ h => h) yldU putA ?_
                                refine pure_ (i := 15) (N := some 115) (tf 16 6) rfl rfl (anA HT_) (fun _ _ _ h => h) yldU putA ?_
                                refine pure_ (i := 16) (N := some 116) (tf 17 5) rfl rfl (anA HT_) (fun _ _ _ h => h) yldA putA ?_
                                refine pure_ (i := 17) (N := some 117) (tf 18 4) rfl rfl (anA HT_) (fun _ _ _ h => h) yldA putA ?_
                                refine pure_ (i := 18) (N := some 118) (tf 19 3) rfl rfl (anA HT_) (fun _ _ _ h => h) yldU putA ?_
                                refine pure_ (i := 19) (N := some 119) (tf 20 2) rfl rfl (anA HT_) (fun _ _ _ h => h) yldU putA ?_
                                refine pure_ (i := 20) (N := some 120) (tf 21 1) rfl rfl (anA HT_) (fun _ _ _ h => h) yldA putA ?_
                                refine pure_ (i := 21) (N := some 4) (tf 22 0) rfl rfl (anA HT_) (fun _ _ _ h => h) yldA putA ?_
                                refine done_ (done_of HT_.out (by kernel_rfl)) ?_
                                try go_wp2
                                go_ret
                                exact ⟨by first | rfl | (simp [errW_none, errW_some] <;> rfl) | (simp only [← hji45]; first | rfl | (simp [errW_none, errW_some] <;> rfl)) | (simp [*, errW_none, errW_some] <;> rfl), belowA⟩
                              · replace c50 := Bool.eq_false_iff.mpr c50
                                subst c50
                                have H1 : (if 1 ≤ (t329.length : Int) then ((impl_TreeOk.f (t329.drop 1)).bind fun t362 => (if t362 = true then (some false) else ((impl_TreeNew.f).bind fun t363 => ((impl_TreeOk.f t363).bind fun t366 => (some t366))))) else (none)) = some r := by rw [if_neg (show ¬ (false = true) by decide)] at H; exact H
                                clear H
                                have H := H1
                                clear H1
                                by_cases c62 : 1 ≤ (t329.length : Int)
                                · rw [if_pos c62] at H
                                  have c62b0 := eq_true c62
                                  have c62b1 : decide (1 ≤ (t329.length : Int)) = true := decide_eq_true c62
                                  clear c62
                                  obtain ⟨y358, hy358⟩ : ∃ y_ : List (S29), y_ = (t329.drop 1) := ⟨_, rfl⟩
                                  replace H : ((impl_TreeOk.f y358).bind fun t362 => (if t362 = true then (some false) else ((impl_TreeNew.f).bind fun t363 => ((impl_TreeOk.f t363).bind fun t366 => (some t366))))) = some r := by first | (rw [hy358]; with_reducible exact H) | (have H2_ := (Option.bind_some _ _).symm.trans H; rw [hy358]; with_reducible exact H2_) | (have H2_ := (Option.bind_some _ _).symm.trans H; with_reducible exact H2_) | with_reducible exact H | (rw [hy358]; exact H) | exact H
                                  have Ny358 := Aside0.mk hy358
                                  clear hy358
                                  replace H := Option.bind_eq_some_iff.mp H
                                  obtain ⟨t362, A630, H⟩ := H
                                  (try dsimp only at H)
                                  have A63 := Aside0.mk A630
                                  clear A630
                                  by_cases c64 : t362 = true
                                  · subst c64
                                    have H1 : (some false) = some r := by rw [if_pos rfl] at H; exact H
                                    clear H
                                    have H := H1
                                    clear H1
                                    obtain rfl := Option.some.inj H
                                    try go_wp2
                                    have n0_ := Aside0.mk (Kd.Q_drew HO_5.out)
                                    have n1_ := Aside0.mk (below_drew1 HB.out)
                                    clear HO_5
                                    clear HB
                                    have HO_5 := n0_
                                    have HB := n1_
                                    clear n0_ n1_
                                    have p350 : 0 ≤ ((ji45) : Int) := of_decide_eq_true (by first | (with_reducible assumption) | assumption)
                                    have q350 : (ji45) < (t329.length : Int) := of_decide_eq_true (by first | (with_reducible assumption) | assumption)
                                    obtain ⟨ad350, e350, hx350_0, hx350_1, hx350_2⟩ := at_T29 (Kd.Q_reads' HO_5.out).2.2 (ji45) p350 q350
                                    cases e350
                                    replace p350 := eq_true p350
                                    replace q350 := eq_true q350
                                    refine start_ (n := 22) (S := fun w' => w'.cell? (ad350.add (((ji45)).toNat * 3)) = some (.int .i64 ((rd_T29 t329 (ji45)).f0)) ∧ w'.cell? ⟨(ad350.add (((ji45)).toNat * 3)).block, (ad350.add (((ji45)).toNat * 3)).off + 1, none⟩ = some (.int .i64 ((rd_T29 t329 (ji45)).f1)) ∧ w'.cell? ⟨(ad350.add (((ji45)).toNat * 3)).block, (ad350.add (((ji45)).toNat * 3)).off + 2, none⟩ = some (.string ((rd_T29 t329 (ji45)).f2))) (ds := []) (tf 0 22) (by kernel_rfl) rfl rfl ⟨hx350_0, hx350_1, hx350_2⟩ (fun hHeld => ?_); refine with_tabW laws_FnTreeForm.tab14 laws_FnTreeForm.bits14 (fun HT_ HW_ => ?_)
                                    generalize wr.drew = w65 at HO_5 HB hx350_0 hx350_1 hx350_2 hHeld ⊢
                                    refine pure_ (i := 1) (N := some 101) #[false, true, false, false, false, false, false, false, false, false, false, false, false, false, false, false, false, false, false, false, false, false] rfl rfl (anA HT_) (fun _ _ _ h => h) yldA putA ?_
                                    refine pure_ (i := 3) (N := some 103) #[false, true, false, true, false, false, false, false, false, false, false, false, false, false, false, false, false, false, false, false, false, false] rfl rfl (anA HT_) (fun _ _ _ h => h) yldA putA ?_
                                    refine pure_ (i := 4) (N := some 104) #[false, true, false, true, true, false, false, false, false, false, false, false, false, false, false, false, false, false, false, false, false, false] rfl rfl (anA HT_) (fun _ _ _ h => h) yldA putA ?_
                                    refine pure_ (i := 5) (N := some 105) #[false, true, false, true, true, true, false, false, false, false, false, false, false, false, false, false, false, false, false, false, false, false] rfl rfl (anA HT_) (fun _ _ _ h => h) yldA putA ?_
                                    refine take_ (i := 6) (N := some 106) #[false, true, false, true, true, true, true, false, false, false, false, false, false, false, false, false, false, false, false, false, false, false] rfl rfl (take_ofW HT_.out HW_.out (by kernel_rfl)) (fun _ _ _ h => h) (Or.inl ⟨by rfl, by rintro w' ⟨s0, s1, s2⟩; go_simp; with_reducible rfl⟩) hHeld putA ?_
                                    refine join_ (σ := Value × Value × Value) 14 (tf 8 14) (fun s_ => [(100, s_.1), (102, s_.2.1), (107, s_.2.2)]) (fun s_ w' => (w'.cell? (ad350.add (((ji45)).toNat * 3)) = some (.int .i64 ((rd_T29 t329 (ji45)).f0)) ∧ w'.cell? ⟨(ad350.add (((ji45)).toNat * 3)).block, (ad350.add (((ji45)).toNat * 3)).off + 1, none⟩ = some (.int .i64 ((rd_T29 t329 (ji45)).f1)) ∧ w'.cell? ⟨(ad350.add (((ji45)).toNat * 3)).block, (ad350.add (((ji45)).toNat * 3)).off + 2, none⟩ = some (.string ((rd_T29 t329 (ji45)).f2))) ∧ (Kd.R k29 29 w' w.heap.size (fun k_ => some k_ ≠ (s_.2.2 : Value).ownBlock ∧ some k_ ≠ (.slice (some ad350) t329.length co10 : Value).ownBlock) s_.2.1 y347) ∧ (Kd.R k29 29 w' w.heap.size (fun k_ => some k_ ≠ (s_.2.1 : Value).ownBlock ∧ some k_ ≠ (.slice (some ad350) t329.length co10 : Value).ownBlock) s_.2.2 y351) ∧ (Kd.Q k29 29 w' w.heap.size (fun k_ => some k_ ≠ (s_.2.1 : Value).ownBlock ∧ some k_ ≠ (s_.2.2 : Value).ownBlock) (.slice (some ad350) t329.length co10) t329) ∧ (Below w.heap.size w w')) ?_ ?_
                                    rotate_left
                                    · intro hCont
                                      refine two_ (i := 0) (j := 7) (Ni := some 100) (Nj := some 107) #[true, true, false, true, true, true, true, false, false, false, false, false, false, false, false, false, false, false, false, false, false, false] #[false, true, false, true, true, true, true, true, false, false, false, false, false, false, false, false, false, false, false, false, false, false] rfl rfl rfl rfl (two_of HT_.out (by kernel_rfl)) (by decide) (by decide) (fun K hK => ?_) (fun K hK => ?_)
                                      · skip
                                        refine Kd.R_lit_step k29 _ 29 ?hg (N := 100) ?hd (xs := ([] : List (S29))) (inner := []) (ok := fun _ => True) (okp := fun _ => True) ?hr ?hp (fun _ hk => hk) trivial (Below.refl _ _) (Nat.le_refl _) (by simp) ?_; (case hd => rfl); (case hg => rfl); (case hr => first | (go_simp; done) | (go_simp; rfl)); (case hp => exact (Reps.none _ _))
                                        intro v345 w66 ho67 hb hg_ hnew_
                                        have HS0_ := (hb.cell (World.block_lt_of_cell? _ _ (hHeld.1))).trans (hHeld.1)
                                        have HS1_ := (hb.cell (World.block_lt_of_cell? _ _ (hHeld.2.1))).trans (hHeld.2.1)
                                        have HS2_ := (hb.cell (World.block_lt_of_cell? _ _ (hHeld.2.2))).trans (hHeld.2.2)
                                        clear hg_ hnew_
                                        (first | rw [← Ny344.out] at ho67 | (simp only [Int.reduceToNat] at ho67; rw [← Ny344.out] at ho67))
                                        have n0_ := Aside0.mk (Kd.Q_elder' (by (with_reducible repeat (first | apply Kd.Q_alloc | apply Kd.Q_drewN | apply Kd.Q_drew)); exact HO_5.out) (Kd.R_base ho67) hb)
                                        have n1_ := Aside0.mk (Kd.R_lower (Kd.R_new' ho67 (Kd.Q_lt (by (with_reducible repeat (first | apply Kd.Q_alloc | apply Kd.Q_drewN | apply Kd.Q_drew)); exact HO_5.out))) (below_size belowA))
                                        have n2_ := Aside0.mk (below_step belowA hb)
                                        clear HO_5
                                        clear HB
                                        have HO_5 := n0_
                                        have HO346 := n1_
                                        have HB := n2_
                                        clear n0_ n1_ n2_
                                        clear hb ho67
                                        refine hK.out _ _ ⟨HS0_, HS1_, HS2_⟩ (fun hHeld => ?_)
                                        clear hK K
                                        refine norm_ (a' := ?_) ?_ ?_
                                        rotate_left
                                        · show Act.put _ (some 100) _ = _
                                          simp only [Act.put, List.setIfInBounds_toArray, List.set_cons_zero, List.set_cons_succ, i64_w, i32_w]
                                          rfl
                                        refine two_ (i := 2) (j := 7) (Ni := some 102) (Nj := some 107) (tf 7 15) #[true, true, false, true, true, true, true, true, false, false, false, false, false, false, false, false, false, false, false, false, false, false] rfl rfl rfl rfl (two_of HT_.out (by kernel_rfl)) (by decide) (by decide) (fun K hK => ?_) (fun K hK => ?_)
                                        · skip
                                          refine Kd.R_append_rows_step k29 (w0 := w) w.heap.size (by rfl) (.tmp 100) (.tmp 101) 23 29 (.agg #[(.int .i64 0), (.int .i64 0), (.string ⟨#[]⟩)]) 32 rfl Tryd.underlying23 info29 rfl (by decide) (by omega) v345 y344 t329 _ _ _ (fun k_ => some k_ ≠ (.slice (some ad350) t329.length co10 : Value).ownBlock) (fun _ => False) rfl rfl ?aO ?aR (fun _ _ h => h) (fun _ h => h.elim) ?aF ?aB ?aS ?aL ?_
                                          (case aR => repeat (first | exact (Kd.Q_reads' HO_5.out).2.2 | (with_reducible refine Kd.C_alloc ?_ _) | (with_reducible refine Kd.C_drewN ?_ _) | (with_reducible refine Kd.C_drew ?_)))
                                          (case aB => exact belowA)
                                          (case aF => exact (fun k_ hk => Kd.fresh' (Kd.Q_lt (by (with_reducible repeat (first | apply Kd.Q_alloc | apply Kd.Q_drewN | apply Kd.Q_drew)); exact HO_5.out)) k_ hk))
                                          (case aO => exact (by (with_reducible repeat (first | apply Kd.R_alloc | apply Kd.R_drewN | apply Kd.R_drew)); exact Kd.R_mono HO346.out (fun _ hk => hk.2)))
                                          (case aS => exact (below_size belowA))
                                          (case aL => have := LMc44.out; omega)
                                          intro v348 w68 ho hb hg hat
                                          have HS0_ := heldG hg HO346.out.1 (hHeld.1)
                                          have HS1_ := heldG hg HO346.out.1 (hHeld.2.1)
                                          have HS2_ := heldG hg HO346.out.1 (hHeld.2.2)
                                          rw [← Ny347.out] at ho
                                          have n0_ := Aside0.mk (Kd.Q_after (ok := (fun _ => True)) (by (with_reducible repeat (first | apply Kd.Q_alloc | apply Kd.Q_drewN | apply Kd.Q_drew)); exact HO_5.out) hg hat)
                                          have n1_ := Aside0.mk (hb)
                                          have n2_ := Aside0.mk (ho)
                                          clear HO_5
                                          clear HB
                                          clear HO346
                                          have HO_5 := n0_
                                          have HB := n1_
                                          have HO349 := n2_
                                          clear n0_ n1_ n2_
                                          clear ho hb hg hat
                                          refine hK.out _ _ ⟨HS0_, HS1_, HS2_⟩ (fun hHeld => ?_)
                                          clear hK K
                                          refine norm_ (a' := ?_) ?_ ?_
                                          rotate_left
                                          · show Act.put _ (some 102) _ = _
                                            simp only [Act.put, List.setIfInBounds_toArray, List.set_cons_zero, List.set_cons_succ, i64_w, i32_w]
                                            rfl
                                          refine one_ (i := 7) (N := some 107) (tf 8 14) rfl rfl (one_of HT_.out (by kernel_rfl)) (by decide) (fun K hK => ?_)
                                          refine Kd.R_lit_step k29 _ 29 ?hg (N := 107) ?hd (xs := ([(⟨(rd_T29 t329 (ji45)).f0, (rd_T29 t329 (ji45)).f1, (rd_T29 t329 (ji45)).f2⟩ : S29)] : List (S29))) (inner := [.int .i64 ((rd_T29 t329 (ji45)).f0), .int .i64 ((rd_T29 t329 (ji45)).f1), .string ((rd_T29 t329 (ji45)).f2)]) (ok := fun _ => True) (okp := fun _ => True) ?hr ?hp (fun _ hk => hk) trivial (Below.refl _ _) (Nat.le_refl _) (by simp) ?_; (case hd => rfl); (case hg => rfl); (case hr => first | (go_simp; done) | (go_simp; rfl)); (case hp => exact (Reps.c3 (show Kd.M k29 _ _ _ (⟨(rd_T29 t329 (ji45)).f0, (rd_T29 t329 (ji45)).f1, (rd_T29 t329 (ji45)).f2⟩ : S29) [.int .i64 ((rd_T29 t329 (ji45)).f0), .int .i64 ((rd_T29 t329 (ji45)).f1), .string ((rd_T29 t329 (ji45)).f2)] from (k29_mkM _ _ _ (⟨(rd_T29 t329 (ji45)).f0, (rd_T29 t329 (ji45)).f1, (rd_T29 t329 (ji45)).f2⟩ : S29) )) (Reps.none _ _)))
                                          intro v352 w69 ho70 hb hg_ hnew_
                                          have HS0_ := (hb.cell (World.block_lt_of_cell? _ _ (hHeld.1))).trans (hHeld.1)
                                          have HS1_ := (hb.cell (World.block_lt_of_cell? _ _ (hHeld.2.1))).trans (hHeld.2.1)
                                          have HS2_ := (hb.cell (World.block_lt_of_cell? _ _ (hHeld.2.2))).trans (hHeld.2.2)
                                          clear hg_ hnew_
                                          (first | rw [← Ny351.out] at ho70 | (simp only [Int.reduceToNat] at ho70; rw [← Ny351.out] at ho70))
                                          have n0_ := Aside0.mk (Kd.Q_elder' (by (with_reducible repeat (first | apply Kd.Q_alloc | apply Kd.Q_drewN | apply Kd.Q_drew)); exact HO_5.out) (Kd.R_base ho70) hb)
                                          have n1_ := Aside0.mk (Kd.R_elder' (RA HO349) (Kd.R_base ho70) hb)
                                          have n2_ := Aside0.mk (Kd.R_lower (Kd.R_new' (Kd.R_new' ho70 (Kd.Q_lt (by (with_reducible repeat (first | apply Kd.Q_alloc | apply Kd.Q_drewN | apply Kd.Q_drew)); exact HO_5.out))) (Kd.R_lt (RA HO349))) (below_size belowA))
                                          have n3_ := Aside0.mk (below_step belowA hb)
                                          clear HO_5
                                          clear HO349
                                          clear HB
                                          have HO_5 := n0_
                                          have HO349 := n1_
                                          have HO353 := n2_
                                          have HB := n3_
                                          clear n0_ n1_ n2_ n3_
                                          clear hb ho70
                                          refine hK.out _ _ ⟨HS0_, HS1_, HS2_⟩ (fun hHeld => ?_)
                                          clear hK K
                                          refine norm_ (a' := ?_) ?_ ?_
                                          rotate_left
                                          · show Act.put _ (some 107) _ = _
                                            simp only [Act.put, List.setIfInBounds_toArray, List.set_cons_zero, List.set_cons_succ, i64_w, i32_w]
                                            rfl
                                          exact norm_ (by simp only [putAll, Act.put, List.setIfInBounds_toArray, List.set_cons_zero, List.set_cons_succ]) (hCont (v345, v348, v352) _ ⟨hHeld, (by (with_reducible repeat (first | apply Kd.R_alloc | apply Kd.R_drewN | apply Kd.R_drew)); exact Kd.R_mono HO349.out (fun _ hk => ⟨hk.2, hk.1⟩)), (by (with_reducible repeat (first | apply Kd.R_alloc | apply Kd.R_drewN | apply Kd.R_drew)); exact Kd.R_mono HO353.out (fun _ hk => ⟨hk.2, hk.1.2⟩)), (by (with_reducible repeat (first | apply Kd.Q_alloc | apply Kd.Q_drewN | apply Kd.Q_drew)); exact Kd.Q_mono HO_5.out (fun _ hk => ⟨hk.1.2, hk.2⟩)), belowA⟩)
                                        · skip
                                          refine Kd.R_lit_step k29 _ 29 ?hg (N := 107) ?hd (xs := ([(⟨(rd_T29 t329 (ji45)).f0, (rd_T29 t329 (ji45)).f1, (rd_T29 t329 (ji45)).f2⟩ : S29)] : List (S29))) (inner := [.int .i64 ((rd_T29 t329 (ji45)).f0), .int .i64 ((rd_T29 t329 (ji45)).f1), .string ((rd_T29 t329 (ji45)).f2)]) (ok := fun _ => True) (okp := fun _ => True) ?hr ?hp (fun _ hk => hk) trivial (Below.refl _ _) (Nat.le_refl _) (by simp) ?_; (case hd => rfl); (case hg => rfl); (case hr => first | (go_simp; done) | (go_simp; rfl)); (case hp => exact (Reps.c3 (show Kd.M k29 _ _ _ (⟨(rd_T29 t329 (ji45)).f0, (rd_T29 t329 (ji45)).f1, (rd_T29 t329 (ji45)).f2⟩ : S29) [.int .i64 ((rd_T29 t329 (ji45)).f0), .int .i64 ((rd_T29 t329 (ji45)).f1), .string ((rd_T29 t329 (ji45)).f2)] from (k29_mkM _ _ _ (⟨(rd_T29 t329 (ji45)).f0, (rd_T29 t329 (ji45)).f1, (rd_T29 t329 (ji45)).f2⟩ : S29) )) (Reps.none _ _)))
                                          intro v352 w68 ho69 hb hg_ hnew_
                                          have HS0_ := (hb.cell (World.block_lt_of_cell? _ _ (hHeld.1))).trans (hHeld.1)
                                          have HS1_ := (hb.cell (World.block_lt_of_cell? _ _ (hHeld.2.1))).trans (hHeld.2.1)
                                          have HS2_ := (hb.cell (World.block_lt_of_cell? _ _ (hHeld.2.2))).trans (hHeld.2.2)
                                          clear hg_ hnew_
                                          (first | rw [← Ny351.out] at ho69 | (simp only [Int.reduceToNat] at ho69; rw [← Ny351.out] at ho69))
                                          have n0_ := Aside0.mk (Kd.Q_elder' (by (with_reducible repeat (first | apply Kd.Q_alloc | apply Kd.Q_drewN | apply Kd.Q_drew)); exact HO_5.out) (Kd.R_base ho69) hb)
                                          have n1_ := Aside0.mk (Kd.R_elder' (RA HO346) (Kd.R_base ho69) hb)
                                          have n2_ := Aside0.mk (Kd.R_lower (Kd.R_new' (Kd.R_new' ho69 (Kd.Q_lt (by (with_reducible repeat (first | apply Kd.Q_alloc | apply Kd.Q_drewN | apply Kd.Q_drew)); exact HO_5.out))) (Kd.R_lt (RA HO346))) (below_size belowA))
                                          have n3_ := Aside0.mk (below_step belowA hb)
                                          clear HO_5
                                          clear HO346
                                          clear HB
                                          have HO_5 := n0_
                                          have HO346 := n1_
                                          have HO353 := n2_
                                          have HB := n3_
                                          clear n0_ n1_ n2_ n3_
                                          clear hb ho69
                                          refine hK.out _ _ ⟨HS0_, HS1_, HS2_⟩ (fun hHeld => ?_)
                                          clear hK K
                                          refine norm_ (a' := ?_) ?_ ?_
                                          rotate_left
                                          · show Act.put _ (some 107) _ = _
                                            simp only [Act.put, List.setIfInBounds_toArray, List.set_cons_zero, List.set_cons_succ, i64_w, i32_w]
                                            rfl
                                          refine one_ (i := 2) (N := some 102) (tf 8 14) rfl rfl (one_of HT_.out (by kernel_rfl)) (by decide) (fun K hK => ?_)
                                          refine Kd.R_append_rows_step k29 (w0 := w) w.heap.size (by rfl) (.tmp 100) (.tmp 101) 23 29 (.agg #[(.int .i64 0), (.int .i64 0), (.string ⟨#[]⟩)]) 32 rfl Tryd.underlying23 info29 rfl (by decide) (by omega) v345 y344 t329 _ _ _ (fun k_ => some k_ ≠ (.slice (some ad350) t329.length co10 : Value).ownBlock ∧ some k_ ≠ (v352 : Value).ownBlock) (fun _ => False) rfl rfl ?aO ?aR (fun _ _ h => h) (fun _ h => h.elim) ?aF ?aB ?aS ?aL ?_
                                          (case aR => repeat (first | exact (Kd.Q_reads' HO_5.out).2.2 | (with_reducible refine Kd.C_alloc ?_ _) | (with_reducible refine Kd.C_drewN ?_ _) | (with_reducible refine Kd.C_drew ?_)))
                                          (case aB => exact belowA)
                                          (case aF => exact (fun k_ hk => ⟨Kd.fresh' (Kd.Q_lt (by (with_reducible repeat (first | apply Kd.Q_alloc | apply Kd.Q_drewN | apply Kd.Q_drew)); exact HO_5.out)) k_ hk, Kd.fresh' (Kd.R_lt (RA HO353)) k_ hk⟩))
                                          (case aO => exact (by (with_reducible repeat (first | apply Kd.R_alloc | apply Kd.R_drewN | apply Kd.R_drew)); exact Kd.R_mono HO346.out (fun _ hk => ⟨hk.1.2, hk.2⟩)))
                                          (case aS => exact (below_size belowA))
                                          (case aL => have := LMc44.out; omega)
                                          intro v348 w70 ho hb hg hat
                                          have HS0_ := heldG hg HO346.out.1 (hHeld.1)
                                          have HS1_ := heldG hg HO346.out.1 (hHeld.2.1)
                                          have HS2_ := heldG hg HO346.out.1 (hHeld.2.2)
                                          rw [← Ny347.out] at ho
                                          have n0_ := Aside0.mk (Kd.Q_after (ok := (fun k_ => some k_ ≠ (v352 : Value).ownBlock)) (by (with_reducible repeat (first | apply Kd.Q_alloc | apply Kd.Q_drewN | apply Kd.Q_drew)); exact Kd.Q_mono HO_5.out (fun _ hk => ⟨hk.2, hk.1.2⟩)) hg hat)
                                          have n1_ := Aside0.mk (Kd.R_after (ok := (fun k_ => some k_ ≠ (.slice (some ad350) t329.length co10 : Value).ownBlock)) (by (with_reducible repeat (first | apply Kd.R_alloc | apply Kd.R_drewN | apply Kd.R_drew)); exact Kd.R_mono HO353.out (fun _ hk => ⟨hk.1.2, hk.2⟩)) hg hat)
                                          have n2_ := Aside0.mk (hb)
                                          have n3_ := Aside0.mk (ho)
                                          clear HO_5
                                          clear HO353
                                          clear HB
                                          clear HO346
                                          have HO_5 := n0_
                                          have HO353 := n1_
                                          have HB := n2_
                                          have HO349 := n3_
                                          clear n0_ n1_ n2_ n3_
                                          clear ho hb hg hat
                                          refine hK.out _ _ ⟨HS0_, HS1_, HS2_⟩ (fun hHeld => ?_)
                                          clear hK K
                                          refine norm_ (a' := ?_) ?_ ?_
                                          rotate_left
                                          · show Act.put _ (some 102) _ = _
                                            simp only [Act.put, List.setIfInBounds_toArray, List.set_cons_zero, List.set_cons_succ, i64_w, i32_w]
                                            rfl
                                          exact norm_ (by simp only [putAll, Act.put, List.setIfInBounds_toArray, List.set_cons_zero, List.set_cons_succ]) (hCont (v345, v348, v352) _ ⟨hHeld, (by (with_reducible repeat (first | apply Kd.R_alloc | apply Kd.R_drewN | apply Kd.R_drew)); exact Kd.R_mono HO349.out (fun _ hk => ⟨hk.2, hk.1⟩)), (by (with_reducible repeat (first | apply Kd.R_alloc | apply Kd.R_drewN | apply Kd.R_drew)); exact Kd.R_mono HO353.out (fun _ hk => ⟨hk.2, hk.1⟩)), (by (with_reducible repeat (first | apply Kd.Q_alloc | apply Kd.Q_drewN | apply Kd.Q_drew)); exact Kd.Q_mono HO_5.out (fun _ hk => ⟨hk.2, hk.1⟩)), belowA⟩)
                                      · skip
                                        refine Kd.R_lit_step k29 _ 29 ?hg (N := 107) ?hd (xs := ([(⟨(rd_T29 t329 (ji45)).f0, (rd_T29 t329 (ji45)).f1, (rd_T29 t329 (ji45)).f2⟩ : S29)] : List (S29))) (inner := [.int .i64 ((rd_T29 t329 (ji45)).f0), .int .i64 ((rd_T29 t329 (ji45)).f1), .string ((rd_T29 t329 (ji45)).f2)]) (ok := fun _ => True) (okp := fun _ => True) ?hr ?hp (fun _ hk => hk) trivial (Below.refl _ _) (Nat.le_refl _) (by simp) ?_; (case hd => rfl); (case hg => rfl); (case hr => first | (go_simp; done) | (go_simp; rfl)); (case hp => exact (Reps.c3 (show Kd.M k29 _ _ _ (⟨(rd_T29 t329 (ji45)).f0, (rd_T29 t329 (ji45)).f1, (rd_T29 t329 (ji45)).f2⟩ : S29) [.int .i64 ((rd_T29 t329 (ji45)).f0), .int .i64 ((rd_T29 t329 (ji45)).f1), .string ((rd_T29 t329 (ji45)).f2)] from (k29_mkM _ _ _ (⟨(rd_T29 t329 (ji45)).f0, (rd_T29 t329 (ji45)).f1, (rd_T29 t329 (ji45)).f2⟩ : S29) )) (Reps.none _ _)))
                                        intro v352 w66 ho67 hb hg_ hnew_
                                        have HS0_ := (hb.cell (World.block_lt_of_cell? _ _ (hHeld.1))).trans (hHeld.1)
                                        have HS1_ := (hb.cell (World.block_lt_of_cell? _ _ (hHeld.2.1))).trans (hHeld.2.1)
                                        have HS2_ := (hb.cell (World.block_lt_of_cell? _ _ (hHeld.2.2))).trans (hHeld.2.2)
                                        clear hg_ hnew_
                                        (first | rw [← Ny351.out] at ho67 | (simp only [Int.reduceToNat] at ho67; rw [← Ny351.out] at ho67))
                                        have n0_ := Aside0.mk (Kd.Q_elder' (by (with_reducible repeat (first | apply Kd.Q_alloc | apply Kd.Q_drewN | apply Kd.Q_drew)); exact HO_5.out) (Kd.R_base ho67) hb)
                                        have n1_ := Aside0.mk (Kd.R_lower (Kd.R_new' ho67 (Kd.Q_lt (by (with_reducible repeat (first | apply Kd.Q_alloc | apply Kd.Q_drewN | apply Kd.Q_drew)); exact HO_5.out))) (below_size belowA))
                                        have n2_ := Aside0.mk (below_step belowA hb)
                                        clear HO_5
                                        clear HB
                                        have HO_5 := n0_
                                        have HO353 := n1_
                                        have HB := n2_
                                        clear n0_ n1_ n2_
                                        clear hb ho67
                                        refine hK.out _ _ ⟨HS0_, HS1_, HS2_⟩ (fun hHeld => ?_)
                                        clear hK K
                                        refine norm_ (a' := ?_) ?_ ?_
                                        rotate_left
                                        · show Act.put _ (some 107) _ = _
                                          simp only [Act.put, List.setIfInBounds_toArray, List.set_cons_zero, List.set_cons_succ, i64_w, i32_w]
                                          rfl
                                        refine one_ (i := 0) (N := some 100) #[true, true, false, true, true, true, true, true, false, false, false, false, false, false, false, false, false, false, false, false, false, false] rfl rfl (one_of HT_.out (by kernel_rfl)) (by decide) (fun K hK => ?_)
                                        refine Kd.R_lit_step k29 _ 29 ?hg (N := 100) ?hd (xs := ([] : List (S29))) (inner := []) (ok := fun _ => True) (okp := fun _ => True) ?hr ?hp (fun _ hk => hk) trivial (Below.refl _ _) (Nat.le_refl _) (by simp) ?_; (case hd => rfl); (case hg => rfl); (case hr => first | (go_simp; done) | (go_simp; rfl)); (case hp => exact (Reps.none _ _))
                                        intro v345 w68 ho69 hb hg_ hnew_
                                        have HS0_ := (hb.cell (World.block_lt_of_cell? _ _ (hHeld.1))).trans (hHeld.1)
                                        have HS1_ := (hb.cell (World.block_lt_of_cell? _ _ (hHeld.2.1))).trans (hHeld.2.1)
                                        have HS2_ := (hb.cell (World.block_lt_of_cell? _ _ (hHeld.2.2))).trans (hHeld.2.2)
                                        clear hg_ hnew_
                                        (first | rw [← Ny344.out] at ho69 | (simp only [Int.reduceToNat] at ho69; rw [← Ny344.out] at ho69))
                                        have n0_ := Aside0.mk (Kd.Q_elder' (by (with_reducible repeat (first | apply Kd.Q_alloc | apply Kd.Q_drewN | apply Kd.Q_drew)); exact HO_5.out) (Kd.R_base ho69) hb)
                                        have n1_ := Aside0.mk (Kd.R_elder' (RA HO353) (Kd.R_base ho69) hb)
                                        have n2_ := Aside0.mk (Kd.R_lower (Kd.R_new' (Kd.R_new' ho69 (Kd.Q_lt (by (with_reducible repeat (first | apply Kd.Q_alloc | apply Kd.Q_drewN | apply Kd.Q_drew)); exact HO_5.out))) (Kd.R_lt (RA HO353))) (below_size belowA))
                                        have n3_ := Aside0.mk (below_step belowA hb)
                                        clear HO_5
                                        clear HO353
                                        clear HB
                                        have HO_5 := n0_
                                        have HO353 := n1_
                                        have HO346 := n2_
                                        have HB := n3_
                                        clear n0_ n1_ n2_ n3_
                                        clear hb ho69
                                        refine hK.out _ _ ⟨HS0_, HS1_, HS2_⟩ (fun hHeld => ?_)
                                        clear hK K
                                        refine norm_ (a' := ?_) ?_ ?_
                                        rotate_left
                                        · show Act.put _ (some 100) _ = _
                                          simp only [Act.put, List.setIfInBounds_toArray, List.set_cons_zero, List.set_cons_succ, i64_w, i32_w]
                                          rfl
                                        refine one_ (i := 2) (N := some 102) (tf 8 14) rfl rfl (one_of HT_.out (by kernel_rfl)) (by decide) (fun K hK => ?_)
                                        refine Kd.R_append_rows_step k29 (w0 := w) w.heap.size (by rfl) (.tmp 100) (.tmp 101) 23 29 (.agg #[(.int .i64 0), (.int .i64 0), (.string ⟨#[]⟩)]) 32 rfl Tryd.underlying23 info29 rfl (by decide) (by omega) v345 y344 t329 _ _ _ (fun k_ => some k_ ≠ (.slice (some ad350) t329.length co10 : Value).ownBlock ∧ some k_ ≠ (v352 : Value).ownBlock) (fun _ => False) rfl rfl ?aO ?aR (fun _ _ h => h) (fun _ h => h.elim) ?aF ?aB ?aS ?aL ?_
                                        (case aR => repeat (first | exact (Kd.Q_reads' HO_5.out).2.2 | (with_reducible refine Kd.C_alloc ?_ _) | (with_reducible refine Kd.C_drewN ?_ _) | (with_reducible refine Kd.C_drew ?_)))
                                        (case aB => exact belowA)
                                        (case aF => exact (fun k_ hk => ⟨Kd.fresh' (Kd.Q_lt (by (with_reducible repeat (first | apply Kd.Q_alloc | apply Kd.Q_drewN | apply Kd.Q_drew)); exact HO_5.out)) k_ hk, Kd.fresh' (Kd.R_lt (RA HO353)) k_ hk⟩))
                                        (case aO => exact (by (with_reducible repeat (first | apply Kd.R_alloc | apply Kd.R_drewN | apply Kd.R_drew)); exact Kd.R_mono HO346.out (fun _ hk => ⟨hk.1.2, hk.2⟩)))
                                        (case aS => exact (below_size belowA))
                                        (case aL => have := LMc44.out; omega)
                                        intro v348 w70 ho hb hg hat
                                        have HS0_ := heldG hg HO346.out.1 (hHeld.1)
                                        have HS1_ := heldG hg HO346.out.1 (hHeld.2.1)
                                        have HS2_ := heldG hg HO346.out.1 (hHeld.2.2)
                                        rw [← Ny347.out] at ho
                                        have n0_ := Aside0.mk (Kd.Q_after (ok := (fun k_ => some k_ ≠ (v352 : Value).ownBlock)) (by (with_reducible repeat (first | apply Kd.Q_alloc | apply Kd.Q_drewN | apply Kd.Q_drew)); exact Kd.Q_mono HO_5.out (fun _ hk => ⟨hk.1.2, hk.2⟩)) hg hat)
                                        have n1_ := Aside0.mk (Kd.R_after (ok := (fun k_ => some k_ ≠ (.slice (some ad350) t329.length co10 : Value).ownBlock)) (by (with_reducible repeat (first | apply Kd.R_alloc | apply Kd.R_drewN | apply Kd.R_drew)); exact Kd.R_mono HO353.out (fun _ hk => ⟨hk.1.2, hk.2⟩)) hg hat)
                                        have n2_ := Aside0.mk (hb)
                                        have n3_ := Aside0.mk (ho)
                                        clear HO_5
                                        clear HO353
                                        clear HB
                                        clear HO346
                                        have HO_5 := n0_
                                        have HO353 := n1_
                                        have HB := n2_
                                        have HO349 := n3_
                                        clear n0_ n1_ n2_ n3_
                                        clear ho hb hg hat
                                        refine hK.out _ _ ⟨HS0_, HS1_, HS2_⟩ (fun hHeld => ?_)
                                        clear hK K
                                        refine norm_ (a' := ?_) ?_ ?_
                                        rotate_left
                                        · show Act.put _ (some 102) _ = _
                                          simp only [Act.put, List.setIfInBounds_toArray, List.set_cons_zero, List.set_cons_succ, i64_w, i32_w]
                                          rfl
                                        exact norm_ (by simp only [putAll, Act.put, List.setIfInBounds_toArray, List.set_cons_zero, List.set_cons_succ]) (hCont (v345, v348, v352) _ ⟨hHeld, (by (with_reducible repeat (first | apply Kd.R_alloc | apply Kd.R_drewN | apply Kd.R_drew)); exact Kd.R_mono HO349.out (fun _ hk => ⟨hk.2, hk.1⟩)), (by (with_reducible repeat (first | apply Kd.R_alloc | apply Kd.R_drewN | apply Kd.R_drew)); exact Kd.R_mono HO353.out (fun _ hk => ⟨hk.2, hk.1⟩)), (by (with_reducible repeat (first | apply Kd.Q_alloc | apply Kd.Q_drewN | apply Kd.Q_drew)); exact Kd.Q_mono HO_5.out (fun _ hk => ⟨hk.2, hk.1⟩)), belowA⟩)
                                    rintro ⟨v345, v348, v352⟩ w71 ⟨hS_, h0_, h1_, h2_, h3_⟩
                                    have n0_ : Aside0 (Kd.R k29 29 w71 w.heap.size (fun k_ => some k_ ≠ (v352 : Value).ownBlock ∧ some k_ ≠ (.slice (some ad350) t329.length co10 : Value).ownBlock) v348 y347) := ⟨h0_⟩
                                    have n1_ : Aside0 (Kd.R k29 29 w71 w.heap.size (fun k_ => some k_ ≠ (v348 : Value).ownBlock ∧ some k_ ≠ (.slice (some ad350) t329.length co10 : Value).ownBlock) v352 y351) := ⟨h1_⟩
                                    have n2_ : Aside0 (Kd.Q k29 29 w71 w.heap.size (fun k_ => some k_ ≠ (v348 : Value).ownBlock ∧ some k_ ≠ (v352 : Value).ownBlock) (.slice (some ad350) t329.length co10) t329) := ⟨h2_⟩
                                    have n3_ : Aside0 (Below w.heap.size w w71) := ⟨h3_⟩
                                    clear HO_5
                                    clear HB
                                    clear h0_ h1_ h2_ h3_
                                    have HO349 := n0_
                                    have HO353 := n1_
                                    have HO_5 := n2_
                                    have HB := n3_
                                    clear n0_ n1_ n2_ n3_
                                    have hHeld : w71.cell? (ad350.add (((ji45)).toNat * 3)) = some (.int .i64 ((rd_T29 t329 (ji45)).f0)) ∧ w71.cell? ⟨(ad350.add (((ji45)).toNat * 3)).block, (ad350.add (((ji45)).toNat * 3)).off + 1, none⟩ = some (.int .i64 ((rd_T29 t329 (ji45)).f1)) ∧ w71.cell? ⟨(ad350.add (((ji45)).toNat * 3)).block, (ad350.add (((ji45)).toNat * 3)).off + 2, none⟩ = some (.string ((rd_T29 t329 (ji45)).f2)) := hS_
                                    obtain ⟨Ao73, co73, eo73⟩ := Kd.R_slice HO353.out
                                    (first | subst eo73 | (injection eo73 with f1_ f2_ f3_; have f4_ := f1_.symm; have f5_ := f3_.symm; clear f1_ f2_ f3_; subst f4_; subst f5_))
                                    refine norm_ (a' := ?_) ?_ ?_
                                    rotate_left
                                    · simp only [putAll, Act.put, List.setIfInBounds_toArray, List.set_cons_zero, List.set_cons_succ]
                                      rfl
                                    refine one_ (i := 8) (N := some 108) (tf 9 13) rfl rfl (one_of HT_.out (by kernel_rfl)) (by decide) (fun K hK => ?_)
                                    refine Kd.R_append_rows_step k29 (w0 := w) w.heap.size (by rfl) (.tmp 102) (.tmp 107) 23 29 (.agg #[(.int .i64 0), (.int .i64 0), (.string ⟨#[]⟩)]) 32 rfl Tryd.underlying23 info29 rfl (by decide) (by omega) v348 y347 y351 _ _ _ (fun k_ => some k_ ≠ (.slice (some ad350) t329.length co10 : Value).ownBlock ∧ some k_ ≠ (.slice Ao73 y351.length co73 : Value).ownBlock) (fun _ => False) rfl rfl ?aO ?aR (fun _ _ h => h) (fun _ h => h.elim) ?aF ?aB ?aS ?aL ?_
                                    (case aR => repeat (first | exact (Kd.R_reads' HO353.out).2.2 | (with_reducible refine Kd.C_alloc ?_ _) | (with_reducible refine Kd.C_drewN ?_ _) | (with_reducible refine Kd.C_drew ?_)))
                                    (case aB => exact belowA)
                                    (case aF => exact (fun k_ hk => ⟨Kd.fresh' (Kd.Q_lt (by (with_reducible repeat (first | apply Kd.Q_alloc | apply Kd.Q_drewN | apply Kd.Q_drew)); exact HO_5.out)) k_ hk, Kd.fresh' (Kd.R_lt (RA HO353)) k_ hk⟩))
                                    (case aO => exact (by (with_reducible repeat (first | apply Kd.R_alloc | apply Kd.R_drewN | apply Kd.R_drew)); exact Kd.R_mono HO349.out (fun _ hk => ⟨hk.2, hk.1⟩)))
                                    (case aS => exact (below_size belowA))
                                    (case aL => have := LMc48.out; omega)
                                    intro v355 w72 ho hb hg hat
                                    have HS0_ := heldG hg HO349.out.1 (hHeld.1)
                                    have HS1_ := heldG hg HO349.out.1 (hHeld.2.1)
                                    have HS2_ := heldG hg HO349.out.1 (hHeld.2.2)
                                    rw [← Ny354.out] at ho
                                    have n0_ := Aside0.mk (Kd.Q_after (ok := (fun k_ => some k_ ≠ (.slice Ao73 y351.length co73 : Value).ownBlock)) (by (with_reducible repeat (first | apply Kd.Q_alloc | apply Kd.Q_drewN | apply Kd.Q_drew)); exact Kd.Q_mono HO_5.out (fun _ hk => ⟨hk.2, hk.1⟩)) hg hat)
                                    have n1_ := Aside0.mk (Kd.R_after (ok := (fun k_ => some k_ ≠ (.slice (some ad350) t329.length co10 : Value).ownBlock)) (by (with_reducible repeat (first | apply Kd.R_alloc | apply Kd.R_drewN | apply Kd.R_drew)); exact Kd.R_mono HO353.out (fun _ hk => ⟨hk.2, hk.1⟩)) hg hat)
                                    have n2_ := Aside0.mk (hb)
                                    have n3_ := Aside0.mk (ho)
                                    clear HO_5
                                    clear HO353
                                    clear HB
                                    clear HO349
                                    have HO_5 := n0_
                                    have HO353 := n1_
                                    have HB := n2_
                                    have HO356 := n3_
                                    clear n0_ n1_ n2_ n3_
                                    clear ho hb hg hat
                                    obtain ⟨Ao74, co74, eo74⟩ := Kd.R_slice HO356.out
                                    (first | subst eo74 | (injection eo74 with f1_ f2_ f3_; have f4_ := f1_.symm; have f5_ := f3_.symm; clear f1_ f2_ f3_; subst f4_; subst f5_))
                                    refine hK.out _ _ ⟨HS0_, HS1_, HS2_⟩ (fun hHeld => ?_)
                                    clear hK K
                                    refine norm_ (a' := ?_) ?_ ?_
                                    rotate_left
                                    · show Act.put _ (some 108) _ = _
                                      simp only [Act.put, List.setIfInBounds_toArray, List.set_cons_zero, List.set_cons_succ, i64_w, i32_w]
                                      rfl
                                    refine one_ (i := 9) (N := some 109) (tf 10 12) rfl rfl (one_of HT_.out (by kernel_rfl)) (by decide) (fun K hK => ?_)
                                    refine goes_ Tryd.func10 (by kernel_rfl) rfl #[.slice Ao74 y354.length co74] (by rfl) rfl rfl argsA ?_
                                    with_reducible refine (impl_TreeOk.calls _ _ y354 false _ ?side1 ?side2 ?side3 A49.out).mono ?_
                                    (case side1 => repeat (first | exact (Kd.R_reads' HO356.out).2.2 | (with_reducible refine Kd.C_alloc ?_ _) | (with_reducible refine Kd.C_drewN ?_ _) | (with_reducible refine Kd.C_drew ?_)))
                                    (case side2 => exact (Kd.R_reads' HO356.out).2.1)
                                    (case side3 => exact TabOk.below HT.out belowA)
                                    rintro e w75 ⟨rfl, hb⟩
                                    have HS0_ := (hb.cell (World.block_lt_of_cell? _ _ (hHeld.1))).trans (hHeld.1)
                                    have HS1_ := (hb.cell (World.block_lt_of_cell? _ _ (hHeld.2.1))).trans (hHeld.2.1)
                                    have HS2_ := (hb.cell (World.block_lt_of_cell? _ _ (hHeld.2.2))).trans (hHeld.2.2)
                                    refine ⟨_, rfl, ?_⟩
                                    have n0_ := Aside0.mk (Kd.Q_below (by (with_reducible repeat (first | apply Kd.Q_alloc | apply Kd.Q_drewN | apply Kd.Q_drew)); exact HO_5.out) hb)
                                    have n1_ := Aside0.mk (Kd.R_below (RA HO353) hb)
                                    have n2_ := Aside0.mk (Kd.R_below (RA HO356) hb)
                                    have n3_ := Aside0.mk (below_step belowA hb)
                                    clear HO_5
                                    clear HO353
                                    clear HO356
                                    clear HB
                                    have HO_5 := n0_
                                    have HO353 := n1_
                                    have HO356 := n2_
                                    have HB := n3_
                                    clear n0_ n1_ n2_ n3_
                                    (try clear hb)
                                    (try clear hb2)
                                    (try clear hk)
                                    (try clear hi)
                                    have q76 : (1 : Int) ≤ ((t329.length : Int) : Int) := of_decide_eq_true (by first | (with_reducible assumption) | assumption)
                                    obtain ⟨i076, hi076, _, hsz76, _⟩ := info_parts info29
                                    have hroom76 : t329.length ≤ co10 := (Kd.Q_reads' HO_5.out).2.1
                                    have hC76 : Kd.C k29 _ (some ad350) t329.length t329 := (Kd.Q_reads' HO_5.out).2.2
                                    have hcut76 := cut_from (P := Tryd.prog) 23 29 .i64 Tryd.underlying23 hi076 3 hsz76 (some ad350) t329.length co10 1 (by omega) q76
                                    have hr76 := Kd.C_drop (m := (1 : Int).toNat) (c := co10) hC76 (by omega) hroom76
                                    obtain ⟨A76, hA76⟩ : ∃ A1, A1 = (if co10 = (1 : Int).toNat then (some ad350) else ((some ad350) : Option Addr).map (·.add ((1 : Int).toNat * 3))) := ⟨_, rfl⟩
                                    obtain ⟨c76, hc76⟩ : ∃ c1, c1 = co10 - (1 : Int).toNat := ⟨_, rfl⟩
                                    have hy76 : y358.length = t329.length - (1 : Int).toNat := (by rw [Ny358.out, List.length_drop] <;> omega)
                                    rw [show (t329).drop (1 : Int).toNat = y358 from Ny358.out.symm] at hr76
                                    replace hr76 : Kd.C k29 _ A76 y358.length y358 := (by rw [hA76]; exact hr76)
                                    rw [← hy76, ← hA76, ← hc76] at hcut76
                                    have HR361 := Aside0.mk hr76
                                    have HC361 := Aside0.mk (show y358.length ≤ c76 from by rw [hy76, hc76]; exact Nat.sub_le_sub_right hroom76 _)
                                    clear hr76 hC76 hroom76 hi076 hsz76 hc76
                                    have KY76 := Aside0.mk hy76
                                    have KA76 := Aside0.mk hA76
                                    clear hy76 hA76
                                    have KL76 := Aside0.mk (show 1 ≤ t329.length from by omega)
                                    replace q76 := eq_true q76
                                    refine hK.out _ _ ⟨HS0_, HS1_, HS2_⟩ (fun hHeld => ?_)
                                    clear hK K
                                    refine norm_ (a' := ?_) ?_ ?_
                                    rotate_left
                                    · show Act.put _ (some 109) _ = _
                                      simp only [Act.put, List.setIfInBounds_toArray, List.set_cons_zero, List.set_cons_succ, i64_w, i32_w]
                                      rfl
                                    refine pure_ (i := 10) (N := some 110) (tf 11 11) rfl rfl (anA HT_) (fun _ _ _ h => h) yldA putA ?_
                                    refine pure_ (i := 11) (N := some 111) (tf 12 10) rfl rfl (anA HT_) (fun _ _ _ h => h) yldA putA ?_
                                    refine pure_ (i := 12) (N := some 112) (tf 13 9) rfl rfl (anA HT_) (fun _ _ _ h => h) yldA putA ?_
                                    refine pure_ (i := 13) (N := some 113) (tf 14 8) rfl rfl (anA HT_) (fun _ _ _ h => h) yldA putA ?_
                                    refine one_ (i := 14) (N := some 114) (tf 15 7) rfl rfl (one_of HT_.out (by kernel_rfl)) (by decide) (fun K hK => ?_)
                                    refine goes_ Tryd.func10 (by kernel_rfl) rfl #[.slice A76 y358.length c76] (by rfl) rfl rfl argsA ?_
                                    with_reducible refine (impl_TreeOk.calls _ _ y358 true _ ?side1 ?side2 ?side3 A63.out).mono ?_
                                    (case side1 => repeat (first | exact (by repeat (first | (with_reducible exact HR361.out) | (with_reducible refine Kd.C_alloc ?_ _) | (with_reducible refine Kd.C_drewN ?_ _) | (with_reducible refine Kd.C_drew ?_) | exact HR361.out)) | (with_reducible refine Kd.C_alloc ?_ _) | (with_reducible refine Kd.C_drewN ?_ _) | (with_reducible refine Kd.C_drew ?_)))
                                    (case side2 => exact HC361.out)
                                    (case side3 => exact TabOk.below HT.out belowA)
                                    rintro e w77 ⟨rfl, hb⟩
                                    have HS0_ := (hb.cell (World.block_lt_of_cell? _ _ (hHeld.1))).trans (hHeld.1)
                                    have HS1_ := (hb.cell (World.block_lt_of_cell? _ _ (hHeld.2.1))).trans (hHeld.2.1)
                                    have HS2_ := (hb.cell (World.block_lt_of_cell? _ _ (hHeld.2.2))).trans (hHeld.2.2)
                                    refine ⟨_, rfl, ?_⟩
                                    have n0_ := Aside0.mk (Kd.Q_below (by (with_reducible repeat (first | apply Kd.Q_alloc | apply Kd.Q_drewN | apply Kd.Q_drew)); exact HO_5.out) hb)
                                    have n1_ := Aside0.mk (Kd.R_below (RA HO353) hb)
                                    have n2_ := Aside0.mk (Kd.R_below (RA HO356) hb)
                                    have n3_ := Aside0.mk (Kd.C_below (by repeat (first | (with_reducible exact HR361.out) | (with_reducible refine Kd.C_alloc ?_ _) | (with_reducible refine Kd.C_drewN ?_ _) | (with_reducible refine Kd.C_drew ?_) | exact HR361.out)) hb)
                                    have n4_ := Aside0.mk (below_step belowA hb)
                                    clear HO_5
                                    clear HO353
                                    clear HO356
                                    clear HR361
                                    clear HB
                                    have HO_5 := n0_
                                    have HO353 := n1_
                                    have HO356 := n2_
                                    have HR361 := n3_
                                    have HB := n4_
                                    clear n0_ n1_ n2_ n3_ n4_
                                    (try clear hb)
                                    (try clear hb2)
                                    (try clear hk)
                                    (try clear hi)
                                    refine hK.out _ _ ⟨HS0_, HS1_, HS2_⟩ (fun hHeld => ?_)
                                    clear hK K
                                    refine norm_ (a' := ?_) ?_ ?_
                                    rotate_left
                                    · show Act.put _ (some 114) _ = _
                                      simp only [Act.put, List.setIfInBounds_toArray, List.set_cons_zero, List.set_cons_succ, i64_w, i32_w]
                                      rfl
                                    refine pure_ (i := 15) (N := some 115) (tf 16 6) rfl rfl (anA HT_) (fun _ _ _ h => h) yldA putA ?_
                                    refine pure_ (i := 16) (N := some 116) (tf 17 5) rfl rfl (anA HT_) (fun _ _ _ h => h) yldA putA ?_
                                    refine pure_ (i := 17) (N := some 117) (tf 18 4) rfl rfl (anA HT_) (fun _ _ _ h => h) yldA putA ?_
                                    refine pure_ (i := 18) (N := some 118) (tf 19 3) rfl rfl (anA HT_) (fun _ _ _ h => h) yldU putA ?_
                                    refine pure_ (i := 19) (N := some 119) (tf 20 2) rfl rfl (anA HT_) (fun _ _ _ h => h) yldU putA ?_
                                    refine pure_ (i := 20) (N := some 120) (tf 21 1) rfl rfl (anA HT_) (fun _ _ _ h => h) yldA putA ?_
                                    refine pure_ (i := 21) (N := some 4) (tf 22 0) rfl rfl (anA HT_) (fun _ _ _ h => h) yldA putA ?_
                                    refine done_ (done_of HT_.out (by kernel_rfl)) ?_
                                    try go_wp2
                                    go_ret
                                    exact ⟨by first | rfl | (simp [errW_none, errW_some] <;> rfl) | (simp only [← hji45]; first | rfl | (simp [errW_none, errW_some] <;> rfl)) | (simp [*, errW_none, errW_some] <;> rfl), belowA⟩
                                  · replace c64 := Bool.eq_false_iff.mpr c64
                                    subst c64
                                    have H1 : ((impl_TreeNew.f).bind fun t363 => ((impl_TreeOk.f t363).bind fun t366 => (some t366))) = some r := by rw [if_neg (show ¬ (false = true) by decide)] at H; exact H
                                    clear H
                                    have H := H1
                                    clear H1
                                    replace H := Option.bind_eq_some_iff.mp H
                                    obtain ⟨t363, A780, H⟩ := H
                                    (try dsimp only at H)
                                    have A78 := Aside0.mk A780
                                    clear A780
                                    replace H := Option.bind_eq_some_iff.mp H
                                    obtain ⟨t366, A790, H⟩ := H
                                    (try dsimp only at H)
                                    have A79 := Aside0.mk A790
                                    clear A790
                                    obtain rfl := Option.some.inj H
                                    try go_wp2
                                    have n0_ := Aside0.mk (Kd.Q_drew HO_5.out)
                                    have n1_ := Aside0.mk (below_drew1 HB.out)
                                    clear HO_5
                                    clear HB
                                    have HO_5 := n0_
                                    have HB := n1_
                                    clear n0_ n1_
                                    have p350 : 0 ≤ ((ji45) : Int) := of_decide_eq_true (by first | (with_reducible assumption) | assumption)
                                    have q350 : (ji45) < (t329.length : Int) := of_decide_eq_true (by first | (with_reducible assumption) | assumption)
                                    obtain ⟨ad350, e350, hx350_0, hx350_1, hx350_2⟩ := at_T29 (Kd.Q_reads' HO_5.out).2.2 (ji45) p350 q350
                                    cases e350
                                    replace p350 := eq_true p350
                                    replace q350 := eq_true q350
                                    refine start_ (n := 22) (S := fun w' => w'.cell? (ad350.add (((ji45)).toNat * 3)) = some (.int .i64 ((rd_T29 t329 (ji45)).f0)) ∧ w'.cell? ⟨(ad350.add (((ji45)).toNat * 3)).block, (ad350.add (((ji45)).toNat * 3)).off + 1, none⟩ = some (.int .i64 ((rd_T29 t329 (ji45)).f1)) ∧ w'.cell? ⟨(ad350.add (((ji45)).toNat * 3)).block, (ad350.add (((ji45)).toNat * 3)).off + 2, none⟩ = some (.string ((rd_T29 t329 (ji45)).f2))) (ds := []) (tf 0 22) (by kernel_rfl) rfl rfl ⟨hx350_0, hx350_1, hx350_2⟩ (fun hHeld => ?_); refine with_tabW laws_FnTreeForm.tab14 laws_FnTreeForm.bits14 (fun HT_ HW_ => ?_)
                                    generalize wr.drew = w80 at HO_5 HB hx350_0 hx350_1 hx350_2 hHeld ⊢
                                    refine pure_ (i := 1) (N := some 101) #[false, true, false, false, false, false, false, false, false, false, false, false, false, false, false, false, false, false, false, false, false, false] rfl rfl (anA HT_) (fun _ _ _ h => h) yldA putA ?_
                                    refine pure_ (i := 3) (N := some 103) #[false, true, false, true, false, false, false, false, false, false, false, false, false, false, false, false, false, false, false, false, false, false] rfl rfl (anA HT_) (fun _ _ _ h => h) yldA putA ?_
                                    refine pure_ (i := 4) (N := some 104) #[false, true, false, true, true, false, false, false, false, false, false, false, false, false, false, false, false, false, false, false, false, false] rfl rfl (anA HT_) (fun _ _ _ h => h) yldA putA ?_
                                    refine pure_ (i := 5) (N := some 105) #[false, true, false, true, true, true, false, false, false, false, false, false, false, false, false, false, false, false, false, false, false, false] rfl rfl (anA HT_) (fun _ _ _ h => h) yldA putA ?_
                                    refine take_ (i := 6) (N := some 106) #[false, true, false, true, true, true, true, false, false, false, false, false, false, false, false, false, false, false, false, false, false, false] rfl rfl (take_ofW HT_.out HW_.out (by kernel_rfl)) (fun _ _ _ h => h) (Or.inl ⟨by rfl, by rintro w' ⟨s0, s1, s2⟩; go_simp; with_reducible rfl⟩) hHeld putA ?_
                                    refine join_ (σ := Value × Value × Value) 14 (tf 8 14) (fun s_ => [(100, s_.1), (102, s_.2.1), (107, s_.2.2)]) (fun s_ w' => (w'.cell? (ad350.add (((ji45)).toNat * 3)) = some (.int .i64 ((rd_T29 t329 (ji45)).f0)) ∧ w'.cell? ⟨(ad350.add (((ji45)).toNat * 3)).block, (ad350.add (((ji45)).toNat * 3)).off + 1, none⟩ = some (.int .i64 ((rd_T29 t329 (ji45)).f1)) ∧ w'.cell? ⟨(ad350.add (((ji45)).toNat * 3)).block, (ad350.add (((ji45)).toNat * 3)).off + 2, none⟩ = some (.string ((rd_T29 t329 (ji45)).f2))) ∧ (Kd.R k29 29 w' w.heap.size (fun k_ => some k_ ≠ (s_.2.2 : Value).ownBlock ∧ some k_ ≠ (.slice (some ad350) t329.length co10 : Value).ownBlock) s_.2.1 y347) ∧ (Kd.R k29 29 w' w.heap.size (fun k_ => some k_ ≠ (s_.2.1 : Value).ownBlock ∧ some k_ ≠ (.slice (some ad350) t329.length co10 : Value).ownBlock) s_.2.2 y351) ∧ (Kd.Q k29 29 w' w.heap.size (fun k_ => some k_ ≠ (s_.2.1 : Value).ownBlock ∧ some k_ ≠ (s_.2.2 : Value).ownBlock) (.slice (some ad350) t329.length co10) t329) ∧ (Below w.heap.size w w')) ?_ ?_
                                    rotate_left
                                    · intro hCont
                                      refine two_ (i := 0) (j := 7) (Ni := some 100) (Nj := some 107) #[true, true, false, true, true, true, true, false, false, false, false, false, false, false, false, false, false, false, false, false, false, false] #[false, true, false, true, true, true, true, true, false, false, false, false, false, false, false, false, false, false, false, false, false, false] rfl rfl rfl rfl (two_of HT_.out (by kernel_rfl)) (by decide) (by decide) (fun K hK => ?_) (fun K hK => ?_)
                                      · skip
                                        refine Kd.R_lit_step k29 _ 29 ?hg (N := 100) ?hd (xs := ([] : List (S29))) (inner := []) (ok := fun _ => True) (okp := fun _ => True) ?hr ?hp (fun _ hk => hk) trivial (Below.refl _ _) (Nat.le_refl _) (by simp) ?_; (case hd => rfl); (case hg => rfl); (case hr => first | (go_simp; done) | (go_simp; rfl)); (case hp => exact (Reps.none _ _))
                                        intro v345 w81 ho82 hb hg_ hnew_
                                        have HS0_ := (hb.cell (World.block_lt_of_cell? _ _ (hHeld.1))).trans (hHeld.1)
                                        have HS1_ := (hb.cell (World.block_lt_of_cell? _ _ (hHeld.2.1))).trans (hHeld.2.1)
                                        have HS2_ := (hb.cell (World.block_lt_of_cell? _ _ (hHeld.2.2))).trans (hHeld.2.2)
                                        clear hg_ hnew_
                                        (first | rw [← Ny344.out] at ho82 | (simp only [Int.reduceToNat] at ho82; rw [← Ny344.out] at ho82))
                                        have n0_ := Aside0.mk (Kd.Q_elder' (by (with_reducible repeat (first | apply Kd.Q_alloc | apply Kd.Q_drewN | apply Kd.Q_drew)); exact HO_5.out) (Kd.R_base ho82) hb)
                                        have n1_ := Aside0.mk (Kd.R_lower (Kd.R_new' ho82 (Kd.Q_lt (by (with_reducible repeat (first | apply Kd.Q_alloc | apply Kd.Q_drewN | apply Kd.Q_drew)); exact HO_5.out))) (below_size belowA))
                                        have n2_ := Aside0.mk (below_step belowA hb)
                                        clear HO_5
                                        clear HB
                                        have HO_5 := n0_
                                        have HO346 := n1_
                                        have HB := n2_
                                        clear n0_ n1_ n2_
                                        clear hb ho82
                                        refine hK.out _ _ ⟨HS0_, HS1_, HS2_⟩ (fun hHeld => ?_)
                                        clear hK K
                                        refine norm_ (a' := ?_) ?_ ?_
                                        rotate_left
                                        · show Act.put _ (some 100) _ = _
                                          simp only [Act.put, List.setIfInBounds_toArray, List.set_cons_zero, List.set_cons_succ, i64_w, i32_w]
                                          rfl
                                        refine two_ (i := 2) (j := 7) (Ni := some 102) (Nj := some 107) (tf 7 15) #[true, true, false, true, true, true, true, true, false, false, false, false, false, false, false, false, false, false, false, false, false, false] rfl rfl rfl rfl (two_of HT_.out (by kernel_rfl)) (by decide) (by decide) (fun K hK => ?_) (fun K hK => ?_)
                                        · skip
                                          refine Kd.R_append_rows_step k29 (w0 := w) w.heap.size (by rfl) (.tmp 100) (.tmp 101) 23 29 (.agg #[(.int .i64 0), (.int .i64 0), (.string ⟨#[]⟩)]) 32 rfl Tryd.underlying23 info29 rfl (by decide) (by omega) v345 y344 t329 _ _ _ (fun k_ => some k_ ≠ (.slice (some ad350) t329.length co10 : Value).ownBlock) (fun _ => False) rfl rfl ?aO ?aR (fun _ _ h => h) (fun _ h => h.elim) ?aF ?aB ?aS ?aL ?_
                                          (case aR => repeat (first | exact (Kd.Q_reads' HO_5.out).2.2 | (with_reducible refine Kd.C_alloc ?_ _) | (with_reducible refine Kd.C_drewN ?_ _) | (with_reducible refine Kd.C_drew ?_)))
                                          (case aB => exact belowA)
                                          (case aF => exact (fun k_ hk => Kd.fresh' (Kd.Q_lt (by (with_reducible repeat (first | apply Kd.Q_alloc | apply Kd.Q_drewN | apply Kd.Q_drew)); exact HO_5.out)) k_ hk))
                                          (case aO => exact (by (with_reducible repeat (first | apply Kd.R_alloc | apply Kd.R_drewN | apply Kd.R_drew)); exact Kd.R_mono HO346.out (fun _ hk => hk.2)))
                                          (case aS => exact (below_size belowA))
                                          (case aL => have := LMc44.out; omega)
                                          intro v348 w83 ho hb hg hat
                                          have HS0_ := heldG hg HO346.out.1 (hHeld.1)
                                          have HS1_ := heldG hg HO346.out.1 (hHeld.2.1)
                                          have HS2_ := heldG hg HO346.out.1 (hHeld.2.2)
                                          rw [← Ny347.out] at ho
                                          have n0_ := Aside0.mk (Kd.Q_after (ok := (fun _ => True)) (by (with_reducible repeat (first | apply Kd.Q_alloc | apply Kd.Q_drewN | apply Kd.Q_drew)); exact HO_5.out) hg hat)
                                          have n1_ := Aside0.mk (hb)
                                          have n2_ := Aside0.mk (ho)
                                          clear HO_5
                                          clear HB
                                          clear HO346
                                          have HO_5 := n0_
                                          have HB := n1_
                                          have HO349 := n2_
                                          clear n0_ n1_ n2_
                                          clear ho hb hg hat
                                          refine hK.out _ _ ⟨HS0_, HS1_, HS2_⟩ (fun hHeld => ?_)
                                          clear hK K
                                          refine norm_ (a' := ?_) ?_ ?_
                                          rotate_left
                                          · show Act.put _ (some 102) _ = _
                                            simp only [Act.put, List.setIfInBounds_toArray, List.set_cons_zero, List.set_cons_succ, i64_w, i32_w]
                                            rfl
                                          refine one_ (i := 7) (N := some 107) (tf 8 14) rfl rfl (one_of HT_.out (by kernel_rfl)) (by decide) (fun K hK => ?_)
                                          refine Kd.R_lit_step k29 _ 29 ?hg (N := 107) ?hd (xs := ([(⟨(rd_T29 t329 (ji45)).f0, (rd_T29 t329 (ji45)).f1, (rd_T29 t329 (ji45)).f2⟩ : S29)] : List (S29))) (inner := [.int .i64 ((rd_T29 t329 (ji45)).f0), .int .i64 ((rd_T29 t329 (ji45)).f1), .string ((rd_T29 t329 (ji45)).f2)]) (ok := fun _ => True) (okp := fun _ => True) ?hr ?hp (fun _ hk => hk) trivial (Below.refl _ _) (Nat.le_refl _) (by simp) ?_; (case hd => rfl); (case hg => rfl); (case hr => first | (go_simp; done) | (go_simp; rfl)); (case hp => exact (Reps.c3 (show Kd.M k29 _ _ _ (⟨(rd_T29 t329 (ji45)).f0, (rd_T29 t329 (ji45)).f1, (rd_T29 t329 (ji45)).f2⟩ : S29) [.int .i64 ((rd_T29 t329 (ji45)).f0), .int .i64 ((rd_T29 t329 (ji45)).f1), .string ((rd_T29 t329 (ji45)).f2)] from (k29_mkM _ _ _ (⟨(rd_T29 t329 (ji45)).f0, (rd_T29 t329 (ji45)).f1, (rd_T29 t329 (ji45)).f2⟩ : S29) )) (Reps.none _ _)))
                                          intro v352 w84 ho85 hb hg_ hnew_
                                          have HS0_ := (hb.cell (World.block_lt_of_cell? _ _ (hHeld.1))).trans (hHeld.1)
                                          have HS1_ := (hb.cell (World.block_lt_of_cell? _ _ (hHeld.2.1))).trans (hHeld.2.1)
                                          have HS2_ := (hb.cell (World.block_lt_of_cell? _ _ (hHeld.2.2))).trans (hHeld.2.2)
                                          clear hg_ hnew_
                                          (first | rw [← Ny351.out] at ho85 | (simp only [Int.reduceToNat] at ho85; rw [← Ny351.out] at ho85))
                                          have n0_ := Aside0.mk (Kd.Q_elder' (by (with_reducible repeat (first | apply Kd.Q_alloc | apply Kd.Q_drewN | apply Kd.Q_drew)); exact HO_5.out) (Kd.R_base ho85) hb)
                                          have n1_ := Aside0.mk (Kd.R_elder' (RA HO349) (Kd.R_base ho85) hb)
                                          have n2_ := Aside0.mk (Kd.R_lower (Kd.R_new' (Kd.R_new' ho85 (Kd.Q_lt (by (with_reducible repeat (first | apply Kd.Q_alloc | apply Kd.Q_drewN | apply Kd.Q_drew)); exact HO_5.out))) (Kd.R_lt (RA HO349))) (below_size belowA))
                                          have n3_ := Aside0.mk (below_step belowA hb)
                                          clear HO_5
                                          clear HO349
                                          clear HB
                                          have HO_5 := n0_
                                          have HO349 := n1_
                                          have HO353 := n2_
                                          have HB := n3_
                                          clear n0_ n1_ n2_ n3_
                                          clear hb ho85
                                          refine hK.out _ _ ⟨HS0_, HS1_, HS2_⟩ (fun hHeld => ?_)
                                          clear hK K
                                          refine norm_ (a' := ?_) ?_ ?_
                                          rotate_left
                                          · show Act.put _ (some 107) _ = _
                                            simp only [Act.put, List.setIfInBounds_toArray, List.set_cons_zero, List.set_cons_succ, i64_w, i32_w]
                                            rfl
                                          exact norm_ (by simp only [putAll, Act.put, List.setIfInBounds_toArray, List.set_cons_zero, List.set_cons_succ]) (hCont (v345, v348, v352) _ ⟨hHeld, (by (with_reducible repeat (first | apply Kd.R_alloc | apply Kd.R_drewN | apply Kd.R_drew)); exact Kd.R_mono HO349.out (fun _ hk => ⟨hk.2, hk.1⟩)), (by (with_reducible repeat (first | apply Kd.R_alloc | apply Kd.R_drewN | apply Kd.R_drew)); exact Kd.R_mono HO353.out (fun _ hk => ⟨hk.2, hk.1.2⟩)), (by (with_reducible repeat (first | apply Kd.Q_alloc | apply Kd.Q_drewN | apply Kd.Q_drew)); exact Kd.Q_mono HO_5.out (fun _ hk => ⟨hk.1.2, hk.2⟩)), belowA⟩)
                                        · skip
                                          refine Kd.R_lit_step k29 _ 29 ?hg (N := 107) ?hd (xs := ([(⟨(rd_T29 t329 (ji45)).f0, (rd_T29 t329 (ji45)).f1, (rd_T29 t329 (ji45)).f2⟩ : S29)] : List (S29))) (inner := [.int .i64 ((rd_T29 t329 (ji45)).f0), .int .i64 ((rd_T29 t329 (ji45)).f1), .string ((rd_T29 t329 (ji45)).f2)]) (ok := fun _ => True) (okp := fun _ => True) ?hr ?hp (fun _ hk => hk) trivial (Below.refl _ _) (Nat.le_refl _) (by simp) ?_; (case hd => rfl); (case hg => rfl); (case hr => first | (go_simp; done) | (go_simp; rfl)); (case hp => exact (Reps.c3 (show Kd.M k29 _ _ _ (⟨(rd_T29 t329 (ji45)).f0, (rd_T29 t329 (ji45)).f1, (rd_T29 t329 (ji45)).f2⟩ : S29) [.int .i64 ((rd_T29 t329 (ji45)).f0), .int .i64 ((rd_T29 t329 (ji45)).f1), .string ((rd_T29 t329 (ji45)).f2)] from (k29_mkM _ _ _ (⟨(rd_T29 t329 (ji45)).f0, (rd_T29 t329 (ji45)).f1, (rd_T29 t329 (ji45)).f2⟩ : S29) )) (Reps.none _ _)))
                                          intro v352 w83 ho84 hb hg_ hnew_
                                          have HS0_ := (hb.cell (World.block_lt_of_cell? _ _ (hHeld.1))).trans (hHeld.1)
                                          have HS1_ := (hb.cell (World.block_lt_of_cell? _ _ (hHeld.2.1))).trans (hHeld.2.1)
                                          have HS2_ := (hb.cell (World.block_lt_of_cell? _ _ (hHeld.2.2))).trans (hHeld.2.2)
                                          clear hg_ hnew_
                                          (first | rw [← Ny351.out] at ho84 | (simp only [Int.reduceToNat] at ho84; rw [← Ny351.out] at ho84))
                                          have n0_ := Aside0.mk (Kd.Q_elder' (by (with_reducible repeat (first | apply Kd.Q_alloc | apply Kd.Q_drewN | apply Kd.Q_drew)); exact HO_5.out) (Kd.R_base ho84) hb)
                                          have n1_ := Aside0.mk (Kd.R_elder' (RA HO346) (Kd.R_base ho84) hb)
                                          have n2_ := Aside0.mk (Kd.R_lower (Kd.R_new' (Kd.R_new' ho84 (Kd.Q_lt (by (with_reducible repeat (first | apply Kd.Q_alloc | apply Kd.Q_drewN | apply Kd.Q_drew)); exact HO_5.out))) (Kd.R_lt (RA HO346))) (below_size belowA))
                                          have n3_ := Aside0.mk (below_step belowA hb)
                                          clear HO_5
                                          clear HO346
                                          clear HB
                                          have HO_5 := n0_
                                          have HO346 := n1_
                                          have HO353 := n2_
                                          have HB := n3_
                                          clear n0_ n1_ n2_ n3_
                                          clear hb ho84
                                          refine hK.out _ _ ⟨HS0_, HS1_, HS2_⟩ (fun hHeld => ?_)
                                          clear hK K
                                          refine norm_ (a' := ?_) ?_ ?_
                                          rotate_left
                                          · show Act.put _ (some 107) _ = _
                                            simp only [Act.put, List.setIfInBounds_toArray, List.set_cons_zero, List.set_cons_succ, i64_w, i32_w]
                                            rfl
                                          refine one_ (i := 2) (N := some 102) (tf 8 14) rfl rfl (one_of HT_.out (by kernel_rfl)) (by decide) (fun K hK => ?_)
                                          refine Kd.R_append_rows_step k29 (w0 := w) w.heap.size (by rfl) (.tmp 100) (.tmp 101) 23 29 (.agg #[(.int .i64 0), (.int .i64 0), (.string ⟨#[]⟩)]) 32 rfl Tryd.underlying23 info29 rfl (by decide) (by omega) v345 y344 t329 _ _ _ (fun k_ => some k_ ≠ (.slice (some ad350) t329.length co10 : Value).ownBlock ∧ some k_ ≠ (v352 : Value).ownBlock) (fun _ => False) rfl rfl ?aO ?aR (fun _ _ h => h) (fun _ h => h.elim) ?aF ?aB ?aS ?aL ?_
                                          (case aR => repeat (first | exact (Kd.Q_reads' HO_5.out).2.2 | (with_reducible refine Kd.C_alloc ?_ _) | (with_reducible refine Kd.C_drewN ?_ _) | (with_reducible refine Kd.C_drew ?_)))
                                          (case aB => exact belowA)
                                          (case aF => exact (fun k_ hk => ⟨Kd.fresh' (Kd.Q_lt (by (with_reducible repeat (first | apply Kd.Q_alloc | apply Kd.Q_drewN | apply Kd.Q_drew)); exact HO_5.out)) k_ hk, Kd.fresh' (Kd.R_lt (RA HO353)) k_ hk⟩))
                                          (case aO => exact (by (with_reducible repeat (first | apply Kd.R_alloc | apply Kd.R_drewN | apply Kd.R_drew)); exact Kd.R_mono HO346.out (fun _ hk => ⟨hk.1.2, hk.2⟩)))
                                          (case aS => exact (below_size belowA))
                                          (case aL => have := LMc44.out; omega)
                                          intro v348 w85 ho hb hg hat
                                          have HS0_ := heldG hg HO346.out.1 (hHeld.1)
                                          have HS1_ := heldG hg HO346.out.1 (hHeld.2.1)
                                          have HS2_ := heldG hg HO346.out.1 (hHeld.2.2)
                                          rw [← Ny347.out] at ho
                                          have n0_ := Aside0.mk (Kd.Q_after (ok := (fun k_ => some k_ ≠ (v352 : Value).ownBlock)) (by (with_reducible repeat (first | apply Kd.Q_alloc | apply Kd.Q_drewN | apply Kd.Q_drew)); exact Kd.Q_mono HO_5.out (fun _ hk => ⟨hk.2, hk.1.2⟩)) hg hat)
                                          have n1_ := Aside0.mk (Kd.R_after (ok := (fun k_ => some k_ ≠ (.slice (some ad350) t329.length co10 : Value).ownBlock)) (by (with_reducible repeat (first | apply Kd.R_alloc | apply Kd.R_drewN | apply Kd.R_drew)); exact Kd.R_mono HO353.out (fun _ hk => ⟨hk.1.2, hk.2⟩)) hg hat)
                                          have n2_ := Aside0.mk (hb)
                                          have n3_ := Aside0.mk (ho)
                                          clear HO_5
                                          clear HO353
                                          clear HB
                                          clear HO346
                                          have HO_5 := n0_
                                          have HO353 := n1_
                                          have HB := n2_
                                          have HO349 := n3_
                                          clear n0_ n1_ n2_ n3_
                                          clear ho hb hg hat
                                          refine hK.out _ _ ⟨HS0_, HS1_, HS2_⟩ (fun hHeld => ?_)
                                          clear hK K
                                          refine norm_ (a' := ?_) ?_ ?_
                                          rotate_left
                                          · show Act.put _ (some 102) _ = _
                                            simp only [Act.put, List.setIfInBounds_toArray, List.set_cons_zero, List.set_cons_succ, i64_w, i32_w]
                                            rfl
                                          exact norm_ (by simp only [putAll, Act.put, List.setIfInBounds_toArray, List.set_cons_zero, List.set_cons_succ]) (hCont (v345, v348, v352) _ ⟨hHeld, (by (with_reducible repeat (first | apply Kd.R_alloc | apply Kd.R_drewN | apply Kd.R_drew)); exact Kd.R_mono HO349.out (fun _ hk => ⟨hk.2, hk.1⟩)), (by (with_reducible repeat (first | apply Kd.R_alloc | apply Kd.R_drewN | apply Kd.R_drew)); exact Kd.R_mono HO353.out (fun _ hk => ⟨hk.2, hk.1⟩)), (by (with_reducible repeat (first | apply Kd.Q_alloc | apply Kd.Q_drewN | apply Kd.Q_drew)); exact Kd.Q_mono HO_5.out (fun _ hk => ⟨hk.2, hk.1⟩)), belowA⟩)
                                      · skip
                                        refine Kd.R_lit_step k29 _ 29 ?hg (N := 107) ?hd (xs := ([(⟨(rd_T29 t329 (ji45)).f0, (rd_T29 t329 (ji45)).f1, (rd_T29 t329 (ji45)).f2⟩ : S29)] : List (S29))) (inner := [.int .i64 ((rd_T29 t329 (ji45)).f0), .int .i64 ((rd_T29 t329 (ji45)).f1), .string ((rd_T29 t329 (ji45)).f2)]) (ok := fun _ => True) (okp := fun _ => True) ?hr ?hp (fun _ hk => hk) trivial (Below.refl _ _) (Nat.le_refl _) (by simp) ?_; (case hd => rfl); (case hg => rfl); (case hr => first | (go_simp; done) | (go_simp; rfl)); (case hp => exact (Reps.c3 (show Kd.M k29 _ _ _ (⟨(rd_T29 t329 (ji45)).f0, (rd_T29 t329 (ji45)).f1, (rd_T29 t329 (ji45)).f2⟩ : S29) [.int .i64 ((rd_T29 t329 (ji45)).f0), .int .i64 ((rd_T29 t329 (ji45)).f1), .string ((rd_T29 t329 (ji45)).f2)] from (k29_mkM _ _ _ (⟨(rd_T29 t329 (ji45)).f0, (rd_T29 t329 (ji45)).f1, (rd_T29 t329 (ji45)).f2⟩ : S29) )) (Reps.none _ _)))
                                        intro v352 w81 ho82 hb hg_ hnew_
                                        have HS0_ := (hb.cell (World.block_lt_of_cell? _ _ (hHeld.1))).trans (hHeld.1)
                                        have HS1_ := (hb.cell (World.block_lt_of_cell? _ _ (hHeld.2.1))).trans (hHeld.2.1)
                                        have HS2_ := (hb.cell (World.block_lt_of_cell? _ _ (hHeld.2.2))).trans (hHeld.2.2)
                                        clear hg_ hnew_
                                        (first | rw [← Ny351.out] at ho82 | (simp only [Int.reduceToNat] at ho82; rw [← Ny351.out] at ho82))
                                        have n0_ := Aside0.mk (Kd.Q_elder' (by (with_reducible repeat (first | apply Kd.Q_alloc | apply Kd.Q_drewN | apply Kd.Q_drew)); exact HO_5.out) (Kd.R_base ho82) hb)
                                        have n1_ := Aside0.mk (Kd.R_lower (Kd.R_new' ho82 (Kd.Q_lt (by (with_reducible repeat (first | apply Kd.Q_alloc | apply Kd.Q_drewN | apply Kd.Q_drew)); exact HO_5.out))) (below_size belowA))
                                        have n2_ := Aside0.mk (below_step belowA hb)
                                        clear HO_5
                                        clear HB
                                        have HO_5 := n0_
                                        have HO353 := n1_
                                        have HB := n2_
                                        clear n0_ n1_ n2_
                                        clear hb ho82
                                        refine hK.out _ _ ⟨HS0_, HS1_, HS2_⟩ (fun hHeld => ?_)
                                        clear hK K
                                        refine norm_ (a' := ?_) ?_ ?_
                                        rotate_left
                                        · show Act.put _ (some 107) _ = _
                                          simp only [Act.put, List.setIfInBounds_toArray, List.set_cons_zero, List.set_cons_succ, i64_w, i32_w]
                                          rfl
                                        refine one_ (i := 0) (N := some 100) #[true, true, false, true, true, true, true, true, false, false, false, false, false, false, false, false, false, false, false, false, false, false] rfl rfl (one_of HT_.out (by kernel_rfl)) (by decide) (fun K hK => ?_)
                                        refine Kd.R_lit_step k29 _ 29 ?hg (N := 100) ?hd (xs := ([] : List (S29))) (inner := []) (ok := fun _ => True) (okp := fun _ => True) ?hr ?hp (fun _ hk => hk) trivial (Below.refl _ _) (Nat.le_refl _) (by simp) ?_; (case hd => rfl); (case hg => rfl); (case hr => first | (go_simp; done) | (go_simp; rfl)); (case hp => exact (Reps.none _ _))
                                        intro v345 w83 ho84 hb hg_ hnew_
                                        have HS0_ := (hb.cell (World.block_lt_of_cell? _ _ (hHeld.1))).trans (hHeld.1)
                                        have HS1_ := (hb.cell (World.block_lt_of_cell? _ _ (hHeld.2.1))).trans (hHeld.2.1)
                                        have HS2_ := (hb.cell (World.block_lt_of_cell? _ _ (hHeld.2.2))).trans (hHeld.2.2)
                                        clear hg_ hnew_
                                        (first | rw [← Ny344.out] at ho84 | (simp only [Int.reduceToNat] at ho84; rw [← Ny344.out] at ho84))
                                        have n0_ := Aside0.mk (Kd.Q_elder' (by (with_reducible repeat (first | apply Kd.Q_alloc | apply Kd.Q_drewN | apply Kd.Q_drew)); exact HO_5.out) (Kd.R_base ho84) hb)
                                        have n1_ := Aside0.mk (Kd.R_elder' (RA HO353) (Kd.R_base ho84) hb)
                                        have n2_ := Aside0.mk (Kd.R_lower (Kd.R_new' (Kd.R_new' ho84 (Kd.Q_lt (by (with_reducible repeat (first | apply Kd.Q_alloc | apply Kd.Q_drewN | apply Kd.Q_drew)); exact HO_5.out))) (Kd.R_lt (RA HO353))) (below_size belowA))
                                        have n3_ := Aside0.mk (below_step belowA hb)
                                        clear HO_5
                                        clear HO353
                                        clear HB
                                        have HO_5 := n0_
                                        have HO353 := n1_
                                        have HO346 := n2_
                                        have HB := n3_
                                        clear n0_ n1_ n2_ n3_
                                        clear hb ho84
                                        refine hK.out _ _ ⟨HS0_, HS1_, HS2_⟩ (fun hHeld => ?_)
                                        clear hK K
                                        refine norm_ (a' := ?_) ?_ ?_
                                        rotate_left
                                        · show Act.put _ (some 100) _ = _
                                          simp only [Act.put, List.setIfInBounds_toArray, List.set_cons_zero, List.set_cons_succ, i64_w, i32_w]
                                          rfl
                                        refine one_ (i := 2) (N := some 102) (tf 8 14) rfl rfl (one_of HT_.out (by kernel_rfl)) (by decide) (fun K hK => ?_)
                                        refine Kd.R_append_rows_step k29 (w0 := w) w.heap.size (by rfl) (.tmp 100) (.tmp 101) 23 29 (.agg #[(.int .i64 0), (.int .i64 0), (.string ⟨#[]⟩)]) 32 rfl Tryd.underlying23 info29 rfl (by decide) (by omega) v345 y344 t329 _ _ _ (fun k_ => some k_ ≠ (.slice (some ad350) t329.length co10 : Value).ownBlock ∧ some k_ ≠ (v352 : Value).ownBlock) (fun _ => False) rfl rfl ?aO ?aR (fun _ _ h => h) (fun _ h => h.elim) ?aF ?aB ?aS ?aL ?_
                                        (case aR => repeat (first | exact (Kd.Q_reads' HO_5.out).2.2 | (with_reducible refine Kd.C_alloc ?_ _) | (with_reducible refine Kd.C_drewN ?_ _) | (with_reducible refine Kd.C_drew ?_)))
                                        (case aB => exact belowA)
                                        (case aF => exact (fun k_ hk => ⟨Kd.fresh' (Kd.Q_lt (by (with_reducible repeat (first | apply Kd.Q_alloc | apply Kd.Q_drewN | apply Kd.Q_drew)); exact HO_5.out)) k_ hk, Kd.fresh' (Kd.R_lt (RA HO353)) k_ hk⟩))
                                        (case aO => exact (by (with_reducible repeat (first | apply Kd.R_alloc | apply Kd.R_drewN | apply Kd.R_drew)); exact Kd.R_mono HO346.out (fun _ hk => ⟨hk.1.2, hk.2⟩)))
                                        (case aS => exact (below_size belowA))
                                        (case aL => have := LMc44.out; omega)
                                        intro v348 w85 ho hb hg hat
                                        have HS0_ := heldG hg HO346.out.1 (hHeld.1)
                                        have HS1_ := heldG hg HO346.out.1 (hHeld.2.1)
                                        have HS2_ := heldG hg HO346.out.1 (hHeld.2.2)
                                        rw [← Ny347.out] at ho
                                        have n0_ := Aside0.mk (Kd.Q_after (ok := (fun k_ => some k_ ≠ (v352 : Value).ownBlock)) (by (with_reducible repeat (first | apply Kd.Q_alloc | apply Kd.Q_drewN | apply Kd.Q_drew)); exact Kd.Q_mono HO_5.out (fun _ hk => ⟨hk.1.2, hk.2⟩)) hg hat)
                                        have n1_ := Aside0.mk (Kd.R_after (ok := (fun k_ => some k_ ≠ (.slice (some ad350) t329.length co10 : Value).ownBlock)) (by (with_reducible repeat (first | apply Kd.R_alloc | apply Kd.R_drewN | apply Kd.R_drew)); exact Kd.R_mono HO353.out (fun _ hk => ⟨hk.1.2, hk.2⟩)) hg hat)
                                        have n2_ := Aside0.mk (hb)
                                        have n3_ := Aside0.mk (ho)
                                        clear HO_5
                                        clear HO353
                                        clear HB
                                        clear HO346
                                        have HO_5 := n0_
                                        have HO353 := n1_
                                        have HB := n2_
                                        have HO349 := n3_
                                        clear n0_ n1_ n2_ n3_
                                        clear ho hb hg hat
                                        refine hK.out _ _ ⟨HS0_, HS1_, HS2_⟩ (fun hHeld => ?_)
                                        clear hK K
                                        refine norm_ (a' := ?_) ?_ ?_
                                        rotate_left
                                        · show Act.put _ (some 102) _ = _
                                          simp only [Act.put, List.setIfInBounds_toArray, List.set_cons_zero, List.set_cons_succ, i64_w, i32_w]
                                          rfl
                                        exact norm_ (by simp only [putAll, Act.put, List.setIfInBounds_toArray, List.set_cons_zero, List.set_cons_succ]) (hCont (v345, v348, v352) _ ⟨hHeld, (by (with_reducible repeat (first | apply Kd.R_alloc | apply Kd.R_drewN | apply Kd.R_drew)); exact Kd.R_mono HO349.out (fun _ hk => ⟨hk.2, hk.1⟩)), (by (with_reducible repeat (first | apply Kd.R_alloc | apply Kd.R_drewN | apply Kd.R_drew)); exact Kd.R_mono HO353.out (fun _ hk => ⟨hk.2, hk.1⟩)), (by (with_reducible repeat (first | apply Kd.Q_alloc | apply Kd.Q_drewN | apply Kd.Q_drew)); exact Kd.Q_mono HO_5.out (fun _ hk => ⟨hk.2, hk.1⟩)), belowA⟩)
                                    rintro ⟨v345, v348, v352⟩ w86 ⟨hS_, h0_, h1_, h2_, h3_⟩
                                    have n0_ : Aside0 (Kd.R k29 29 w86 w.heap.size (fun k_ => some k_ ≠ (v352 : Value).ownBlock ∧ some k_ ≠ (.slice (some ad350) t329.length co10 : Value).ownBlock) v348 y347) := ⟨h0_⟩
                                    have n1_ : Aside0 (Kd.R k29 29 w86 w.heap.size (fun k_ => some k_ ≠ (v348 : Value).ownBlock ∧ some k_ ≠ (.slice (some ad350) t329.length co10 : Value).ownBlock) v352 y351) := ⟨h1_⟩
                                    have n2_ : Aside0 (Kd.Q k29 29 w86 w.heap.size (fun k_ => some k_ ≠ (v348 : Value).ownBlock ∧ some k_ ≠ (v352 : Value).ownBlock) (.slice (some ad350) t329.length co10) t329) := ⟨h2_⟩
                                    have n3_ : Aside0 (Below w.heap.size w w86) := ⟨h3_⟩
                                    clear HO_5
                                    clear HB
                                    clear h0_ h1_ h2_ h3_
                                    have HO349 := n0_
                                    have HO353 := n1_
                                    have HO_5 := n2_
                                    have HB := n3_
                                    clear n0_ n1_ n2_ n3_
                                    have hHeld : w86.cell? (ad350.add (((ji45)).toNat * 3)) = some (.int .i64 ((rd_T29 t329 (ji45)).f0)) ∧ w86.cell? ⟨(ad350.add (((ji45)).toNat * 3)).block, (ad350.add (((ji45)).toNat * 3)).off + 1, none⟩ = some (.int .i64 ((rd_T29 t329 (ji45)).f1)) ∧ w86.cell? ⟨(ad350.add (((ji45)).toNat * 3)).block, (ad350.add (((ji45)).toNat * 3)).off + 2, none⟩ = some (.string ((rd_T29 t329 (ji45)).f2)) := hS_
                                    obtain ⟨Ao88, co88, eo88⟩ := Kd.R_slice HO353.out
                                    (first | subst eo88 | (injection eo88 with f1_ f2_ f3_; have f4_ := f1_.symm; have f5_ := f3_.symm; clear f1_ f2_ f3_; subst f4_; subst f5_))
                                    refine norm_ (a' := ?_) ?_ ?_
                                    rotate_left
                                    · simp only [putAll, Act.put, List.setIfInBounds_toArray, List.set_cons_zero, List.set_cons_succ]
                                      rfl
                                    refine one_ (i := 8) (N := some 108) (tf 9 13) rfl rfl (one_of HT_.out (by kernel_rfl)) (by decide) (fun K hK => ?_)
                                    refine Kd.R_append_rows_step k29 (w0 := w) w.heap.size (by rfl) (.tmp 102) (.tmp 107) 23 29 (.agg #[(.int .i64 0), (.int .i64 0), (.string ⟨#[]⟩)]) 32 rfl Tryd.underlying23 info29 rfl (by decide) (by omega) v348 y347 y351 _ _ _ (fun k_ => some k_ ≠ (.slice (some ad350) t329.length co10 : Value).ownBlock ∧ some k_ ≠ (.slice Ao88 y351.length co88 : Value).ownBlock) (fun _ => False) rfl rfl ?aO ?aR (fun _ _ h => h) (fun _ h => h.elim) ?aF ?aB ?aS ?aL ?_
                                    (case aR => repeat (first | exact (Kd.R_reads' HO353.out).2.2 | (with_reducible refine Kd.C_alloc ?_ _) | (with_reducible refine Kd.C_drewN ?_ _) | (with_reducible refine Kd.C_drew ?_)))
                                    (case aB => exact belowA)
                                    (case aF => exact (fun k_ hk => ⟨Kd.fresh' (Kd.Q_lt (by (with_reducible repeat (first | apply Kd.Q_alloc | apply Kd.Q_drewN | apply Kd.Q_drew)); exact HO_5.out)) k_ hk, Kd.fresh' (Kd.R_lt (RA HO353)) k_ hk⟩))
                                    (case aO => exact (by (with_reducible repeat (first | apply Kd.R_alloc | apply Kd.R_drewN | apply Kd.R_drew)); exact Kd.R_mono HO349.out (fun _ hk => ⟨hk.2, hk.1⟩)))
                                    (case aS => exact (below_size belowA))
                                    (case aL => have := LMc48.out; omega)
                                    intro v355 w87 ho hb hg hat
                                    have HS0_ := heldG hg HO349.out.1 (hHeld.1)
                                    have HS1_ := heldG hg HO349.out.1 (hHeld.2.1)
                                    have HS2_ := heldG hg HO349.out.1 (hHeld.2.2)
                                    rw [← Ny354.out] at ho
                                    have n0_ := Aside0.mk (Kd.Q_after (ok := (fun k_ => some k_ ≠ (.slice Ao88 y351.length co88 : Value).ownBlock)) (by (with_reducible repeat (first | apply Kd.Q_alloc | apply Kd.Q_drewN | apply Kd.Q_drew)); exact Kd.Q_mono HO_5.out (fun _ hk => ⟨hk.2, hk.1⟩)) hg hat)
                                    have n1_ := Aside0.mk (Kd.R_after (ok := (fun k_ => some k_ ≠ (.slice (some ad350) t329.length co10 : Value).ownBlock)) (by (with_reducible repeat (first | apply Kd.R_alloc | apply Kd.R_drewN | apply Kd.R_drew)); exact Kd.R_mono HO353.out (fun _ hk => ⟨hk.2, hk.1⟩)) hg hat)
                                    have n2_ := Aside0.mk (hb)
                                    have n3_ := Aside0.mk (ho)
                                    clear HO_5
                                    clear HO353
                                    clear HB
                                    clear HO349
                                    have HO_5 := n0_
                                    have HO353 := n1_
                                    have HB := n2_
                                    have HO356 := n3_
                                    clear n0_ n1_ n2_ n3_
                                    clear ho hb hg hat
                                    obtain ⟨Ao89, co89, eo89⟩ := Kd.R_slice HO356.out
                                    (first | subst eo89 | (injection eo89 with f1_ f2_ f3_; have f4_ := f1_.symm; have f5_ := f3_.symm; clear f1_ f2_ f3_; subst f4_; subst f5_))
                                    refine hK.out _ _ ⟨HS0_, HS1_, HS2_⟩ (fun hHeld => ?_)
                                    clear hK K
                                    refine norm_ (a' := ?_) ?_ ?_
                                    rotate_left
                                    · show Act.put _ (some 108) _ = _
                                      simp only [Act.put, List.setIfInBounds_toArray, List.set_cons_zero, List.set_cons_succ, i64_w, i32_w]
                                      rfl
                                    refine one_ (i := 9) (N := some 109) (tf 10 12) rfl rfl (one_of HT_.out (by kernel_rfl)) (by decide) (fun K hK => ?_)
                                    refine goes_ Tryd.func10 (by kernel_rfl) rfl #[.slice Ao89 y354.length co89] (by rfl) rfl rfl argsA ?_
                                    with_reducible refine (impl_TreeOk.calls _ _ y354 false _ ?side1 ?side2 ?side3 A49.out).mono ?_
                                    (case side1 => repeat (first | exact (Kd.R_reads' HO356.out).2.2 | (with_reducible refine Kd.C_alloc ?_ _) | (with_reducible refine Kd.C_drewN ?_ _) | (with_reducible refine Kd.C_drew ?_)))
                                    (case side2 => exact (Kd.R_reads' HO356.out).2.1)
                                    (case side3 => exact TabOk.below HT.out belowA)
                                    rintro e w90 ⟨rfl, hb⟩
                                    have HS0_ := (hb.cell (World.block_lt_of_cell? _ _ (hHeld.1))).trans (hHeld.1)
                                    have HS1_ := (hb.cell (World.block_lt_of_cell? _ _ (hHeld.2.1))).trans (hHeld.2.1)
                                    have HS2_ := (hb.cell (World.block_lt_of_cell? _ _ (hHeld.2.2))).trans (hHeld.2.2)
                                    refine ⟨_, rfl, ?_⟩
                                    have n0_ := Aside0.mk (Kd.Q_below (by (with_reducible repeat (first | apply Kd.Q_alloc | apply Kd.Q_drewN | apply Kd.Q_drew)); exact HO_5.out) hb)
                                    have n1_ := Aside0.mk (Kd.R_below (RA HO353) hb)
                                    have n2_ := Aside0.mk (Kd.R_below (RA HO356) hb)
                                    have n3_ := Aside0.mk (below_step belowA hb)
                                    clear HO_5
                                    clear HO353
                                    clear HO356
                                    clear HB
                                    have HO_5 := n0_
                                    have HO353 := n1_
                                    have HO356 := n2_
                                    have HB := n3_
                                    clear n0_ n1_ n2_ n3_
                                    (try clear hb)
                                    (try clear hb2)
                                    (try clear hk)
                                    (try clear hi)
                                    have q91 : (1 : Int) ≤ ((t329.length : Int) : Int) := of_decide_eq_true (by first | (with_reducible assumption) | assumption)
                                    obtain ⟨i091, hi091, _, hsz91, _⟩ := info_parts info29
                                    have hroom91 : t329.length ≤ co10 := (Kd.Q_reads' HO_5.out).2.1
                                    have hC91 : Kd.C k29 _ (some ad350) t329.length t329 := (Kd.Q_reads' HO_5.out).2.2
                                    have hcut91 := cut_from (P := Tryd.prog) 23 29 .i64 Tryd.underlying23 hi091 3 hsz91 (some ad350) t329.length co10 1 (by omega) q91
                                    have hr91 := Kd.C_drop (m := (1 : Int).toNat) (c := co10) hC91 (by omega) hroom91
                                    obtain ⟨A91, hA91⟩ : ∃ A1, A1 = (if co10 = (1 : Int).toNat then (some ad350) else ((some ad350) : Option Addr).map (·.add ((1 : Int).toNat * 3))) := ⟨_, rfl⟩
                                    obtain ⟨c91, hc91⟩ : ∃ c1, c1 = co10 - (1 : Int).toNat := ⟨_, rfl⟩
                                    have hy91 : y358.length = t329.length - (1 : Int).toNat := (by rw [Ny358.out, List.length_drop] <;> omega)
                                    rw [show (t329).drop (1 : Int).toNat = y358 from Ny358.out.symm] at hr91
                                    replace hr91 : Kd.C k29 _ A91 y358.length y358 := (by rw [hA91]; exact hr91)
                                    rw [← hy91, ← hA91, ← hc91] at hcut91
                                    have HR361 := Aside0.mk hr91
                                    have HC361 := Aside0.mk (show y358.length ≤ c91 from by rw [hy91, hc91]; exact Nat.sub_le_sub_right hroom91 _)
                                    clear hr91 hC91 hroom91 hi091 hsz91 hc91
                                    have KY91 := Aside0.mk hy91
                                    have KA91 := Aside0.mk hA91
                                    clear hy91 hA91
                                    have KL91 := Aside0.mk (show 1 ≤ t329.length from by omega)
                                    replace q91 := eq_true q91
                                    refine hK.out _ _ ⟨HS0_, HS1_, HS2_⟩ (fun hHeld => ?_)
                                    clear hK K
                                    refine norm_ (a' := ?_) ?_ ?_
                                    rotate_left
                                    · show Act.put _ (some 109) _ = _
                                      simp only [Act.put, List.setIfInBounds_toArray, List.set_cons_zero, List.set_cons_succ, i64_w, i32_w]
                                      rfl
                                    refine pure_ (i := 10) (N := some 110) (tf 11 11) rfl rfl (anA HT_) (fun _ _ _ h => h) yldA putA ?_
                                    refine pure_ (i := 11) (N := some 111) (tf 12 10) rfl rfl (anA HT_) (fun _ _ _ h => h) yldA putA ?_
                                    refine pure_ (i := 12) (N := some 112) (tf 13 9) rfl rfl (anA HT_) (fun _ _ _ h => h) yldA putA ?_
                                    refine pure_ (i := 13) (N := some 113) (tf 14 8) rfl rfl (anA HT_) (fun _ _ _ h => h) yldA putA ?_
                                    refine one_ (i := 14) (N := some 114) (tf 15 7) rfl rfl (one_of HT_.out (by kernel_rfl)) (by decide) (fun K hK => ?_)
                                    refine goes_ Tryd.func10 (by kernel_rfl) rfl #[.slice A91 y358.length c91] (by rfl) rfl rfl argsA ?_
                                    with_reducible refine (impl_TreeOk.calls _ _ y358 false _ ?side1 ?side2 ?side3 A63.out).mono ?_
                                    (case side1 => repeat (first | exact (by repeat (first | (with_reducible exact HR361.out) | (with_reducible refine Kd.C_alloc ?_ _) | (with_reducible refine Kd.C_drewN ?_ _) | (with_reducible refine Kd.C_drew ?_) | exact HR361.out)) | (with_reducible refine Kd.C_alloc ?_ _) | (with_reducible refine Kd.C_drewN ?_ _) | (with_reducible refine Kd.C_drew ?_)))
                                    (case side2 => exact HC361.out)
                                    (case side3 => exact TabOk.below HT.out belowA)
                                    rintro e w92 ⟨rfl, hb⟩
                                    have HS0_ := (hb.cell (World.block_lt_of_cell? _ _ (hHeld.1))).trans (hHeld.1)
                                    have HS1_ := (hb.cell (World.block_lt_of_cell? _ _ (hHeld.2.1))).trans (hHeld.2.1)
                                    have HS2_ := (hb.cell (World.block_lt_of_cell? _ _ (hHeld.2.2))).trans (hHeld.2.2)
                                    refine ⟨_, rfl, ?_⟩
                                    have n0_ := Aside0.mk (Kd.Q_below (by (with_reducible repeat (first | apply Kd.Q_alloc | apply Kd.Q_drewN | apply Kd.Q_drew)); exact HO_5.out) hb)
                                    have n1_ := Aside0.mk (Kd.R_below (RA HO353) hb)
                                    have n2_ := Aside0.mk (Kd.R_below (RA HO356) hb)
                                    have n3_ := Aside0.mk (Kd.C_below (by repeat (first | (with_reducible exact HR361.out) | (with_reducible refine Kd.C_alloc ?_ _) | (with_reducible refine Kd.C_drewN ?_ _) | (with_reducible refine Kd.C_drew ?_) | exact HR361.out)) hb)
                                    have n4_ := Aside0.mk (below_step belowA hb)
                                    clear HO_5
                                    clear HO353
                                    clear HO356
                                    clear HR361
                                    clear HB
                                    have HO_5 := n0_
                                    have HO353 := n1_
                                    have HO356 := n2_
                                    have HR361 := n3_
                                    have HB := n4_
                                    clear n0_ n1_ n2_ n3_ n4_
                                    (try clear hb)
                                    (try clear hb2)
                                    (try clear hk)
                                    (try clear hi)
                                    refine hK.out _ _ ⟨HS0_, HS1_, HS2_⟩ (fun hHeld => ?_)
                                    clear hK K
                                    refine norm_ (a' := ?_) ?_ ?_
                                    rotate_left
                                    · show Act.put _ (some 114) _ = _
                                      simp only [Act.put, List.setIfInBounds_toArray, List.set_cons_zero, List.set_cons_succ, i64_w, i32_w]
                                      rfl
                                    refine pure_ (i := 15) (N := some 115) (tf 16 6) rfl rfl (anA HT_) (fun _ _ _ h => h) yldA putA ?_
                                    refine pure_ (i := 16) (N := some 116) (tf 17 5) rfl rfl (anA HT_) (fun _ _ _ h => h) yldA putA ?_
                                    refine pure_ (i := 17) (N := some 117) (tf 18 4) rfl rfl (anA HT_) (fun _ _ _ h => h) yldA putA ?_
                                    refine one_ (i := 18) (N := some 118) (tf 19 3) rfl rfl (one_of HT_.out (by kernel_rfl)) (by decide) (fun K hK => ?_)
                                    refine goes_ Tryd.func14 (by kernel_rfl) rfl #[] (by rfl) rfl rfl argsA ?_
                                    with_reducible refine (impl_TreeNew.calls  t363 _ A78.out).mono ?_
                                    rintro e w93 ⟨v364, rfl, ho0, hb⟩
                                    have HS0_ := (hb.cell (World.block_lt_of_cell? _ _ (hHeld.1))).trans (hHeld.1)
                                    have HS1_ := (hb.cell (World.block_lt_of_cell? _ _ (hHeld.2.1))).trans (hHeld.2.1)
                                    have HS2_ := (hb.cell (World.block_lt_of_cell? _ _ (hHeld.2.2))).trans (hHeld.2.2)
                                    refine ⟨_, rfl, ?_⟩
                                    have n0_ := Aside0.mk (Kd.Q_elder' (by (with_reducible repeat (first | apply Kd.Q_alloc | apply Kd.Q_drewN | apply Kd.Q_drew)); exact HO_5.out) (Kd.R_base ho0) hb)
                                    have n1_ := Aside0.mk (Kd.R_elder' (RA HO353) (Kd.R_base ho0) hb)
                                    have n2_ := Aside0.mk (Kd.R_elder' (RA HO356) (Kd.R_base ho0) hb)
                                    have n3_ := Aside0.mk (Kd.R_lower (Kd.R_new' (Kd.R_new' (Kd.R_new' ho0 (Kd.Q_lt (by (with_reducible repeat (first | apply Kd.Q_alloc | apply Kd.Q_drewN | apply Kd.Q_drew)); exact HO_5.out))) (Kd.R_lt (RA HO353))) (Kd.R_lt (RA HO356))) (below_size belowA))
                                    have n4_ := Aside0.mk (Kd.C_below (by repeat (first | (with_reducible exact HR361.out) | (with_reducible refine Kd.C_alloc ?_ _) | (with_reducible refine Kd.C_drewN ?_ _) | (with_reducible refine Kd.C_drew ?_) | exact HR361.out)) hb)
                                    have n5_ := Aside0.mk (below_step belowA hb)
                                    clear HO_5
                                    clear HO353
                                    clear HO356
                                    clear HR361
                                    clear HB
                                    have HO_5 := n0_
                                    have HO353 := n1_
                                    have HO356 := n2_
                                    have HO365 := n3_
                                    have HR361 := n4_
                                    have HB := n5_
                                    clear n0_ n1_ n2_ n3_ n4_ n5_
                                    (try clear hb)
                                    (try clear hb2)
                                    (try clear hk)
                                    (try clear hi)
                                    (try clear ho0)
                                    obtain ⟨Ao94, co94, eo94⟩ := Kd.R_slice HO365.out
                                    (first | subst eo94 | (injection eo94 with f1_ f2_ f3_; have f4_ := f1_.symm; have f5_ := f3_.symm; clear f1_ f2_ f3_; subst f4_; subst f5_))
                                    refine hK.out _ _ ⟨HS0_, HS1_, HS2_⟩ (fun hHeld => ?_)
                                    clear hK K
                                    refine norm_ (a' := ?_) ?_ ?_
                                    rotate_left
                                    · show Act.put _ (some 118) _ = _
                                      simp only [Act.put, List.setIfInBounds_toArray, List.set_cons_zero, List.set_cons_succ, i64_w, i32_w]
                                      rfl
                                    refine one_ (i := 19) (N := some 119) (tf 20 2) rfl rfl (one_of HT_.out (by kernel_rfl)) (by decide) (fun K hK => ?_)
                                    refine goes_ Tryd.func10 (by kernel_rfl) rfl #[.slice Ao94 t363.length co94] (by rfl) rfl rfl argsA ?_
                                    with_reducible refine (impl_TreeOk.calls _ _ t363 t366 _ ?side1 ?side2 ?side3 A79.out).mono ?_
                                    (case side1 => repeat (first | exact (Kd.R_reads' HO365.out).2.2 | (with_reducible refine Kd.C_alloc ?_ _) | (with_reducible refine Kd.C_drewN ?_ _) | (with_reducible refine Kd.C_drew ?_)))
                                    (case side2 => exact (Kd.R_reads' HO365.out).2.1)
                                    (case side3 => exact TabOk.below HT.out belowA)
                                    rintro e w95 ⟨rfl, hb⟩
                                    have HS0_ := (hb.cell (World.block_lt_of_cell? _ _ (hHeld.1))).trans (hHeld.1)
                                    have HS1_ := (hb.cell (World.block_lt_of_cell? _ _ (hHeld.2.1))).trans (hHeld.2.1)
                                    have HS2_ := (hb.cell (World.block_lt_of_cell? _ _ (hHeld.2.2))).trans (hHeld.2.2)
                                    refine ⟨_, rfl, ?_⟩
                                    have n0_ := Aside0.mk (Kd.Q_below (by (with_reducible repeat (first | apply Kd.Q_alloc | apply Kd.Q_drewN | apply Kd.Q_drew)); exact HO_5.out) hb)
                                    have n1_ := Aside0.mk (Kd.R_below (RA HO353) hb)
                                    have n2_ := Aside0.mk (Kd.R_below (RA HO356) hb)
                                    have n3_ := Aside0.mk (Kd.R_below (RA HO365) hb)
                                    have n4_ := Aside0.mk (Kd.C_below (by repeat (first | (with_reducible exact HR361.out) | (with_reducible refine Kd.C_alloc ?_ _) | (with_reducible refine Kd.C_drewN ?_ _) | (with_reducible refine Kd.C_drew ?_) | exact HR361.out)) hb)
                                    have n5_ := Aside0.mk (below_step belowA hb)
                                    clear HO_5
                                    clear HO353
                                    clear HO356
                                    clear HO365
                                    clear HR361
                                    clear HB
                                    have HO_5 := n0_
                                    have HO353 := n1_
                                    have HO356 := n2_
                                    have HO365 := n3_
                                    have HR361 := n4_
                                    have HB := n5_
                                    clear n0_ n1_ n2_ n3_ n4_ n5_
                                    (try clear hb)
                                    (try clear hb2)
                                    (try clear hk)
                                    (try clear hi)
                                    refine hK.out _ _ ⟨HS0_, HS1_, HS2_⟩ (fun hHeld => ?_)
                                    clear hK K
                                    refine norm_ (a' := ?_) ?_ ?_
                                    rotate_left
                                    · show Act.put _ (some 119) _ = _
                                      simp only [Act.put, List.setIfInBounds_toArray, List.set_cons_zero, List.set_cons_succ, i64_w, i32_w]
                                      rfl
                                    refine pure_ (i := 20) (N := some 120) (tf 21 1) rfl rfl (anA HT_) (fun _ _ _ h => h) yldA putA ?_
                                    refine pure_ (i := 21) (N := some 4) (tf 22 0) rfl rfl (anA HT_) (fun _ _ _ h => h) yldA putA ?_
                                    refine done_ (done_of HT_.out (by kernel_rfl)) ?_
                                    try go_wp2
                                    go_ret
                                    exact ⟨by first | rfl | (simp [errW_none, errW_some] <;> rfl) | (simp only [← hji45]; first | rfl | (simp [errW_none, errW_some] <;> rfl)) | (simp [*, errW_none, errW_some] <;> rfl), belowA⟩
                                · rw [if_neg c62] at H
                                  exact absurd H (by simp)
                            · rw [if_neg c48] at H
                              exact absurd H (by simp)
                          · rw [if_neg c47] at H
                            exact absurd H (by simp)
                        · rw [if_neg c46] at H
                          exact absurd H (by simp)
                      · rw [if_neg c44] at H
                        exact absurd H (by simp)
def laws_FnTreeForm.Pure : Prop := ∀ (l0 : List Int) (l1 : List Int), (l0.length * 1 ≤ 140737488351232) → (∀ x_ ∈ l0, (Lit.int .u8 x_).wf = true) → (l1.length * 1 ≤ 140737488351232) → (∀ x_ ∈ l1, (Lit.int .u8 x_).wf = true) → ∃ k, laws_FnTreeForm.f k l0 l1 = some true
theorem laws_FnTreeForm.walk (P : laws_FnTreeForm.Pure) (A0 : Option Addr) (c0 : Nat) (l0 : List Int) (A1 : Option Addr) (c1 : Nat) (l1 : List Int) (w : World) (hr0 : Kd.C (Kd.int .u8) w A0 l0.length l0) (hc0 : l0.length ≤ c0) (hr1 : Kd.C (Kd.int .u8) w A1 l1.length l1) (hc1 : l1.length ≤ c1) (ht : TabOk w) (w0_0 : l0.length * 1 ≤ 140737488351232) (w0_1 : ∀ x_ ∈ l0, (Lit.int .u8 x_).wf = true) (w1_0 : l1.length * 1 ≤ 140737488351232) (w1_1 : ∀ x_ ∈ l1, (Lit.int .u8 x_).wf = true) :
    Calls Tryd.prog 3 #[.slice A0 l0.length c0, .slice A1 l1.length c1] w fun e w' => e = .returned (.bool true) ∧ Below w.heap.size w w' := by
  obtain ⟨k, h⟩ := P l0 l1 w0_0 w0_1 w1_0 w1_1
  refine (laws_FnTreeForm.calls k A0 c0 l0 A1 c1 l1 true w hr0 hc0 hr1 hc1 ht h).mono ?_
  rintro e w' ⟨rfl, hd⟩
  exact ⟨rfl, hd⟩

end Go.Proofs.YtdapbpgooehibaaDoor.P
