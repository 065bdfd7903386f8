-- Written by wip/tools/pprint.py (a program of this session) over the kit's printer; not trusted: Lean checks it.
import Derived.Test.YtaajcbbbmpdcnaaDoorPx0
import Derived.Test.YtaajcbbbmpdcnaaDoorPx2
import Derived.Test.YtaajcbbbmpdcnaaDoorPx4
import Derived.Test.YtaajcbbbmpdcnaaDoorPx15
import Derived.Test.YtaajcbbbmpdcnaaDoorPx16
import Derived.Test.YtaajcbbbmpdcnaaDoorV
namespace Go.Proofs.YtaajcbbbmpdcnaaDoor.P
open Go.RowKit Go.Proofs.YtaajcbbbmpdcnaaDoorW.PrintWords Go.Proofs.YtaajcbbbmpdcnaaDoorW.PrintLast Go.Proofs.YtaajcbbbmpdcnaaDoorW.PrintMore
attribute [local go_sem] cell_set_set cell_set_far_set max2_int min2_int max_two min_two max_three min_three max_four min_four   -- for this text's walks alone
set_option linter.unusedVariables false
set_option linter.unusedSimpArgs false

/-! ### laws_FnTreeKids: function 20 -/
mutual
def laws_FnTreeKids.j0 : Nat → List (S47) → Int → List Int → Bool → Option (Bool)
  | 0, _, _, _, _ => none
  | k + 1, x3, x4, x5, x33 => if x33 = true then ((spec_TreeKids.f k x3 x4).bind fun t413 => ((laws_lpInts.f k x5 t413).bind fun t416 => (some t416))) else (laws_FnTreeKids.l0 k x3 x4 x5 0)
def laws_FnTreeKids.l0 : Nat → List (S47) → Int → List Int → Int → Option (Bool)
  | 0, _, _, _, _ => none
  | k + 1, x3, x4, x5, x6 => if x6 < (x5.length : Int) then (if 0 ≤ x6 then ((impl_TreeUp.f x3 (rd x5 x6)).bind fun bt418 => ((impl_TreeAhead.f x3 (rd x5 x6)).bind fun bt421 => (if x6 > 0 then (if 0 ≤ (wrap64 (x6 - 1)) then (if (wrap64 (x6 - 1)) < (x5.length : Int) then (laws_FnTreeKids.j2 k x3 x4 x5 x6 bt418.1 bt418.2 bt421.1 bt421.2 (rd x5 (wrap64 (x6 - 1)))) else (none)) else (none)) else (laws_FnTreeKids.j2 k x3 x4 x5 x6 bt418.1 bt418.2 bt421.1 bt421.2 0)))) else (none)) else (some true)
def laws_FnTreeKids.j2 : Nat → List (S47) → Int → List Int → Int → Int → Bool → Int → Bool → Int → Option (Bool)
  | 0, _, _, _, _, _, _, _, _, _ => none
  | k + 1, x3, x4, x5, x6, x7, x8, x9, x10, x11 => if x8 = true then (if x7 = x4 then (if x10 = true then (if x9 = x11 then (if x6 > 0 then (if 0 ≤ x6 then (if x6 < (x5.length : Int) then ((laws_lpAt.f k x3 (rd x5 x6)).bind fun t425 => (if 0 ≤ (wrap64 (x6 - 1)) then (if (wrap64 (x6 - 1)) < (x5.length : Int) then ((laws_lpAt.f k x3 (rd x5 (wrap64 (x6 - 1)))).bind fun t427 => (if t425 < t427 then (some false) else (laws_FnTreeKids.l0 k x3 x4 x5 (wrap64 (x6 + 1))))) else (none)) else (none))) else (none)) else (none)) else (laws_FnTreeKids.l0 k x3 x4 x5 (wrap64 (x6 + 1)))) else (some false)) else (some false)) else (some false)) else (some false)
end
def laws_FnTreeKids.f (k : Nat) (l0 : List Int) : Option (Bool) := if (l0.length : Int) > 1048576 then (some true) else ((spec_DrawTreeKids.f k l0).bind fun bt401 => ((impl_TreeKids.f bt401.1 bt401.2).bind fun t405 => ((spec_TreeKids.f k bt401.1 bt401.2).bind fun t408 => ((laws_lpInts.f k t405 t408).bind fun t411 => (if t411 = true then ((spec_TreeOk.f k bt401.1).bind fun t412 => (laws_FnTreeKids.j0 k bt401.1 bt401.2 t405 (!t412))) else (laws_FnTreeKids.j0 k bt401.1 bt401.2 t405 true))))))
theorem laws_FnTreeKids.mono_l : ∀ k, (∀ y0 y1 y2 y3, LeO (laws_FnTreeKids.j0 k y0 y1 y2 y3) (laws_FnTreeKids.j0 (k + 1) y0 y1 y2 y3)) ∧ (∀ y0 y1 y2 y3, LeO (laws_FnTreeKids.l0 k y0 y1 y2 y3) (laws_FnTreeKids.l0 (k + 1) y0 y1 y2 y3)) ∧ (∀ y0 y1 y2 y3 y4 y5 y6 y7 y8, LeO (laws_FnTreeKids.j2 k y0 y1 y2 y3 y4 y5 y6 y7 y8) (laws_FnTreeKids.j2 (k + 1) y0 y1 y2 y3 y4 y5 y6 y7 y8))
  | 0 => ⟨fun _ _ _ _ r h => by simp [laws_FnTreeKids.j0] at h, fun _ _ _ _ r h => by simp [laws_FnTreeKids.l0] at h, fun _ _ _ _ _ _ _ _ _ r h => by simp [laws_FnTreeKids.j2] at h⟩
  | k + 1 => by
    obtain ⟨ih0, ih1, ih2⟩ := laws_FnTreeKids.mono_l k
    refine ⟨?_, ?_, ?_⟩
    · intro y0 y1 y2 y3
      unfold laws_FnTreeKids.j0
      repeat' first
      | (with_reducible exact ih0 _ _ _ _)
      | (with_reducible exact ih1 _ _ _ _)
      | (with_reducible exact ih2 _ _ _ _ _ _ _ _ _)
      | (with_reducible exact laws_lpAt.mono _ _ _)
      | (with_reducible exact laws_lpInts.mono _ _ _)
      | (with_reducible exact spec_DrawTreeKids.mono _ _)
      | (with_reducible exact spec_TreeKids.mono _ _ _)
      | (with_reducible exact spec_TreeOk.mono _ _)
      | (with_reducible exact LeO.refl _)
      | (with_reducible exact LeO.none _)
      | (with_reducible refine LeO.ite ?_ ?_)
      | (with_reducible refine LeO.bind ?_ (fun _ => ?_))
      | exact ih0 _ _ _ _
      | exact ih1 _ _ _ _
      | exact ih2 _ _ _ _ _ _ _ _ _
      | exact laws_lpAt.mono _ _ _
      | exact laws_lpInts.mono _ _ _
      | exact spec_DrawTreeKids.mono _ _
      | exact spec_TreeKids.mono _ _ _
      | exact spec_TreeOk.mono _ _
      | exact LeO.none _
      | refine LeO.ite ?_ ?_
      | refine LeO.bind ?_ (fun _ => ?_)
    · intro y0 y1 y2 y3
      unfold laws_FnTreeKids.l0
      repeat' first
      | (with_reducible exact ih0 _ _ _ _)
      | (with_reducible exact ih1 _ _ _ _)
      | (with_reducible exact ih2 _ _ _ _ _ _ _ _ _)
      | (with_reducible exact laws_lpAt.mono _ _ _)
      | (with_reducible exact laws_lpInts.mono _ _ _)
      | (with_reducible exact spec_DrawTreeKids.mono _ _)
      | (with_reducible exact spec_TreeKids.mono _ _ _)
      | (with_reducible exact spec_TreeOk.mono _ _)
      | (with_reducible exact LeO.refl _)
      | (with_reducible exact LeO.none _)
      | (with_reducible refine LeO.ite ?_ ?_)
      | (with_reducible refine LeO.bind ?_ (fun _ => ?_))
      | exact ih0 _ _ _ _
      | exact ih1 _ _ _ _
      | exact ih2 _ _ _ _ _ _ _ _ _
      | exact laws_lpAt.mono _ _ _
      | exact laws_lpInts.mono _ _ _
      | exact spec_DrawTreeKids.mono _ _
      | exact spec_TreeKids.mono _ _ _
      | exact spec_TreeOk.mono _ _
      | exact LeO.none _
      | refine LeO.ite ?_ ?_
      | refine LeO.bind ?_ (fun _ => ?_)
    · intro y0 y1 y2 y3 y4 y5 y6 y7 y8
      unfold laws_FnTreeKids.j2
      repeat' first
      | (with_reducible exact ih0 _ _ _ _)
      | (with_reducible exact ih1 _ _ _ _)
      | (with_reducible exact ih2 _ _ _ _ _ _ _ _ _)
      | (with_reducible exact laws_lpAt.mono _ _ _)
      | (with_reducible exact laws_lpInts.mono _ _ _)
      | (with_reducible exact spec_DrawTreeKids.mono _ _)
      | (with_reducible exact spec_TreeKids.mono _ _ _)
      | (with_reducible exact spec_TreeOk.mono _ _)
      | (with_reducible exact LeO.refl _)
      | (with_reducible exact LeO.none _)
      | (with_reducible refine LeO.ite ?_ ?_)
      | (with_reducible refine LeO.bind ?_ (fun _ => ?_))
      | exact ih0 _ _ _ _
      | exact ih1 _ _ _ _
      | exact ih2 _ _ _ _ _ _ _ _ _
      | exact laws_lpAt.mono _ _ _
      | exact laws_lpInts.mono _ _ _
      | exact spec_DrawTreeKids.mono _ _
      | exact spec_TreeKids.mono _ _ _
      | exact spec_TreeOk.mono _ _
      | exact LeO.none _
      | refine LeO.ite ?_ ?_
      | refine LeO.bind ?_ (fun _ => ?_)
theorem laws_FnTreeKids.mono : ∀ a0 k, LeO (laws_FnTreeKids.f k a0) (laws_FnTreeKids.f (k + 1) a0) := by
  intro a0 k
  obtain ⟨ih0, ih1, ih2⟩ := laws_FnTreeKids.mono_l k
  unfold laws_FnTreeKids.f
  repeat' first
      | (with_reducible exact ih0 _ _ _ _)
      | (with_reducible exact ih1 _ _ _ _)
      | (with_reducible exact ih2 _ _ _ _ _ _ _ _ _)
      | (with_reducible exact laws_lpAt.mono _ _ _)
      | (with_reducible exact laws_lpInts.mono _ _ _)
      | (with_reducible exact spec_DrawTreeKids.mono _ _)
      | (with_reducible exact spec_TreeKids.mono _ _ _)
      | (with_reducible exact spec_TreeOk.mono _ _)
      | (with_reducible exact LeO.refl _)
      | (with_reducible exact LeO.none _)
      | (with_reducible refine LeO.ite ?_ ?_)
      | (with_reducible refine LeO.bind ?_ (fun _ => ?_))
      | exact ih0 _ _ _ _
      | exact ih1 _ _ _ _
      | exact ih2 _ _ _ _ _ _ _ _ _
      | exact laws_lpAt.mono _ _ _
      | exact laws_lpInts.mono _ _ _
      | exact spec_DrawTreeKids.mono _ _
      | exact spec_TreeKids.mono _ _ _
      | exact spec_TreeOk.mono _ _
      | exact LeO.none _
      | refine LeO.ite ?_ ?_
      | refine LeO.bind ?_ (fun _ => ?_)
def laws_FnTreeKids.T15 : Bool × List (List Nat × List Nat) := (true, [([], []), ([0], [0]), ([1], [1]), ([2], [2]), ([2], [2]), ([3, 4, 2], [2, 3, 4]), ([2, 5], [2, 5]), ([6, 2], [6]), ([7], [7]), ([8, 7], [7, 8]), ([7, 9], [7, 9]), ([10, 7], [10]), ([11], [11]), ([11], [11]), ([12, 13, 11], [11, 12, 13]), ([11, 14], [11, 14]), ([15, 11], [15]), ([16], [16]), ([17, 16], [16, 17]), ([18, 16, 16], [16, 18]), ([19], [19]), ([19], [19]), ([19], [19]), ([21, 22, 19], [19, 21, 22]), ([23, 19], [19, 23]), ([20, 24, 19, 19], [19, 20, 24]), ([19], [19]), ([19], [19]), ([19], [19]), ([28, 19], [19, 28]), ([27, 29, 19], [19, 27, 29]), ([30, 19], [19, 30]), ([26, 31, 25, 19], [19, 26, 31]), ([25, 32, 19], [19, 25, 32]), ([19, 33, 16], [16, 19, 33]), ([16, 34], [16, 34])])
def laws_FnTreeKids.B15 : List Nat := [0, 1, 3, 7, 7, 31, 63, 127, 255, 511, 1023, 2047, 4095, 4095, 16383, 32767, 65535, 131071, 262143, 524287, 1048575, 1048575, 1048575, 7340031, 15728639, 33554431, 1048575, 1048575, 1048575, 269484031, 940572671, 2014314495, 4294967295, 8589934591, 17179869183, 34359738367]
theorem laws_FnTreeKids.tab15 : rtab .any (opsOf Tryd.f20 15) = laws_FnTreeKids.T15 := by kernel_rfl
theorem laws_FnTreeKids.bits15 : waitsOk laws_FnTreeKids.T15.2 laws_FnTreeKids.B15 = true := by kernel_rfl
set_option maxHeartbeats 8000000 in
set_option maxRecDepth 100000 in
theorem laws_FnTreeKids.calls (k : Nat) (A0 : Option Addr) (c0 : Nat) (l0 : List Int) (r : Bool) (w : World) (hr0 : Kd.C (Kd.int .u8) w A0 l0.length l0) (hc0 : l0.length ≤ c0) (ht : TabOk w) (h : laws_FnTreeKids.f k l0 = some r) :
    Calls Tryd.prog 20 #[.slice A0 l0.length c0] w fun e w' => e = .returned (.bool r) ∧ Below w.heap.size w w' := by
  have HR0 := Aside0.mk hr0
  have HC0 := Aside0.mk hc0
  clear hr0 hc0
  have HT := Aside0.mk ht
  clear ht
  have HB := Aside0.mk (Below.refl w.heap.size w)
  have H : (if (l0.length : Int) > 1048576 then (some true) else ((spec_DrawTreeKids.f k l0).bind fun bt401 => ((impl_TreeKids.f bt401.1 bt401.2).bind fun t405 => ((spec_TreeKids.f k bt401.1 bt401.2).bind fun t408 => ((laws_lpInts.f k t405 t408).bind fun t411 => (if t411 = true then ((spec_TreeOk.f k bt401.1).bind fun t412 => (laws_FnTreeKids.j0 k bt401.1 bt401.2 t405 (!t412))) else (laws_FnTreeKids.j0 k bt401.1 bt401.2 t405 true))))))) = some r := h
  clear h
  by_cases c2 : (l0.length : Int) > 1048576
  · rw [if_pos c2] at H
    have c2b0 : decide (1048576 < (l0.length : Int)) = true := decide_eq_true c2
    have c2b1 : decide (1048576 < l0.length) = true := decide_eq_true (by omega)
    clear c2
    obtain rfl := Option.some.inj H
    go_enter Tryd.func20, Tryd.ntmps20
    go_wp2
    go_ret
    exact ⟨endA, belowA⟩
  · rw [if_neg c2] at H
    have c2b0 : decide (1048576 < (l0.length : Int)) = false := decide_eq_false c2
    have c2b1 : decide (1048576 < l0.length) = false := decide_eq_false (by omega)
    clear c2
    replace H := Option.bind_eq_some_iff.mp H
    obtain ⟨⟨t401, t402⟩, A30, H⟩ := H
    (try dsimp only at H)
    have A3 := Aside0.mk A30
    clear A30
    replace H := Option.bind_eq_some_iff.mp H
    obtain ⟨t405, A40, H⟩ := H
    (try dsimp only at H)
    have A4 := Aside0.mk A40
    clear A40
    have HC5 := Aside0.mk H
    clear H
    go_enter Tryd.func20, Tryd.ntmps20
    go_upto_region 5 with (first | ((with_reducible refine gate_callee (f := 51) rfl ?_); refine goesL_ (some 17) rfl rfl Tryd.func51 (by kernel_rfl) rfl #[.slice A0 l0.length c0] rfl argsA ?_; (with_reducible refine (spec_DrawTreeKids.calls k _ _ l0 t401 t402 _ ?side1 ?side2 A3.out).mono ?_); (case side1 => repeat (first | exact HR0.out | (with_reducible refine Kd.C_alloc ?_ _) | (with_reducible refine Kd.C_drewN ?_ _) | (with_reducible refine Kd.C_drew ?_))); (case side2 => exact HC0.out); rintro e w6 ⟨v403, rfl, ho0, hb⟩; refine ⟨_, rfl, ?_⟩; have n0_ := Aside0.mk (Kd.Q_lower ho0 (below_size belowA)); have n1_ := Aside0.mk (below_step belowA hb); clear HB; have HO404 := n0_; have HB := n1_; clear n0_ n1_; (try clear hb); (try clear hb2); (try clear hk); (try clear hi); (try clear ho0); obtain ⟨Ao7, co7, eo7, _⟩ := Kd.Q_slice HO404.out; subst eo7) | ((with_reducible refine gate_callee (f := 34) rfl ?_); refine goesL_ (some 22) rfl rfl Tryd.func34 (by kernel_rfl) rfl #[.slice Ao7 t401.length co7, .int .i64 t402] rfl argsA ?_; (with_reducible refine (impl_TreeKids.calls _ _ t401 t402 t405 _ ?side1 ?side2 ?side3 A4.out).mono ?_); (case side1 => repeat (first | exact (Kd.Q_reads' HO404.out).2.2 | (with_reducible refine Kd.C_alloc ?_ _) | (with_reducible refine Kd.C_drewN ?_ _) | (with_reducible refine Kd.C_drew ?_))); (case side2 => exact (Kd.Q_reads' HO404.out).2.1); (case side3 => exact TabOk.below HT.out belowA); rintro e w8 ⟨v406, rfl, ho0, hb⟩; refine ⟨_, rfl, ?_⟩; have n0_ := Aside0.mk (Kd.Q_below (by (with_reducible repeat (first | apply Kd.Q_alloc | apply Kd.Q_drewN | apply Kd.Q_drew)); exact HO404.out) hb); have n1_ := Aside0.mk (Kd.R_lower ho0 (below_size belowA)); have n2_ := Aside0.mk (below_step belowA hb); clear HO404; clear HB; have HO404 := n0_; have HO407 := n1_; have HB := n2_; clear n0_ n1_ n2_; (try clear hb); (try clear hb2); (try clear hk); (try clear hi); (try clear ho0)))
    (try simp only [Act.put, List.setIfInBounds_toArray, List.set_cons_zero, List.set_cons_succ])
    go_cut [33] (fun v33 wc => ∃ (kq : Nat) (x33_4 : Bool), v33 = .bool x33_4 ∧ Aside0 (laws_FnTreeKids.j0 kq t401 t402 t405 x33_4 = some r) ∧ Aside0 (kq ≤ k) ∧ Aside0 (Kd.Q k47 47 wc w.heap.size (fun _ => True) (.slice Ao7 t401.length co7) t401) ∧ Aside0 (Kd.R (Kd.int .i64) 3 wc w.heap.size (fun _ => True) v406 t405) ∧ Aside0 (Below w.heap.size w wc))
    case first =>
      have H := HC5.out
      clear HC5
      replace H := Option.bind_eq_some_iff.mp H
      obtain ⟨t408, A90, H⟩ := H
      (try dsimp only at H)
      have A9 := Aside0.mk A90
      clear A90
      replace H := Option.bind_eq_some_iff.mp H
      obtain ⟨t411, A100, H⟩ := H
      (try dsimp only at H)
      have A10 := Aside0.mk A100
      clear A100
      by_cases c11 : t411 = true
      · subst c11
        have H1 : ((spec_TreeOk.f k t401).bind fun t412 => (laws_FnTreeKids.j0 k t401 t402 t405 (!t412))) = some r := by rw [if_pos rfl] at H; exact H
        clear H
        have H := H1
        clear H1
        replace H := Option.bind_eq_some_iff.mp H
        obtain ⟨t412, A120, H⟩ := H
        (try dsimp only at H)
        have A12 := Aside0.mk A120
        clear A120
        have H' := Aside0.mk H
        clear H
        go_wp2_with (first | ((with_reducible refine gate_callee (f := 33) rfl ?_); refine goesL_ (some 26) rfl rfl Tryd.func33 (by kernel_rfl) rfl #[.slice Ao7 t401.length co7, .int .i64 t402] rfl argsA ?_; (with_reducible refine (spec_TreeKids.calls k _ _ t401 t402 t408 _ ?side1 ?side2 A9.out).mono ?_); (case side1 => repeat (first | exact (Kd.Q_reads' HO404.out).2.2 | (with_reducible refine Kd.C_alloc ?_ _) | (with_reducible refine Kd.C_drewN ?_ _) | (with_reducible refine Kd.C_drew ?_))); (case side2 => exact (Kd.Q_reads' HO404.out).2.1); rintro e w13 ⟨v409, rfl, ho0, hb⟩; refine ⟨_, rfl, ?_⟩; have n0_ := Aside0.mk (Kd.Q_below (by (with_reducible repeat (first | apply Kd.Q_alloc | apply Kd.Q_drewN | apply Kd.Q_drew)); exact HO404.out) hb); have n1_ := Aside0.mk (Kd.R_elder' (by (with_reducible repeat (first | apply Kd.R_alloc | apply Kd.R_drewN | apply Kd.R_drew)); exact HO407.out) (Kd.R_base ho0) hb); have n2_ := Aside0.mk (Kd.R_lower (Kd.R_new' ho0 (Kd.R_lt (by (with_reducible repeat (first | apply Kd.R_alloc | apply Kd.R_drewN | apply Kd.R_drew)); exact HO407.out))) (below_size belowA)); have n3_ := Aside0.mk (below_step belowA hb); clear HO404; clear HO407; clear HB; have HO404 := n0_; have HO407 := n1_; have HO410 := n2_; have HB := n3_; clear n0_ n1_ n2_ n3_; (try clear hb); (try clear hb2); (try clear hk); (try clear hi); (try clear ho0); obtain ⟨Ao14, co14, eo14⟩ := Kd.R_slice HO407.out; subst eo14; obtain ⟨Ao15, co15, eo15⟩ := Kd.R_slice HO410.out; subst eo15) | ((with_reducible refine gate_callee (f := 52) rfl ?_); refine goesL_ (some 27) rfl rfl Tryd.func52 (by kernel_rfl) rfl #[.slice Ao14 t405.length co14, .slice Ao15 t408.length co15] rfl argsA ?_; (with_reducible refine (laws_lpInts.calls k _ _ t405 _ _ t408 true _ ?side1 ?side2 ?side3 ?side4 A10.out).mono ?_); (case side1 => repeat (first | exact (Kd.R_reads' HO407.out).2.2 | (with_reducible refine Kd.C_alloc ?_ _) | (with_reducible refine Kd.C_drewN ?_ _) | (with_reducible refine Kd.C_drew ?_))); (case side2 => exact (Kd.R_reads' HO407.out).2.1); (case side3 => repeat (first | exact (Kd.R_reads' HO410.out).2.2 | (with_reducible refine Kd.C_alloc ?_ _) | (with_reducible refine Kd.C_drewN ?_ _) | (with_reducible refine Kd.C_drew ?_))); (case side4 => exact (Kd.R_reads' HO410.out).2.1); rintro e w' ⟨rfl, ⟨nd, rfl⟩⟩; refine ⟨_, rfl, ?_⟩) | (go_at_call 23; (with_reducible refine (spec_TreeOk.calls k _ _ t401 t412 _ ?side1 ?side2 A12.out).mono ?_); (case side1 => repeat (first | exact (Kd.Q_reads' HO404.out).2.2 | (with_reducible refine Kd.C_alloc ?_ _) | (with_reducible refine Kd.C_drewN ?_ _) | (with_reducible refine Kd.C_drew ?_))); (case side2 => exact (Kd.Q_reads' HO404.out).2.1); rintro e w16 ⟨rfl, hb⟩; have n0_ := Aside0.mk (Kd.Q_below (by (with_reducible repeat (first | apply Kd.Q_alloc | apply Kd.Q_drewN | apply Kd.Q_drew)); exact HO404.out) hb); have n1_ := Aside0.mk (Kd.R_below (by (with_reducible repeat (first | apply Kd.R_alloc | apply Kd.R_drewN | apply Kd.R_drew)); exact HO407.out) hb); have n2_ := Aside0.mk (Kd.R_below (by (with_reducible repeat (first | apply Kd.R_alloc | apply Kd.R_drewN | apply Kd.R_drew)); exact HO410.out) hb); have n3_ := Aside0.mk (below_step belowA hb); clear HO404; clear HO407; clear HO410; clear HB; have HO404 := n0_; have HO407 := n1_; have HO410 := n2_; have HB := n3_; clear n0_ n1_ n2_ n3_; (try clear hb); (try clear hb2); (try clear hk); (try clear hi)))
        go_meet
        case rel => exact ⟨_, (!t412), (by first | rfl | (simp; done) | (simp [*]; done)), H', ⟨by first | omega | exact Nat.le_refl _⟩, ⟨by (with_reducible repeat (first | apply Kd.Q_alloc | apply Kd.Q_drewN | apply Kd.Q_drew)); exact HO404.out⟩, ⟨by (with_reducible repeat (first | apply Kd.R_alloc | apply Kd.R_drewN | apply Kd.R_drew)); exact Kd.R_mono HO407.out (fun _ hk => trivial)⟩, ⟨belowA⟩⟩
      · replace c11 := Bool.eq_false_iff.mpr c11
        subst c11
        have H1 : (laws_FnTreeKids.j0 k t401 t402 t405 true) = some r := by rw [if_neg (show ¬ (false = true) by decide)] at H; exact H
        clear H
        have H := H1
        clear H1
        have H' := Aside0.mk H
        clear H
        go_wp2_with (first | ((with_reducible refine gate_callee (f := 33) rfl ?_); refine goesL_ (some 26) rfl rfl Tryd.func33 (by kernel_rfl) rfl #[.slice Ao7 t401.length co7, .int .i64 t402] rfl argsA ?_; (with_reducible refine (spec_TreeKids.calls k _ _ t401 t402 t408 _ ?side1 ?side2 A9.out).mono ?_); (case side1 => repeat (first | exact (Kd.Q_reads' HO404.out).2.2 | (with_reducible refine Kd.C_alloc ?_ _) | (with_reducible refine Kd.C_drewN ?_ _) | (with_reducible refine Kd.C_drew ?_))); (case side2 => exact (Kd.Q_reads' HO404.out).2.1); rintro e w17 ⟨v409, rfl, ho0, hb⟩; refine ⟨_, rfl, ?_⟩; have n0_ := Aside0.mk (Kd.Q_below (by (with_reducible repeat (first | apply Kd.Q_alloc | apply Kd.Q_drewN | apply Kd.Q_drew)); exact HO404.out) hb); have n1_ := Aside0.mk (Kd.R_elder' (by (with_reducible repeat (first | apply Kd.R_alloc | apply Kd.R_drewN | apply Kd.R_drew)); exact HO407.out) (Kd.R_base ho0) hb); have n2_ := Aside0.mk (Kd.R_lower (Kd.R_new' ho0 (Kd.R_lt (by (with_reducible repeat (first | apply Kd.R_alloc | apply Kd.R_drewN | apply Kd.R_drew)); exact HO407.out))) (below_size belowA)); have n3_ := Aside0.mk (below_step belowA hb); clear HO404; clear HO407; clear HB; have HO404 := n0_; have HO407 := n1_; have HO410 := n2_; have HB := n3_; clear n0_ n1_ n2_ n3_; (try clear hb); (try clear hb2); (try clear hk); (try clear hi); (try clear ho0); obtain ⟨Ao18, co18, eo18⟩ := Kd.R_slice HO407.out; subst eo18; obtain ⟨Ao19, co19, eo19⟩ := Kd.R_slice HO410.out; subst eo19) | ((with_reducible refine gate_callee (f := 52) rfl ?_); refine goesL_ (some 27) rfl rfl Tryd.func52 (by kernel_rfl) rfl #[.slice Ao18 t405.length co18, .slice Ao19 t408.length co19] rfl argsA ?_; (with_reducible refine (laws_lpInts.calls k _ _ t405 _ _ t408 false _ ?side1 ?side2 ?side3 ?side4 A10.out).mono ?_); (case side1 => repeat (first | exact (Kd.R_reads' HO407.out).2.2 | (with_reducible refine Kd.C_alloc ?_ _) | (with_reducible refine Kd.C_drewN ?_ _) | (with_reducible refine Kd.C_drew ?_))); (case side2 => exact (Kd.R_reads' HO407.out).2.1); (case side3 => repeat (first | exact (Kd.R_reads' HO410.out).2.2 | (with_reducible refine Kd.C_alloc ?_ _) | (with_reducible refine Kd.C_drewN ?_ _) | (with_reducible refine Kd.C_drew ?_))); (case side4 => exact (Kd.R_reads' HO410.out).2.1); rintro e w' ⟨rfl, ⟨nd, rfl⟩⟩; refine ⟨_, rfl, ?_⟩))
        go_meet
        case rel => exact ⟨_, (true), (by first | rfl | (simp; done) | (simp [*]; done)), H', ⟨by first | omega | exact Nat.le_refl _⟩, ⟨by (with_reducible repeat (first | apply Kd.Q_alloc | apply Kd.Q_drewN | apply Kd.Q_drew)); exact HO404.out⟩, ⟨by (with_reducible repeat (first | apply Kd.R_alloc | apply Kd.R_drewN | apply Kd.R_drew)); exact Kd.R_mono HO407.out (fun _ hk => trivial)⟩, ⟨belowA⟩⟩
    case rest =>
      clear HC5
      try clear c1
      try clear c2
      try clear c2b0
      try clear c2b1
      try clear p2
      try clear c3
      try clear c5
      try clear c11
      obtain ⟨kq, x33_4, rfl, HA, HJ4, HO_3, HO_5, HB⟩ := hcut
      cases kq with
      | zero => exact absurd HA.out (by simp [laws_FnTreeKids.j0])
      | succ kj4 =>
        have H := HA.out
        clear HA
        simp only [laws_FnTreeKids.j0] at H
        by_cases c20 : x33_4 = true
        · subst c20
          have H1 : ((spec_TreeKids.f kj4 t401 t402).bind fun t413 => ((laws_lpInts.f kj4 t405 t413).bind fun t416 => (some t416))) = some r := by rw [if_pos rfl] at H; exact H
          clear H
          have H := H1
          clear H1
          replace H := Option.bind_eq_some_iff.mp H
          obtain ⟨t413, A210, H⟩ := H
          (try dsimp only at H)
          have A21 := Aside0.mk A210
          clear A210
          replace H := Option.bind_eq_some_iff.mp H
          obtain ⟨t416, A220, H⟩ := H
          (try dsimp only at H)
          have A22 := Aside0.mk A220
          clear A220
          obtain rfl := Option.some.inj H
          go_wp2_with (first | ((with_reducible refine gate_callee (f := 33) rfl ?_); refine goesL_ (some 37) rfl rfl Tryd.func33 (by kernel_rfl) rfl #[.slice Ao7 t401.length co7, .int .i64 t402] rfl argsA ?_; (with_reducible refine (spec_TreeKids.calls kj4 _ _ t401 t402 t413 _ ?side1 ?side2 A21.out).mono ?_); (case side1 => repeat (first | exact (Kd.Q_reads' HO_3.out).2.2 | (with_reducible refine Kd.C_alloc ?_ _) | (with_reducible refine Kd.C_drewN ?_ _) | (with_reducible refine Kd.C_drew ?_))); (case side2 => exact (Kd.Q_reads' HO_3.out).2.1); rintro e w23 ⟨v414, rfl, ho0, hb⟩; refine ⟨_, rfl, ?_⟩; have n0_ := Aside0.mk (Kd.Q_below (by (with_reducible repeat (first | apply Kd.Q_alloc | apply Kd.Q_drewN | apply Kd.Q_drew)); exact HO_3.out) hb); have n1_ := Aside0.mk (Kd.R_elder' (by (with_reducible repeat (first | apply Kd.R_alloc | apply Kd.R_drewN | apply Kd.R_drew)); exact HO_5.out) (Kd.R_base ho0) hb); have n2_ := Aside0.mk (Kd.R_lower (Kd.R_new' ho0 (Kd.R_lt (by (with_reducible repeat (first | apply Kd.R_alloc | apply Kd.R_drewN | apply Kd.R_drew)); exact HO_5.out))) (below_size belowA)); have n3_ := Aside0.mk (below_step belowA hb); clear HO_3; clear HO_5; clear HB; have HO_3 := n0_; have HO_5 := n1_; have HO415 := n2_; have HB := n3_; clear n0_ n1_ n2_ n3_; (try clear hb); (try clear hb2); (try clear hk); (try clear hi); (try clear ho0); obtain ⟨Ao24, co24, eo24⟩ := Kd.R_slice HO_5.out; subst eo24; obtain ⟨Ao25, co25, eo25⟩ := Kd.R_slice HO415.out; subst eo25) | ((with_reducible refine gate_callee (f := 52) rfl ?_); refine goesL_ (some 38) rfl rfl Tryd.func52 (by kernel_rfl) rfl #[.slice Ao24 t405.length co24, .slice Ao25 t413.length co25] rfl argsA ?_; (with_reducible refine (laws_lpInts.calls kj4 _ _ t405 _ _ t413 t416 _ ?side1 ?side2 ?side3 ?side4 A22.out).mono ?_); (case side1 => repeat (first | exact (Kd.R_reads' HO_5.out).2.2 | (with_reducible refine Kd.C_alloc ?_ _) | (with_reducible refine Kd.C_drewN ?_ _) | (with_reducible refine Kd.C_drew ?_))); (case side2 => exact (Kd.R_reads' HO_5.out).2.1); (case side3 => repeat (first | exact (Kd.R_reads' HO415.out).2.2 | (with_reducible refine Kd.C_alloc ?_ _) | (with_reducible refine Kd.C_drewN ?_ _) | (with_reducible refine Kd.C_drew ?_))); (case side4 => exact (Kd.R_reads' HO415.out).2.1); rintro e w' ⟨rfl, ⟨nd, rfl⟩⟩; refine ⟨_, rfl, ?_⟩))
          go_ret
          exact ⟨endA, belowA⟩
        · replace c20 := Bool.eq_false_iff.mpr c20
          subst c20
          have H1 : (laws_FnTreeKids.l0 kj4 t401 t402 t405 0) = some r := by rw [if_neg (show ¬ (false = true) by decide)] at H; exact H
          clear H
          have H := H1
          clear H1
          have H' := Aside0.mk H
          clear H
          go_wp2
          go_loopg [6] kj4 (fun kq v6 w' => ∃ (x6_2 : Int), v6 = .int .i64 x6_2 ∧ Aside0 (laws_FnTreeKids.l0 kq t401 t402 t405 x6_2 = some r) ∧ Aside0 (kq ≤ kj4) ∧ Aside0 (Kd.Q k47 47 w' w.heap.size (fun _ => True) (.slice Ao7 t401.length co7) t401) ∧ Aside0 (Kd.R (Kd.int .i64) 3 w' w.heap.size (fun _ => True) v406 t405) ∧ Aside0 (Below w.heap.size w w'))
          case atStart => exact ⟨(0), (by first | rfl | (simp; done) | (simp [*]; done)), H', ⟨Nat.le_refl _⟩, ⟨by (with_reducible repeat (first | apply Kd.Q_alloc | apply Kd.Q_drewN | apply Kd.Q_drew)); exact HO_3.out⟩, ⟨by (with_reducible repeat (first | apply Kd.R_alloc | apply Kd.R_drewN | apply Kd.R_drew)); exact HO_5.out⟩, ⟨belowA⟩⟩
          case round =>
            clear H'
            try clear c1
            try clear c2
            try clear c2b0
            try clear c2b1
            try clear p2
            try clear c3
            try clear c5
            try clear c11
            try clear c20
            try clear p2
            obtain ⟨x6_2, rfl, HA, HK2, HO_3, HO_5, HB⟩ := hrel
            cases gk with
            | zero => exact absurd HA.out (by simp [laws_FnTreeKids.l0])
            | succ k2 =>
              have H := HA.out
              clear HA
              simp only [laws_FnTreeKids.l0] at H
              by_cases c26 : x6_2 < (t405.length : Int)
              · rw [if_pos c26] at H
                have c26b0 : decide (x6_2 < (t405.length : Int)) = true := decide_eq_true c26
                clear c26
                by_cases c27 : 0 ≤ x6_2
                · rw [if_pos c27] at H
                  have c27b0 : decide (0 ≤ x6_2) = true := decide_eq_true c27
                  clear c27
                  replace H := Option.bind_eq_some_iff.mp H
                  obtain ⟨⟨t418, t419⟩, A280, H⟩ := H
                  (try dsimp only at H)
                  have A28 := Aside0.mk A280
                  clear A280
                  replace H := Option.bind_eq_some_iff.mp H
                  obtain ⟨⟨t421, t422⟩, A290, H⟩ := H
                  (try dsimp only at H)
                  have A29 := Aside0.mk A290
                  clear A290
                  have HC30 := Aside0.mk H
                  clear H
                  obtain ⟨Ao31, co31, eo31⟩ := Kd.R_slice HO_5.out
                  subst eo31
                  have p417 : 0 ≤ (x6_2 : Int) := of_decide_eq_true (by first | (with_reducible assumption) | assumption)
                  have q417 : x6_2 < (t405.length : Int) := of_decide_eq_true (by first | (with_reducible assumption) | assumption)
                  obtain ⟨ad417, e417, hx417_0⟩ := Kd.at_int (Kd.R_reads' HO_5.out).2.2 x6_2 p417 q417
                  cases e417
                  replace p417 := eq_true p417
                  replace q417 := eq_true q417
                  go_upto_if 64 with (first | ((with_reducible refine gate_callee (f := 30) rfl ?_); refine goesL_ (some 51) rfl rfl Tryd.func30 (by kernel_rfl) rfl #[.slice Ao7 t401.length co7, .int .i64 (rd t405 x6_2)] rfl argsA ?_; (with_reducible refine (impl_TreeUp.calls _ _ t401 (rd t405 x6_2) t418 t419 _ ?side1 ?side2 ?side3 A28.out).mono ?_); (case side1 => repeat (first | exact (Kd.Q_reads' HO_3.out).2.2 | (with_reducible refine Kd.C_alloc ?_ _) | (with_reducible refine Kd.C_drewN ?_ _) | (with_reducible refine Kd.C_drew ?_))); (case side2 => exact (Kd.Q_reads' HO_3.out).2.1); (case side3 => exact TabOk.below HT.out belowA); rintro e w32 ⟨rfl, hb⟩; refine ⟨_, rfl, ?_⟩; have n0_ := Aside0.mk (Kd.Q_below (by (with_reducible repeat (first | apply Kd.Q_alloc | apply Kd.Q_drewN | apply Kd.Q_drew)); exact HO_3.out) hb); have n1_ := Aside0.mk (Kd.R_below (by (with_reducible repeat (first | apply Kd.R_alloc | apply Kd.R_drewN | apply Kd.R_drew)); exact HO_5.out) hb); have n2_ := Aside0.mk (below_step belowA hb); clear HO_3; clear HO_5; clear HB; have HO_3 := n0_; have HO_5 := n1_; have HB := n2_; clear n0_ n1_ n2_; (try clear hb); (try clear hb2); (try clear hk); (try clear hi); have p420 : 0 ≤ (x6_2 : Int) := of_decide_eq_true (by first | (with_reducible assumption) | assumption); have q420 : x6_2 < (t405.length : Int) := of_decide_eq_true (by first | (with_reducible assumption) | assumption); obtain ⟨ad420, e420, hx420_0⟩ := Kd.at_int (Kd.R_reads' HO_5.out).2.2 x6_2 p420 q420; obtain rfl : ad417 = ad420 := (by injection e420); replace p420 := eq_true p420; replace q420 := eq_true q420) | ((with_reducible refine gate_callee (f := 32) rfl ?_); refine goesL_ (some 60) rfl rfl Tryd.func32 (by kernel_rfl) rfl #[.slice Ao7 t401.length co7, .int .i64 (rd t405 x6_2)] rfl argsA ?_; (with_reducible refine (impl_TreeAhead.calls _ _ t401 (rd t405 x6_2) t421 t422 _ ?side1 ?side2 ?side3 A29.out).mono ?_); (case side1 => repeat (first | exact (Kd.Q_reads' HO_3.out).2.2 | (with_reducible refine Kd.C_alloc ?_ _) | (with_reducible refine Kd.C_drewN ?_ _) | (with_reducible refine Kd.C_drew ?_))); (case side2 => exact (Kd.Q_reads' HO_3.out).2.1); (case side3 => exact TabOk.below HT.out belowA); rintro e w33 ⟨rfl, hb⟩; refine ⟨_, rfl, ?_⟩; have n0_ := Aside0.mk (Kd.Q_below (by (with_reducible repeat (first | apply Kd.Q_alloc | apply Kd.Q_drewN | apply Kd.Q_drew)); exact HO_3.out) hb); have n1_ := Aside0.mk (Kd.R_below (by (with_reducible repeat (first | apply Kd.R_alloc | apply Kd.R_drewN | apply Kd.R_drew)); exact HO_5.out) hb); have n2_ := Aside0.mk (below_step belowA hb); clear HO_3; clear HO_5; clear HB; have HO_3 := n0_; have HO_5 := n1_; have HB := n2_; clear n0_ n1_ n2_; (try clear hb); (try clear hb2); (try clear hk); (try clear hi)))
                  (try simp only [Act.put, List.setIfInBounds_toArray, List.set_cons_zero, List.set_cons_succ])
                  go_cut [11] (fun v11 wc => ∃ (kq : Nat) (x11_29 : Int), v11 = .int .i64 x11_29 ∧ Aside0 (laws_FnTreeKids.j2 kq t401 t402 t405 x6_2 t418 t419 t421 t422 x11_29 = some r) ∧ Aside0 (kq ≤ k2) ∧ Aside0 (Kd.Q k47 47 wc w.heap.size (fun _ => True) (.slice Ao7 t401.length co7) t401) ∧ Aside0 (Kd.R (Kd.int .i64) 3 wc w.heap.size (fun _ => True) (.slice (some ad417) t405.length co31) t405) ∧ Aside0 (Below w.heap.size w wc))
                  case first =>
                    have H := HC30.out
                    clear HC30
                    by_cases c34 : x6_2 > 0
                    · rw [if_pos c34] at H
                      have c34b0 : decide (0 < x6_2) = true := decide_eq_true c34
                      clear c34
                      (first | rw [c34b0] | (simp only [i64_w, i32_w]; rw [c34b0]) | skip)
                      obtain ⟨ji35, hji35⟩ : ∃ j_ : Int, (wrap64 (x6_2 - 1)) = j_ := ⟨_, rfl⟩
                      replace H : (if 0 ≤ (ji35) then (if (ji35) < (t405.length : Int) then (laws_FnTreeKids.j2 k2 t401 t402 t405 x6_2 t418 t419 t421 t422 (rd t405 (ji35))) else (none)) else (none)) = some r := by first | (rw [hji35] at H; exact H) | (simp only [hji35] at H ⊢; exact H)
                      have hji35w : (IntKind.i64.wrap (x6_2 - 1)) = ji35 := (i64_w _).trans hji35
                      by_cases c36 : 0 ≤ (ji35)
                      · rw [if_pos c36] at H
                        have c36b0 : decide (0 ≤ (ji35)) = true := decide_eq_true c36
                        clear c36
                        by_cases c37 : (ji35) < (t405.length : Int)
                        · rw [if_pos c37] at H
                          have c37b0 : decide ((ji35) < (t405.length : Int)) = true := decide_eq_true c37
                          clear c37
                          have H' := Aside0.mk H
                          clear H
                          have p423 : 0 ≤ ((ji35) : Int) := of_decide_eq_true (by first | (with_reducible assumption) | assumption)
                          have q423 : (ji35) < (t405.length : Int) := of_decide_eq_true (by first | (with_reducible assumption) | assumption)
                          obtain ⟨ad423, e423, hx423_0⟩ := Kd.at_int (Kd.R_reads' HO_5.out).2.2 (ji35) p423 q423
                          obtain rfl : ad417 = ad423 := (by injection e423)
                          replace p423 := eq_true p423
                          replace q423 := eq_true q423
                          go_wp2
                          go_meet
                          case rel => exact ⟨_, (rd t405 (ji35)), (by first | rfl | (simp; done) | (simp only [← hji35] <;> (first | rfl | simp)) | (simp [*]; done)), H', ⟨by have := HJ4.out; have := HK2.out; first | omega | exact Nat.le_refl _⟩, ⟨by (with_reducible repeat (first | apply Kd.Q_alloc | apply Kd.Q_drewN | apply Kd.Q_drew)); exact HO_3.out⟩, ⟨by (with_reducible repeat (first | apply Kd.R_alloc | apply Kd.R_drewN | apply Kd.R_drew)); exact HO_5.out⟩, ⟨belowA⟩⟩
                        · rw [if_neg c37] at H
                          exact absurd H (by simp)
                      · rw [if_neg c36] at H
                        exact absurd H (by simp)
                    · rw [if_neg c34] at H
                      have c34b0 : decide (0 < x6_2) = false := decide_eq_false c34
                      clear c34
                      (first | rw [c34b0] | (simp only [i64_w, i32_w]; rw [c34b0]) | skip)
                      have H' := Aside0.mk H
                      clear H
                      go_wp2
                      go_meet
                      case rel => exact ⟨_, (0), (by first | rfl | (simp; done) | (simp [*]; done)), H', ⟨by have := HJ4.out; have := HK2.out; first | omega | exact Nat.le_refl _⟩, ⟨by (with_reducible repeat (first | apply Kd.Q_alloc | apply Kd.Q_drewN | apply Kd.Q_drew)); exact HO_3.out⟩, ⟨by (with_reducible repeat (first | apply Kd.R_alloc | apply Kd.R_drewN | apply Kd.R_drew)); exact HO_5.out⟩, ⟨belowA⟩⟩
                  case rest =>
                    clear HC30
                    try clear c1
                    try clear c2
                    try clear c2b0
                    try clear c2b1
                    try clear p2
                    try clear c3
                    try clear p4
                    try clear q4
                    try clear hx4
                    try clear c5
                    try clear p6
                    try clear c11
                    try clear c20
                    try clear c26
                    try clear c26b0
                    try clear c27
                    try clear c27b0
                    try clear c30
                    try clear c32
                    try clear c33
                    try clear c34
                    try clear c34b0
                    try clear c36
                    try clear c36b0
                    try clear c37
                    try clear c37b0
                    try clear hx417_0
                    try clear hx420_0
                    try clear hx423_0
                    try clear p2
                    try clear p417
                    try clear p420
                    try clear p423
                    try clear q417
                    try clear q420
                    try clear q423
                    obtain ⟨kq, x11_29, rfl, HA, HJ29, HO_3, HO_5, HB⟩ := hcut
                    cases kq with
                    | zero => exact absurd HA.out (by simp [laws_FnTreeKids.j2])
                    | succ kj29 =>
                      have H := HA.out
                      clear HA
                      simp only [laws_FnTreeKids.j2] at H
                      by_cases c38 : t419 = true
                      · subst c38
                        have H1 : (if t418 = t402 then (if t422 = true then (if t421 = x11_29 then (if x6_2 > 0 then (if 0 ≤ x6_2 then (if x6_2 < (t405.length : Int) then ((laws_lpAt.f kj29 t401 (rd t405 x6_2)).bind fun t425 => (if 0 ≤ (wrap64 (x6_2 - 1)) then (if (wrap64 (x6_2 - 1)) < (t405.length : Int) then ((laws_lpAt.f kj29 t401 (rd t405 (wrap64 (x6_2 - 1)))).bind fun t427 => (if t425 < t427 then (some false) else (laws_FnTreeKids.l0 kj29 t401 t402 t405 (wrap64 (x6_2 + 1))))) else (none)) else (none))) else (none)) else (none)) else (laws_FnTreeKids.l0 kj29 t401 t402 t405 (wrap64 (x6_2 + 1)))) else (some false)) else (some false)) else (some false)) = some r := by rw [if_pos rfl] at H; exact H
                        clear H
                        have H := H1
                        clear H1
                        by_cases c39 : t418 = t402
                        · rw [if_pos c39] at H
                          have c39b0 : (t418 == t402) = true := beq_iff_eq.mpr c39
                          have c39b1 : (t418 != t402) = false := bne_eq_false_iff_eq.mpr c39
                          clear c39
                          by_cases c40 : t422 = true
                          · subst c40
                            have H1 : (if t421 = x11_29 then (if x6_2 > 0 then (if 0 ≤ x6_2 then (if x6_2 < (t405.length : Int) then ((laws_lpAt.f kj29 t401 (rd t405 x6_2)).bind fun t425 => (if 0 ≤ (wrap64 (x6_2 - 1)) then (if (wrap64 (x6_2 - 1)) < (t405.length : Int) then ((laws_lpAt.f kj29 t401 (rd t405 (wrap64 (x6_2 - 1)))).bind fun t427 => (if t425 < t427 then (some false) else (laws_FnTreeKids.l0 kj29 t401 t402 t405 (wrap64 (x6_2 + 1))))) else (none)) else (none))) else (none)) else (none)) else (laws_FnTreeKids.l0 kj29 t401 t402 t405 (wrap64 (x6_2 + 1)))) else (some false)) = some r := by rw [if_pos rfl] at H; exact H
                            clear H
                            have H := H1
                            clear H1
                            by_cases c41 : t421 = x11_29
                            · rw [if_pos c41] at H
                              have c41b0 : (t421 == x11_29) = true := beq_iff_eq.mpr c41
                              have c41b1 : (t421 != x11_29) = false := bne_eq_false_iff_eq.mpr c41
                              clear c41
                              by_cases c42 : x6_2 > 0
                              · rw [if_pos c42] at H
                                have c42b0 : decide (0 < x6_2) = true := decide_eq_true c42
                                clear c42
                                by_cases c43 : 0 ≤ x6_2
                                · rw [if_pos c43] at H
                                  have c43b0 : decide (0 ≤ x6_2) = true := decide_eq_true c43
                                  clear c43
                                  by_cases c44 : x6_2 < (t405.length : Int)
                                  · rw [if_pos c44] at H
                                    have c44b0 : decide (x6_2 < (t405.length : Int)) = true := decide_eq_true c44
                                    clear c44
                                    replace H := Option.bind_eq_some_iff.mp H
                                    obtain ⟨t425, A450, H⟩ := H
                                    (try dsimp only at H)
                                    have A45 := Aside0.mk A450
                                    clear A450
                                    obtain ⟨ji46, hji46⟩ : ∃ j_ : Int, (wrap64 (x6_2 - 1)) = j_ := ⟨_, rfl⟩
                                    replace H : (if 0 ≤ (ji46) then (if (ji46) < (t405.length : Int) then ((laws_lpAt.f kj29 t401 (rd t405 (ji46))).bind fun t427 => (if t425 < t427 then (some false) else (laws_FnTreeKids.l0 kj29 t401 t402 t405 (wrap64 (x6_2 + 1))))) else (none)) else (none)) = some r := by first | (rw [hji46] at H; exact H) | (simp only [hji46] at H ⊢; exact H)
                                    (try rw [hji46] at A45)
                                    have hji46w : (IntKind.i64.wrap (x6_2 - 1)) = ji46 := (i64_w _).trans hji46
                                    by_cases c47 : 0 ≤ (ji46)
                                    · rw [if_pos c47] at H
                                      have c47b0 : decide (0 ≤ (ji46)) = true := decide_eq_true c47
                                      clear c47
                                      by_cases c48 : (ji46) < (t405.length : Int)
                                      · rw [if_pos c48] at H
                                        have c48b0 : decide ((ji46) < (t405.length : Int)) = true := decide_eq_true c48
                                        clear c48
                                        replace H := Option.bind_eq_some_iff.mp H
                                        obtain ⟨t427, A490, H⟩ := H
                                        (try dsimp only at H)
                                        have A49 := Aside0.mk A490
                                        clear A490
                                        by_cases c50 : t425 < t427
                                        · rw [if_pos c50] at H
                                          have c50b0 : decide (t425 < t427) = true := decide_eq_true c50
                                          clear c50
                                          obtain rfl := Option.some.inj H
                                          try go_wp2
                                          have n0_ := Aside0.mk (Kd.Q_drew HO_3.out)
                                          have n1_ := Aside0.mk (Kd.R_drew HO_5.out)
                                          have n2_ := Aside0.mk (below_drew1 HB.out)
                                          clear HO_3
                                          clear HO_5
                                          clear HB
                                          have HO_3 := n0_
                                          have HO_5 := n1_
                                          have HB := n2_
                                          clear n0_ n1_ n2_
                                          have p424 : 0 ≤ (x6_2 : Int) := of_decide_eq_true (by first | (with_reducible assumption) | assumption)
                                          have q424 : x6_2 < (t405.length : Int) := of_decide_eq_true (by first | (with_reducible assumption) | assumption)
                                          obtain ⟨ad424, e424, hx424_0⟩ := Kd.at_int (Kd.R_reads' HO_5.out).2.2 x6_2 p424 q424
                                          obtain rfl : ad417 = ad424 := (by injection e424)
                                          replace p424 := eq_true p424
                                          replace q424 := eq_true q424
                                          have p426 : 0 ≤ ((ji46) : Int) := of_decide_eq_true (by first | (with_reducible assumption) | assumption)
                                          have q426 : (ji46) < (t405.length : Int) := of_decide_eq_true (by first | (with_reducible assumption) | assumption)
                                          obtain ⟨ad426, e426, hx426_0⟩ := Kd.at_int (Kd.R_reads' HO_5.out).2.2 (ji46) p426 q426
                                          obtain rfl : ad417 = ad426 := (by injection e426)
                                          replace p426 := eq_true p426
                                          replace q426 := eq_true q426
                                          refine start_ (n := 36) (S := fun w' => w'.cell? (ad417.add (x6_2).toNat) = some (.int .i64 (rd t405 x6_2)) ∧ w'.cell? (ad417.add ((ji46)).toNat) = some (.int .i64 (rd t405 (ji46)))) (ds := []) (tf 0 36) (by kernel_rfl) rfl rfl ⟨hx424_0, hx426_0⟩ (fun hHeld => ?_); refine with_tabW laws_FnTreeKids.tab15 laws_FnTreeKids.bits15 (fun HT_ HW_ => ?_)
                                          generalize wc.drew = w51 at HO_3 HO_5 HB hx424_0 hx426_0 hHeld ⊢
                                          refine pure_ (i := 0) (N := some 70) (tf 1 35) rfl rfl (any_of HT_.out (by kernel_rfl)) (fun _ _ _ h => h) yldA putA ?_
                                          refine pure_ (i := 1) (N := some 71) (tf 2 34) rfl rfl (any_of HT_.out (by kernel_rfl)) (fun _ _ _ h => h) yldA putA ?_
                                          refine pure_ (i := 2) (N := some 72) (tf 3 33) rfl rfl (any_of HT_.out (by kernel_rfl)) (fun _ _ _ h => h) yldA putA ?_
                                          refine pure_ (i := 3) (N := some 73) (tf 4 32) rfl rfl (any_of HT_.out (by kernel_rfl)) (fun _ _ _ h => h) yldA putA ?_
                                          refine pure_ (i := 4) (N := some 74) (tf 5 31) rfl rfl (any_of HT_.out (by kernel_rfl)) (fun _ _ _ h => h) yldA putA ?_
                                          refine pure_ (i := 5) (N := some 75) (tf 6 30) rfl rfl (any_of HT_.out (by kernel_rfl)) (fun _ _ _ h => h) yldA putA ?_
                                          refine pure_ (i := 6) (N := some 76) (tf 7 29) rfl rfl (any_of HT_.out (by kernel_rfl)) (fun _ _ _ h => h) yldA putA ?_
                                          refine pure_ (i := 7) (N := some 77) (tf 8 28) rfl rfl (any_of HT_.out (by kernel_rfl)) (fun _ _ _ h => h) yldA putA ?_
                                          refine pure_ (i := 8) (N := some 78) (tf 9 27) rfl rfl (any_of HT_.out (by kernel_rfl)) (fun _ _ _ h => h) yldA putA ?_
                                          refine pure_ (i := 9) (N := some 79) (tf 10 26) rfl rfl (any_of HT_.out (by kernel_rfl)) (fun _ _ _ h => h) yldA putA ?_
                                          refine pure_ (i := 10) (N := some 80) (tf 11 25) rfl rfl (any_of HT_.out (by kernel_rfl)) (fun _ _ _ h => h) yldA putA ?_
                                          refine pure_ (i := 11) (N := some 81) (tf 12 24) rfl rfl (any_of HT_.out (by kernel_rfl)) (fun _ _ _ h => h) yldA putA ?_
                                          refine pure_ (i := 12) (N := some 82) (tf 13 23) rfl rfl (any_of HT_.out (by kernel_rfl)) (fun _ _ _ h => h) yldA putA ?_
                                          refine pure_ (i := 13) (N := some 83) (tf 14 22) rfl rfl (any_of HT_.out (by kernel_rfl)) (fun _ _ _ h => h) yldA putA ?_
                                          refine pure_ (i := 14) (N := some 84) (tf 15 21) rfl rfl (any_of HT_.out (by kernel_rfl)) (fun _ _ _ h => h) yldA putA ?_
                                          refine pure_ (i := 15) (N := some 85) (tf 16 20) rfl rfl (any_of HT_.out (by kernel_rfl)) (fun _ _ _ h => h) yldA putA ?_
                                          refine pure_ (i := 16) (N := some 86) (tf 17 19) rfl rfl (any_of HT_.out (by kernel_rfl)) (fun _ _ _ h => h) yldA putA ?_
                                          refine pure_ (i := 17) (N := some 87) (tf 18 18) rfl rfl (any_of HT_.out (by kernel_rfl)) (fun _ _ _ h => h) yldA putA ?_
                                          refine pure_ (i := 18) (N := some 88) (tf 19 17) rfl rfl (any_of HT_.out (by kernel_rfl)) (fun _ _ _ h => h) yldA putA ?_
                                          refine pure_ (i := 19) (N := some 89) (tf 20 16) rfl rfl (any_of HT_.out (by kernel_rfl)) (fun _ _ _ h => h) yldA putA ?_
                                          refine pure_ (i := 20) (N := some 90) (tf 21 15) rfl rfl (any_of HT_.out (by kernel_rfl)) (fun _ _ _ h => h) yldA putA ?_
                                          refine pure_ (i := 21) (N := some 91) (tf 22 14) rfl rfl (any_of HT_.out (by kernel_rfl)) (fun _ _ _ h => h) yldA putA ?_
                                          refine pure_ (i := 22) (N := some 92) (tf 23 13) rfl rfl (any_of HT_.out (by kernel_rfl)) (fun _ _ _ h => h) yldA putA ?_
                                          refine pure_ (i := 23) (N := some 93) (tf 24 12) rfl rfl (any_of HT_.out (by kernel_rfl)) (fun _ _ _ h => h) yldA putA ?_
                                          refine pure_ (i := 26) (N := some 96) #[true, true, true, true, true, true, true, true, true, true, true, true, true, true, true, true, true, true, true, true, true, true, true, true, false, false, true, false, false, false, false, false, false, false, false, false] rfl rfl (any_of HT_.out (by kernel_rfl)) (fun _ _ _ h => h) yldA putA ?_
                                          refine pure_ (i := 27) (N := some 97) #[true, true, true, true, true, true, true, true, true, true, true, true, true, true, true, true, true, true, true, true, true, true, true, true, false, false, true, true, false, false, false, false, false, false, false, false] rfl rfl (any_of HT_.out (by kernel_rfl)) (fun _ _ _ h => h) yldA putA ?_
                                          refine pure_ (i := 28) (N := some 98) #[true, true, true, true, true, true, true, true, true, true, true, true, true, true, true, true, true, true, true, true, true, true, true, true, false, false, true, true, true, false, false, false, false, false, false, false] rfl rfl (any_of HT_.out (by kernel_rfl)) (fun _ _ _ h => h) yldA putA ?_
                                          refine pure_ (i := 29) (N := some 99) #[true, true, true, true, true, true, true, true, true, true, true, true, true, true, true, true, true, true, true, true, true, true, true, true, false, false, true, true, true, true, false, false, false, false, false, false] rfl rfl (any_of HT_.out (by kernel_rfl)) (fun _ _ _ h => h) yldA putA ?_
                                          refine pure_ (i := 30) (N := some 100) #[true, true, true, true, true, true, true, true, true, true, true, true, true, true, true, true, true, true, true, true, true, true, true, true, false, false, true, true, true, true, true, false, false, false, false, false] rfl rfl (any_of HT_.out (by kernel_rfl)) (fun _ _ _ h => h) yldA putA ?_
                                          refine take_ (i := 24) (N := some 94) #[true, true, true, true, true, true, true, true, true, true, true, true, true, true, true, true, true, true, true, true, true, true, true, true, true, false, true, true, true, true, true, false, false, false, false, false] rfl rfl (take_ofW HT_.out HW_.out (by kernel_rfl)) (fun _ _ _ h => h) (Or.inl ⟨by rfl, by rintro w' ⟨s0, s1⟩; go_simp; with_reducible rfl⟩) hHeld putA ?_
                                          refine take_ (i := 31) (N := some 101) #[true, true, true, true, true, true, true, true, true, true, true, true, true, true, true, true, true, true, true, true, true, true, true, true, true, false, true, true, true, true, true, true, false, false, false, false] rfl rfl (take_ofW HT_.out HW_.out (by kernel_rfl)) (fun _ _ _ h => h) (Or.inl ⟨by rfl, by rintro w' ⟨s0, s1⟩; go_simp; with_reducible rfl⟩) hHeld putA ?_
                                          refine one_ (i := 25) (N := some 95) (tf 32 4) rfl rfl (one_of HT_.out (by kernel_rfl)) (by decide) (fun K hK => ?_)
                                          refine goes_ Tryd.func43 (by kernel_rfl) rfl #[.slice Ao7 t401.length co7, .int .i64 (rd t405 x6_2)] (by rfl) rfl rfl argsA ?_
                                          with_reducible refine (laws_lpAt.calls kj29 _ _ t401 (rd t405 x6_2) t425 _ ?side1 ?side2 A45.out).mono ?_
                                          (case side1 => repeat (first | exact (Kd.Q_reads' HO_3.out).2.2 | (with_reducible refine Kd.C_alloc ?_ _) | (with_reducible refine Kd.C_drewN ?_ _) | (with_reducible refine Kd.C_drew ?_)))
                                          (case side2 => exact (Kd.Q_reads' HO_3.out).2.1)
                                          rintro e w' ⟨rfl, ⟨nd, rfl⟩⟩
                                          refine ⟨_, rfl, ?_⟩
                                          refine hK.out _ _ ⟨hHeld.1, hHeld.2⟩ (fun hHeld => ?_)
                                          clear hK K
                                          refine norm_ (a' := ?_) ?_ ?_
                                          rotate_left
                                          · show Act.put _ (some 95) _ = _
                                            simp only [Act.put, List.setIfInBounds_toArray, List.set_cons_zero, List.set_cons_succ, i64_w, i32_w]
                                            rfl
                                          refine one_ (i := 32) (N := some 102) (tf 33 3) rfl rfl (one_of HT_.out (by kernel_rfl)) (by decide) (fun K hK => ?_)
                                          refine goes_ Tryd.func43 (by kernel_rfl) rfl #[.slice Ao7 t401.length co7, .int .i64 (rd t405 (ji46))] (by rfl) rfl rfl (by (try simp only [List.map_toArray, List.map_cons, List.map_nil]); first | done | (simp only [hji46]; rfl) | rfl | (simp only [List.length_drop, List.length_take]; rfl)) ?_
                                          with_reducible refine (laws_lpAt.calls kj29 _ _ t401 (rd t405 (ji46)) t427 _ ?side1 ?side2 A49.out).mono ?_
                                          (case side1 => repeat (first | exact (Kd.Q_reads' HO_3.out).2.2 | (with_reducible refine Kd.C_alloc ?_ _) | (with_reducible refine Kd.C_drewN ?_ _) | (with_reducible refine Kd.C_drew ?_)))
                                          (case side2 => exact (Kd.Q_reads' HO_3.out).2.1)
                                          rintro e w' ⟨rfl, ⟨nd, rfl⟩⟩
                                          refine ⟨_, rfl, ?_⟩
                                          refine hK.out _ _ ⟨hHeld.1, hHeld.2⟩ (fun hHeld => ?_)
                                          clear hK K
                                          refine norm_ (a' := ?_) ?_ ?_
                                          rotate_left
                                          · show Act.put _ (some 102) _ = _
                                            simp only [Act.put, List.setIfInBounds_toArray, List.set_cons_zero, List.set_cons_succ, i64_w, i32_w]
                                            rfl
                                          refine pure_ (i := 33) (N := some 103) (tf 34 2) rfl rfl (any_of HT_.out (by kernel_rfl)) (fun _ _ _ h => h) yldA putA ?_
                                          refine pure_ (i := 34) (N := some 104) (tf 35 1) rfl rfl (any_of HT_.out (by kernel_rfl)) (fun _ _ _ h => h) yldA putA ?_
                                          refine pure_ (i := 35) (N := some 105) (tf 36 0) rfl rfl (any_of HT_.out (by kernel_rfl)) (fun _ _ _ h => h) yldA putA ?_
                                          refine done_ (done_of HT_.out (by kernel_rfl)) ?_
                                          try go_wp2
                                          go_ret
                                          exact ⟨by first | rfl | (simp [errW_none, errW_some] <;> rfl) | (simp only [← hji46]; first | rfl | (simp [errW_none, errW_some] <;> rfl)) | (simp [*, errW_none, errW_some] <;> rfl), belowA⟩
                                        · rw [if_neg c50] at H
                                          have c50b0 : decide (t425 < t427) = false := decide_eq_false c50
                                          clear c50
                                          have H' := Aside0.mk H
                                          clear H
                                          try go_wp2
                                          have n0_ := Aside0.mk (Kd.Q_drew HO_3.out)
                                          have n1_ := Aside0.mk (Kd.R_drew HO_5.out)
                                          have n2_ := Aside0.mk (below_drew1 HB.out)
                                          clear HO_3
                                          clear HO_5
                                          clear HB
                                          have HO_3 := n0_
                                          have HO_5 := n1_
                                          have HB := n2_
                                          clear n0_ n1_ n2_
                                          have p424 : 0 ≤ (x6_2 : Int) := of_decide_eq_true (by first | (with_reducible assumption) | assumption)
                                          have q424 : x6_2 < (t405.length : Int) := of_decide_eq_true (by first | (with_reducible assumption) | assumption)
                                          obtain ⟨ad424, e424, hx424_0⟩ := Kd.at_int (Kd.R_reads' HO_5.out).2.2 x6_2 p424 q424
                                          obtain rfl : ad417 = ad424 := (by injection e424)
                                          replace p424 := eq_true p424
                                          replace q424 := eq_true q424
                                          have p426 : 0 ≤ ((ji46) : Int) := of_decide_eq_true (by first | (with_reducible assumption) | assumption)
                                          have q426 : (ji46) < (t405.length : Int) := of_decide_eq_true (by first | (with_reducible assumption) | assumption)
                                          obtain ⟨ad426, e426, hx426_0⟩ := Kd.at_int (Kd.R_reads' HO_5.out).2.2 (ji46) p426 q426
                                          obtain rfl : ad417 = ad426 := (by injection e426)
                                          replace p426 := eq_true p426
                                          replace q426 := eq_true q426
                                          refine start_ (n := 36) (S := fun w' => w'.cell? (ad417.add (x6_2).toNat) = some (.int .i64 (rd t405 x6_2)) ∧ w'.cell? (ad417.add ((ji46)).toNat) = some (.int .i64 (rd t405 (ji46)))) (ds := []) (tf 0 36) (by kernel_rfl) rfl rfl ⟨hx424_0, hx426_0⟩ (fun hHeld => ?_); refine with_tabW laws_FnTreeKids.tab15 laws_FnTreeKids.bits15 (fun HT_ HW_ => ?_)
                                          generalize wc.drew = w52 at HO_3 HO_5 HB hx424_0 hx426_0 hHeld ⊢
                                          refine pure_ (i := 0) (N := some 70) (tf 1 35) rfl rfl (any_of HT_.out (by kernel_rfl)) (fun _ _ _ h => h) yldA putA ?_
                                          refine pure_ (i := 1) (N := some 71) (tf 2 34) rfl rfl (any_of HT_.out (by kernel_rfl)) (fun _ _ _ h => h) yldA putA ?_
                                          refine pure_ (i := 2) (N := some 72) (tf 3 33) rfl rfl (any_of HT_.out (by kernel_rfl)) (fun _ _ _ h => h) yldA putA ?_
                                          refine pure_ (i := 3) (N := some 73) (tf 4 32) rfl rfl (any_of HT_.out (by kernel_rfl)) (fun _ _ _ h => h) yldA putA ?_
                                          refine pure_ (i := 4) (N := some 74) (tf 5 31) rfl rfl (any_of HT_.out (by kernel_rfl)) (fun _ _ _ h => h) yldA putA ?_
                                          refine pure_ (i := 5) (N := some 75) (tf 6 30) rfl rfl (any_of HT_.out (by kernel_rfl)) (fun _ _ _ h => h) yldA putA ?_
                                          refine pure_ (i := 6) (N := some 76) (tf 7 29) rfl rfl (any_of HT_.out (by kernel_rfl)) (fun _ _ _ h => h) yldA putA ?_
                                          refine pure_ (i := 7) (N := some 77) (tf 8 28) rfl rfl (any_of HT_.out (by kernel_rfl)) (fun _ _ _ h => h) yldA putA ?_
                                          refine pure_ (i := 8) (N := some 78) (tf 9 27) rfl rfl (any_of HT_.out (by kernel_rfl)) (fun _ _ _ h => h) yldA putA ?_
                                          refine pure_ (i := 9) (N := some 79) (tf 10 26) rfl rfl (any_of HT_.out (by kernel_rfl)) (fun _ _ _ h => h) yldA putA ?_
                                          refine pure_ (i := 10) (N := some 80) (tf 11 25) rfl rfl (any_of HT_.out (by kernel_rfl)) (fun _ _ _ h => h) yldA putA ?_
                                          refine pure_ (i := 11) (N := some 81) (tf 12 24) rfl rfl (any_of HT_.out (by kernel_rfl)) (fun _ _ _ h => h) yldA putA ?_
                                          refine pure_ (i := 12) (N := some 82) (tf 13 23) rfl rfl (any_of HT_.out (by kernel_rfl)) (fun _ _ _ h => h) yldA putA ?_
                                          refine pure_ (i := 13) (N := some 83) (tf 14 22) rfl rfl (any_of HT_.out (by kernel_rfl)) (fun _ _ _ h => h) yldA putA ?_
                                          refine pure_ (i := 14) (N := some 84) (tf 15 21) rfl rfl (any_of HT_.out (by kernel_rfl)) (fun _ _ _ h => h) yldA putA ?_
                                          refine pure_ (i := 15) (N := some 85) (tf 16 20) rfl rfl (any_of HT_.out (by kernel_rfl)) (fun _ _ _ h => h) yldA putA ?_
                                          refine pure_ (i := 16) (N := some 86) (tf 17 19) rfl rfl (any_of HT_.out (by kernel_rfl)) (fun _ _ _ h => h) yldA putA ?_
                                          refine pure_ (i := 17) (N := some 87) (tf 18 18) rfl rfl (any_of HT_.out (by kernel_rfl)) (fun _ _ _ h => h) yldA putA ?_
                                          refine pure_ (i := 18) (N := some 88) (tf 19 17) rfl rfl (any_of HT_.out (by kernel_rfl)) (fun _ _ _ h => h) yldA putA ?_
                                          refine pure_ (i := 19) (N := some 89) (tf 20 16) rfl rfl (any_of HT_.out (by kernel_rfl)) (fun _ _ _ h => h) yldA putA ?_
                                          refine pure_ (i := 20) (N := some 90) (tf 21 15) rfl rfl (any_of HT_.out (by kernel_rfl)) (fun _ _ _ h => h) yldA putA ?_
                                          refine pure_ (i := 21) (N := some 91) (tf 22 14) rfl rfl (any_of HT_.out (by kernel_rfl)) (fun _ _ _ h => h) yldA putA ?_
                                          refine pure_ (i := 22) (N := some 92) (tf 23 13) rfl rfl (any_of HT_.out (by kernel_rfl)) (fun _ _ _ h => h) yldA putA ?_
                                          refine pure_ (i := 23) (N := some 93) (tf 24 12) rfl rfl (any_of HT_.out (by kernel_rfl)) (fun _ _ _ h => h) yldA putA ?_
                                          refine pure_ (i := 26) (N := some 96) #[true, true, true, true, true, true, true, true, true, true, true, true, true, true, true, true, true, true, true, true, true, true, true, true, false, false, true, false, false, false, false, false, false, false, false, false] rfl rfl (any_of HT_.out (by kernel_rfl)) (fun _ _ _ h => h) yldA putA ?_
                                          refine pure_ (i := 27) (N := some 97) #[true, true, true, true, true, true, true, true, true, true, true, true, true, true, true, true, true, true, true, true, true, true, true, true, false, false, true, true, false, false, false, false, false, false, false, false] rfl rfl (any_of HT_.out (by kernel_rfl)) (fun _ _ _ h => h) yldA putA ?_
                                          refine pure_ (i := 28) (N := some 98) #[true, true, true, true, true, true, true, true, true, true, true, true, true, true, true, true, true, true, true, true, true, true, true, true, false, false, true, true, true, false, false, false, false, false, false, false] rfl rfl (any_of HT_.out (by kernel_rfl)) (fun _ _ _ h => h) yldA putA ?_
                                          refine pure_ (i := 29) (N := some 99) #[true, true, true, true, true, true, true, true, true, true, true, true, true, true, true, true, true, true, true, true, true, true, true, true, false, false, true, true, true, true, false, false, false, false, false, false] rfl rfl (any_of HT_.out (by kernel_rfl)) (fun _ _ _ h => h) yldA putA ?_
                                          refine pure_ (i := 30) (N := some 100) #[true, true, true, true, true, true, true, true, true, true, true, true, true, true, true, true, true, true, true, true, true, true, true, true, false, false, true, true, true, true, true, false, false, false, false, false] rfl rfl (any_of HT_.out (by kernel_rfl)) (fun _ _ _ h => h) yldA putA ?_
                                          refine take_ (i := 24) (N := some 94) #[true, true, true, true, true, true, true, true, true, true, true, true, true, true, true, true, true, true, true, true, true, true, true, true, true, false, true, true, true, true, true, false, false, false, false, false] rfl rfl (take_ofW HT_.out HW_.out (by kernel_rfl)) (fun _ _ _ h => h) (Or.inl ⟨by rfl, by rintro w' ⟨s0, s1⟩; go_simp; with_reducible rfl⟩) hHeld putA ?_
                                          refine take_ (i := 31) (N := some 101) #[true, true, true, true, true, true, true, true, true, true, true, true, true, true, true, true, true, true, true, true, true, true, true, true, true, false, true, true, true, true, true, true, false, false, false, false] rfl rfl (take_ofW HT_.out HW_.out (by kernel_rfl)) (fun _ _ _ h => h) (Or.inl ⟨by rfl, by rintro w' ⟨s0, s1⟩; go_simp; with_reducible rfl⟩) hHeld putA ?_
                                          refine one_ (i := 25) (N := some 95) (tf 32 4) rfl rfl (one_of HT_.out (by kernel_rfl)) (by decide) (fun K hK => ?_)
                                          refine goes_ Tryd.func43 (by kernel_rfl) rfl #[.slice Ao7 t401.length co7, .int .i64 (rd t405 x6_2)] (by rfl) rfl rfl argsA ?_
                                          with_reducible refine (laws_lpAt.calls kj29 _ _ t401 (rd t405 x6_2) t425 _ ?side1 ?side2 A45.out).mono ?_
                                          (case side1 => repeat (first | exact (Kd.Q_reads' HO_3.out).2.2 | (with_reducible refine Kd.C_alloc ?_ _) | (with_reducible refine Kd.C_drewN ?_ _) | (with_reducible refine Kd.C_drew ?_)))
                                          (case side2 => exact (Kd.Q_reads' HO_3.out).2.1)
                                          rintro e w' ⟨rfl, ⟨nd, rfl⟩⟩
                                          refine ⟨_, rfl, ?_⟩
                                          refine hK.out _ _ ⟨hHeld.1, hHeld.2⟩ (fun hHeld => ?_)
                                          clear hK K
                                          refine norm_ (a' := ?_) ?_ ?_
                                          rotate_left
                                          · show Act.put _ (some 95) _ = _
                                            simp only [Act.put, List.setIfInBounds_toArray, List.set_cons_zero, List.set_cons_succ, i64_w, i32_w]
                                            rfl
                                          refine one_ (i := 32) (N := some 102) (tf 33 3) rfl rfl (one_of HT_.out (by kernel_rfl)) (by decide) (fun K hK => ?_)
                                          refine goes_ Tryd.func43 (by kernel_rfl) rfl #[.slice Ao7 t401.length co7, .int .i64 (rd t405 (ji46))] (by rfl) rfl rfl (by (try simp only [List.map_toArray, List.map_cons, List.map_nil]); first | done | (simp only [hji46]; rfl) | rfl | (simp only [List.length_drop, List.length_take]; rfl)) ?_
                                          with_reducible refine (laws_lpAt.calls kj29 _ _ t401 (rd t405 (ji46)) t427 _ ?side1 ?side2 A49.out).mono ?_
                                          (case side1 => repeat (first | exact (Kd.Q_reads' HO_3.out).2.2 | (with_reducible refine Kd.C_alloc ?_ _) | (with_reducible refine Kd.C_drewN ?_ _) | (with_reducible refine Kd.C_drew ?_)))
                                          (case side2 => exact (Kd.Q_reads' HO_3.out).2.1)
                                          rintro e w' ⟨rfl, ⟨nd, rfl⟩⟩
                                          refine ⟨_, rfl, ?_⟩
                                          refine hK.out _ _ ⟨hHeld.1, hHeld.2⟩ (fun hHeld => ?_)
                                          clear hK K
                                          refine norm_ (a' := ?_) ?_ ?_
                                          rotate_left
                                          · show Act.put _ (some 102) _ = _
                                            simp only [Act.put, List.setIfInBounds_toArray, List.set_cons_zero, List.set_cons_succ, i64_w, i32_w]
                                            rfl
                                          refine pure_ (i := 33) (N := some 103) (tf 34 2) rfl rfl (any_of HT_.out (by kernel_rfl)) (fun _ _ _ h => h) yldA putA ?_
                                          refine pure_ (i := 34) (N := some 104) (tf 35 1) rfl rfl (any_of HT_.out (by kernel_rfl)) (fun _ _ _ h => h) yldA putA ?_
                                          refine pure_ (i := 35) (N := some 105) (tf 36 0) rfl rfl (any_of HT_.out (by kernel_rfl)) (fun _ _ _ h => h) yldA putA ?_
                                          refine done_ (done_of HT_.out (by kernel_rfl)) ?_
                                          try go_wp2
                                          go_roundg kj29
                                          case measure => have := HJ4.out; have := HK2.out; have := HJ29.out; omega
                                          case rel => exact ⟨(wrap64 (x6_2 + 1)), (by first | rfl | (simp; done) | (simp [*]; done)), H', ⟨by have := HJ4.out; have := HK2.out; have := HJ29.out; omega⟩, ⟨by (with_reducible repeat (first | apply Kd.Q_alloc | apply Kd.Q_drewN | apply Kd.Q_drew)); exact HO_3.out⟩, ⟨by (with_reducible repeat (first | apply Kd.R_alloc | apply Kd.R_drewN | apply Kd.R_drew)); exact HO_5.out⟩, ⟨belowA⟩⟩
                                      · rw [if_neg c48] at H
                                        exact absurd H (by simp)
                                    · rw [if_neg c47] at H
                                      exact absurd H (by simp)
                                  · rw [if_neg c44] at H
                                    exact absurd H (by simp)
                                · rw [if_neg c43] at H
                                  exact absurd H (by simp)
                              · rw [if_neg c42] at H
                                have c42b0 : decide (0 < x6_2) = false := decide_eq_false c42
                                clear c42
                                have H' := Aside0.mk H
                                clear H
                                try go_wp2
                                have n0_ := Aside0.mk (Kd.Q_drew HO_3.out)
                                have n1_ := Aside0.mk (Kd.R_drew HO_5.out)
                                have n2_ := Aside0.mk (below_drew1 HB.out)
                                clear HO_3
                                clear HO_5
                                clear HB
                                have HO_3 := n0_
                                have HO_5 := n1_
                                have HB := n2_
                                clear n0_ n1_ n2_
                                refine start_ (n := 36) (S := fun w' => True) (ds := []) (tf 0 36) (by kernel_rfl) rfl rfl trivial (fun hHeld => ?_); refine with_tabW laws_FnTreeKids.tab15 laws_FnTreeKids.bits15 (fun HT_ HW_ => ?_)
                                generalize wc.drew = w53 at HO_3 HO_5 HB hHeld ⊢
                                refine pure_ (i := 0) (N := some 70) (tf 1 35) rfl rfl (any_of HT_.out (by kernel_rfl)) (fun _ _ _ h => h) yldA putA ?_
                                refine pure_ (i := 1) (N := some 71) (tf 2 34) rfl rfl (any_of HT_.out (by kernel_rfl)) (fun _ _ _ h => h) yldA putA ?_
                                refine pure_ (i := 2) (N := some 72) (tf 3 33) rfl rfl (any_of HT_.out (by kernel_rfl)) (fun _ _ _ h => h) yldA putA ?_
                                refine pure_ (i := 3) (N := some 73) (tf 4 32) rfl rfl (any_of HT_.out (by kernel_rfl)) (fun _ _ _ h => h) yldA putA ?_
                                refine pure_ (i := 4) (N := some 74) (tf 5 31) rfl rfl (any_of HT_.out (by kernel_rfl)) (fun _ _ _ h => h) yldA putA ?_
                                refine pure_ (i := 5) (N := some 75) (tf 6 30) rfl rfl (any_of HT_.out (by kernel_rfl)) (fun _ _ _ h => h) yldA putA ?_
                                refine pure_ (i := 6) (N := some 76) (tf 7 29) rfl rfl (any_of HT_.out (by kernel_rfl)) (fun _ _ _ h => h) yldA putA ?_
                                refine pure_ (i := 7) (N := some 77) (tf 8 28) rfl rfl (any_of HT_.out (by kernel_rfl)) (fun _ _ _ h => h) yldA putA ?_
                                refine pure_ (i := 8) (N := some 78) (tf 9 27) rfl rfl (any_of HT_.out (by kernel_rfl)) (fun _ _ _ h => h) yldA putA ?_
                                refine pure_ (i := 9) (N := some 79) (tf 10 26) rfl rfl (any_of HT_.out (by kernel_rfl)) (fun _ _ _ h => h) yldA putA ?_
                                refine pure_ (i := 10) (N := some 80) (tf 11 25) rfl rfl (any_of HT_.out (by kernel_rfl)) (fun _ _ _ h => h) yldA putA ?_
                                refine pure_ (i := 11) (N := some 81) (tf 12 24) rfl rfl (any_of HT_.out (by kernel_rfl)) (fun _ _ _ h => h) yldA putA ?_
                                refine pure_ (i := 12) (N := some 82) (tf 13 23) rfl rfl (any_of HT_.out (by kernel_rfl)) (fun _ _ _ h => h) yldA putA ?_
                                refine pure_ (i := 13) (N := some 83) (tf 14 22) rfl rfl (any_of HT_.out (by kernel_rfl)) (fun _ _ _ h => h) yldA putA ?_
                                refine pure_ (i := 14) (N := some 84) (tf 15 21) rfl rfl (any_of HT_.out (by kernel_rfl)) (fun _ _ _ h => h) yldA putA ?_
                                refine pure_ (i := 15) (N := some 85) (tf 16 20) rfl rfl (any_of HT_.out (by kernel_rfl)) (fun _ _ _ h => h) yldA putA ?_
                                refine pure_ (i := 16) (N := some 86) (tf 17 19) rfl rfl (any_of HT_.out (by kernel_rfl)) (fun _ _ _ h => h) yldA putA ?_
                                refine pure_ (i := 17) (N := some 87) (tf 18 18) rfl rfl (any_of HT_.out (by kernel_rfl)) (fun _ _ _ h => h) yldA putA ?_
                                refine pure_ (i := 18) (N := some 88) (tf 19 17) rfl rfl (any_of HT_.out (by kernel_rfl)) (fun _ _ _ h => h) yldA putA ?_
                                refine pure_ (i := 19) (N := some 89) (tf 20 16) rfl rfl (any_of HT_.out (by kernel_rfl)) (fun _ _ _ h => h) yldA putA ?_
                                refine pure_ (i := 20) (N := some 90) (tf 21 15) rfl rfl (any_of HT_.out (by kernel_rfl)) (fun _ _ _ h => h) yldU putA ?_
                                refine pure_ (i := 21) (N := some 91) (tf 22 14) rfl rfl (any_of HT_.out (by kernel_rfl)) (fun _ _ _ h => h) yldU putA ?_
                                refine pure_ (i := 22) (N := some 92) (tf 23 13) rfl rfl (any_of HT_.out (by kernel_rfl)) (fun _ _ _ h => h) yldU putA ?_
                                refine pure_ (i := 23) (N := some 93) (tf 24 12) rfl rfl (any_of HT_.out (by kernel_rfl)) (fun _ _ _ h => h) yldU putA ?_
                                refine pure_ (i := 24) (N := some 94) (tf 25 11) rfl rfl (any_of HT_.out (by kernel_rfl)) (fun _ _ _ h => h) yldU putA ?_
                                refine pure_ (i := 25) (N := some 95) (tf 26 10) rfl rfl (any_of HT_.out (by kernel_rfl)) (fun _ _ _ h => h) yldU putA ?_
                                refine pure_ (i := 26) (N := some 96) (tf 27 9) rfl rfl (any_of HT_.out (by kernel_rfl)) (fun _ _ _ h => h) yldU putA ?_
                                refine pure_ (i := 27) (N := some 97) (tf 28 8) rfl rfl (any_of HT_.out (by kernel_rfl)) (fun _ _ _ h => h) yldU putA ?_
                                refine pure_ (i := 28) (N := some 98) (tf 29 7) rfl rfl (any_of HT_.out (by kernel_rfl)) (fun _ _ _ h => h) yldU putA ?_
                                refine pure_ (i := 29) (N := some 99) (tf 30 6) rfl rfl (any_of HT_.out (by kernel_rfl)) (fun _ _ _ h => h) yldU putA ?_
                                refine pure_ (i := 30) (N := some 100) (tf 31 5) rfl rfl (any_of HT_.out (by kernel_rfl)) (fun _ _ _ h => h) yldU putA ?_
                                refine pure_ (i := 31) (N := some 101) (tf 32 4) rfl rfl (any_of HT_.out (by kernel_rfl)) (fun _ _ _ h => h) yldU putA ?_
                                refine pure_ (i := 32) (N := some 102) (tf 33 3) rfl rfl (any_of HT_.out (by kernel_rfl)) (fun _ _ _ h => h) yldU putA ?_
                                refine pure_ (i := 33) (N := some 103) (tf 34 2) rfl rfl (any_of HT_.out (by kernel_rfl)) (fun _ _ _ h => h) yldU putA ?_
                                refine pure_ (i := 34) (N := some 104) (tf 35 1) rfl rfl (any_of HT_.out (by kernel_rfl)) (fun _ _ _ h => h) yldA putA ?_
                                refine pure_ (i := 35) (N := some 105) (tf 36 0) rfl rfl (any_of HT_.out (by kernel_rfl)) (fun _ _ _ h => h) yldA putA ?_
                                refine done_ (done_of HT_.out (by kernel_rfl)) ?_
                                try go_wp2
                                go_roundg kj29
                                case measure => have := HJ4.out; have := HK2.out; have := HJ29.out; omega
                                case rel => exact ⟨(wrap64 (x6_2 + 1)), (by first | rfl | (simp; done) | (simp [*]; done)), H', ⟨by have := HJ4.out; have := HK2.out; have := HJ29.out; omega⟩, ⟨by (with_reducible repeat (first | apply Kd.Q_alloc | apply Kd.Q_drewN | apply Kd.Q_drew)); exact HO_3.out⟩, ⟨by (with_reducible repeat (first | apply Kd.R_alloc | apply Kd.R_drewN | apply Kd.R_drew)); exact HO_5.out⟩, ⟨belowA⟩⟩
                            · rw [if_neg c41] at H
                              have c41b0 : (t421 == x11_29) = false := beq_eq_false_iff_ne.mpr c41
                              have c41b1 : (t421 != x11_29) = true := bne_iff_ne.mpr c41
                              obtain rfl := Option.some.inj H
                              try go_wp2
                              have n0_ := Aside0.mk (Kd.Q_drew HO_3.out)
                              have n1_ := Aside0.mk (Kd.R_drew HO_5.out)
                              have n2_ := Aside0.mk (below_drew1 HB.out)
                              clear HO_3
                              clear HO_5
                              clear HB
                              have HO_3 := n0_
                              have HO_5 := n1_
                              have HB := n2_
                              clear n0_ n1_ n2_
                              refine start_ (n := 36) (S := fun w' => True) (ds := []) (tf 0 36) (by kernel_rfl) rfl rfl trivial (fun hHeld => ?_); refine with_tabW laws_FnTreeKids.tab15 laws_FnTreeKids.bits15 (fun HT_ HW_ => ?_)
                              generalize wc.drew = w54 at HO_3 HO_5 HB hHeld ⊢
                              refine pure_ (i := 0) (N := some 70) (tf 1 35) rfl rfl (any_of HT_.out (by kernel_rfl)) (fun _ _ _ h => h) yldA putA ?_
                              refine pure_ (i := 1) (N := some 71) (tf 2 34) rfl rfl (any_of HT_.out (by kernel_rfl)) (fun _ _ _ h => h) yldA putA ?_
                              refine pure_ (i := 2) (N := some 72) (tf 3 33) rfl rfl (any_of HT_.out (by kernel_rfl)) (fun _ _ _ h => h) yldA putA ?_
                              refine pure_ (i := 3) (N := some 73) (tf 4 32) rfl rfl (any_of HT_.out (by kernel_rfl)) (fun _ _ _ h => h) yldA putA ?_
                              refine pure_ (i := 4) (N := some 74) (tf 5 31) rfl rfl (any_of HT_.out (by kernel_rfl)) (fun _ _ _ h => h) yldA putA ?_
                              refine pure_ (i := 5) (N := some 75) (tf 6 30) rfl rfl (any_of HT_.out (by kernel_rfl)) (fun _ _ _ h => h) yldA putA ?_
                              refine pure_ (i := 6) (N := some 76) (tf 7 29) rfl rfl (any_of HT_.out (by kernel_rfl)) (fun _ _ _ h => h) yldA putA ?_
                              refine pure_ (i := 7) (N := some 77) (tf 8 28) rfl rfl (any_of HT_.out (by kernel_rfl)) (fun _ _ _ h => h) yldA putA ?_
                              refine pure_ (i := 8) (N := some 78) (tf 9 27) rfl rfl (any_of HT_.out (by kernel_rfl)) (fun _ _ _ h => h) yldA putA ?_
                              refine pure_ (i := 9) (N := some 79) (tf 10 26) rfl rfl (any_of HT_.out (by kernel_rfl)) (fun _ _ _ h => h) yldA putA ?_
                              refine pure_ (i := 10) (N := some 80) (tf 11 25) rfl rfl (any_of HT_.out (by kernel_rfl)) (fun _ _ _ h => h) yldA putA ?_
                              refine pure_ (i := 11) (N := some 81) (tf 12 24) rfl rfl (any_of HT_.out (by kernel_rfl)) (fun _ _ _ h => h) yldA putA ?_
                              refine pure_ (i := 12) (N := some 82) (tf 13 23) rfl rfl (any_of HT_.out (by kernel_rfl)) (fun _ _ _ h => h) yldA putA ?_
                              refine pure_ (i := 13) (N := some 83) (tf 14 22) rfl rfl (any_of HT_.out (by kernel_rfl)) (fun _ _ _ h => h) yldA putA ?_
                              refine pure_ (i := 14) (N := some 84) (tf 15 21) rfl rfl (any_of HT_.out (by kernel_rfl)) (fun _ _ _ h => h) yldA putA ?_
                              refine pure_ (i := 15) (N := some 85) (tf 16 20) rfl rfl (any_of HT_.out (by kernel_rfl)) (fun _ _ _ h => h) yldA putA ?_
                              refine pure_ (i := 16) (N := some 86) (tf 17 19) rfl rfl (any_of HT_.out (by kernel_rfl)) (fun _ _ _ h => h) yldA putA ?_
                              refine pure_ (i := 17) (N := some 87) (tf 18 18) rfl rfl (any_of HT_.out (by kernel_rfl)) (fun _ _ _ h => h) yldU putA ?_
                              refine pure_ (i := 18) (N := some 88) (tf 19 17) rfl rfl (any_of HT_.out (by kernel_rfl)) (fun _ _ _ h => h) yldU putA ?_
                              refine pure_ (i := 19) (N := some 89) (tf 20 16) rfl rfl (any_of HT_.out (by kernel_rfl)) (fun _ _ _ h => h) yldU putA ?_
                              refine pure_ (i := 20) (N := some 90) (tf 21 15) rfl rfl (any_of HT_.out (by kernel_rfl)) (fun _ _ _ h => h) yldU putA ?_
                              refine pure_ (i := 21) (N := some 91) (tf 22 14) rfl rfl (any_of HT_.out (by kernel_rfl)) (fun _ _ _ h => h) yldU putA ?_
                              refine pure_ (i := 22) (N := some 92) (tf 23 13) rfl rfl (any_of HT_.out (by kernel_rfl)) (fun _ _ _ h => h) yldU putA ?_
                              refine pure_ (i := 23) (N := some 93) (tf 24 12) rfl rfl (any_of HT_.out (by kernel_rfl)) (fun _ _ _ h => h) yldU putA ?_
                              refine pure_ (i := 24) (N := some 94) (tf 25 11) rfl rfl (any_of HT_.out (by kernel_rfl)) (fun _ _ _ h => h) yldU putA ?_
                              refine pure_ (i := 25) (N := some 95) (tf 26 10) rfl rfl (any_of HT_.out (by kernel_rfl)) (fun _ _ _ h => h) yldU putA ?_
                              refine pure_ (i := 26) (N := some 96) (tf 27 9) rfl rfl (any_of HT_.out (by kernel_rfl)) (fun _ _ _ h => h) yldU putA ?_
                              refine pure_ (i := 27) (N := some 97) (tf 28 8) rfl rfl (any_of HT_.out (by kernel_rfl)) (fun _ _ _ h => h) yldU putA ?_
                              refine pure_ (i := 28) (N := some 98) (tf 29 7) rfl rfl (any_of HT_.out (by kernel_rfl)) (fun _ _ _ h => h) yldU putA ?_
                              refine pure_ (i := 29) (N := some 99) (tf 30 6) rfl rfl (any_of HT_.out (by kernel_rfl)) (fun _ _ _ h => h) yldU putA ?_
                              refine pure_ (i := 30) (N := some 100) (tf 31 5) rfl rfl (any_of HT_.out (by kernel_rfl)) (fun _ _ _ h => h) yldU putA ?_
                              refine pure_ (i := 31) (N := some 101) (tf 32 4) rfl rfl (any_of HT_.out (by kernel_rfl)) (fun _ _ _ h => h) yldU putA ?_
                              refine pure_ (i := 32) (N := some 102) (tf 33 3) rfl rfl (any_of HT_.out (by kernel_rfl)) (fun _ _ _ h => h) yldU putA ?_
                              refine pure_ (i := 33) (N := some 103) (tf 34 2) rfl rfl (any_of HT_.out (by kernel_rfl)) (fun _ _ _ h => h) yldU putA ?_
                              refine pure_ (i := 34) (N := some 104) (tf 35 1) rfl rfl (any_of HT_.out (by kernel_rfl)) (fun _ _ _ h => h) yldU putA ?_
                              refine pure_ (i := 35) (N := some 105) (tf 36 0) rfl rfl (any_of HT_.out (by kernel_rfl)) (fun _ _ _ h => h) yldA putA ?_
                              refine done_ (done_of HT_.out (by kernel_rfl)) ?_
                              try go_wp2
                              go_ret
                              exact ⟨endA, belowA⟩
                          · replace c40 := Bool.eq_false_iff.mpr c40
                            subst c40
                            have H1 : (some false) = some r := by rw [if_neg (show ¬ (false = true) by decide)] at H; exact H
                            clear H
                            have H := H1
                            clear H1
                            obtain rfl := Option.some.inj H
                            try go_wp2
                            have n0_ := Aside0.mk (Kd.Q_drew HO_3.out)
                            have n1_ := Aside0.mk (Kd.R_drew HO_5.out)
                            have n2_ := Aside0.mk (below_drew1 HB.out)
                            clear HO_3
                            clear HO_5
                            clear HB
                            have HO_3 := n0_
                            have HO_5 := n1_
                            have HB := n2_
                            clear n0_ n1_ n2_
                            refine start_ (n := 36) (S := fun w' => True) (ds := []) (tf 0 36) (by kernel_rfl) rfl rfl trivial (fun hHeld => ?_); refine with_tabW laws_FnTreeKids.tab15 laws_FnTreeKids.bits15 (fun HT_ HW_ => ?_)
                            generalize wc.drew = w55 at HO_3 HO_5 HB hHeld ⊢
                            refine pure_ (i := 0) (N := some 70) (tf 1 35) rfl rfl (any_of HT_.out (by kernel_rfl)) (fun _ _ _ h => h) yldA putA ?_
                            refine pure_ (i := 1) (N := some 71) (tf 2 34) rfl rfl (any_of HT_.out (by kernel_rfl)) (fun _ _ _ h => h) yldA putA ?_
                            refine pure_ (i := 2) (N := some 72) (tf 3 33) rfl rfl (any_of HT_.out (by kernel_rfl)) (fun _ _ _ h => h) yldA putA ?_
                            refine pure_ (i := 3) (N := some 73) (tf 4 32) rfl rfl (any_of HT_.out (by kernel_rfl)) (fun _ _ _ h => h) yldA putA ?_
                            refine pure_ (i := 4) (N := some 74) (tf 5 31) rfl rfl (any_of HT_.out (by kernel_rfl)) (fun _ _ _ h => h) yldA putA ?_
                            refine pure_ (i := 5) (N := some 75) (tf 6 30) rfl rfl (any_of HT_.out (by kernel_rfl)) (fun _ _ _ h => h) yldA putA ?_
                            refine pure_ (i := 6) (N := some 76) (tf 7 29) rfl rfl (any_of HT_.out (by kernel_rfl)) (fun _ _ _ h => h) yldA putA ?_
                            refine pure_ (i := 7) (N := some 77) (tf 8 28) rfl rfl (any_of HT_.out (by kernel_rfl)) (fun _ _ _ h => h) yldA putA ?_
                            refine pure_ (i := 8) (N := some 78) (tf 9 27) rfl rfl (any_of HT_.out (by kernel_rfl)) (fun _ _ _ h => h) yldA putA ?_
                            refine pure_ (i := 9) (N := some 79) (tf 10 26) rfl rfl (any_of HT_.out (by kernel_rfl)) (fun _ _ _ h => h) yldA putA ?_
                            refine pure_ (i := 10) (N := some 80) (tf 11 25) rfl rfl (any_of HT_.out (by kernel_rfl)) (fun _ _ _ h => h) yldA putA ?_
                            refine pure_ (i := 11) (N := some 81) (tf 12 24) rfl rfl (any_of HT_.out (by kernel_rfl)) (fun _ _ _ h => h) yldA putA ?_
                            refine pure_ (i := 12) (N := some 82) (tf 13 23) rfl rfl (any_of HT_.out (by kernel_rfl)) (fun _ _ _ h => h) yldU putA ?_
                            refine pure_ (i := 13) (N := some 83) (tf 14 22) rfl rfl (any_of HT_.out (by kernel_rfl)) (fun _ _ _ h => h) yldU putA ?_
                            refine pure_ (i := 14) (N := some 84) (tf 15 21) rfl rfl (any_of HT_.out (by kernel_rfl)) (fun _ _ _ h => h) yldU putA ?_
                            refine pure_ (i := 15) (N := some 85) (tf 16 20) rfl rfl (any_of HT_.out (by kernel_rfl)) (fun _ _ _ h => h) yldA putA ?_
                            refine pure_ (i := 16) (N := some 86) (tf 17 19) rfl rfl (any_of HT_.out (by kernel_rfl)) (fun _ _ _ h => h) yldA putA ?_
                            refine pure_ (i := 17) (N := some 87) (tf 18 18) rfl rfl (any_of HT_.out (by kernel_rfl)) (fun _ _ _ h => h) yldU putA ?_
                            refine pure_ (i := 18) (N := some 88) (tf 19 17) rfl rfl (any_of HT_.out (by kernel_rfl)) (fun _ _ _ h => h) yldU putA ?_
                            refine pure_ (i := 19) (N := some 89) (tf 20 16) rfl rfl (any_of HT_.out (by kernel_rfl)) (fun _ _ _ h => h) yldU putA ?_
                            refine pure_ (i := 20) (N := some 90) (tf 21 15) rfl rfl (any_of HT_.out (by kernel_rfl)) (fun _ _ _ h => h) yldU putA ?_
                            refine pure_ (i := 21) (N := some 91) (tf 22 14) rfl rfl (any_of HT_.out (by kernel_rfl)) (fun _ _ _ h => h) yldU putA ?_
                            refine pure_ (i := 22) (N := some 92) (tf 23 13) rfl rfl (any_of HT_.out (by kernel_rfl)) (fun _ _ _ h => h) yldU putA ?_
                            refine pure_ (i := 23) (N := some 93) (tf 24 12) rfl rfl (any_of HT_.out (by kernel_rfl)) (fun _ _ _ h => h) yldU putA ?_
                            refine pure_ (i := 24) (N := some 94) (tf 25 11) rfl rfl (any_of HT_.out (by kernel_rfl)) (fun _ _ _ h => h) yldU putA ?_
                            refine pure_ (i := 25) (N := some 95) (tf 26 10) rfl rfl (any_of HT_.out (by kernel_rfl)) (fun _ _ _ h => h) yldU putA ?_
                            refine pure_ (i := 26) (N := some 96) (tf 27 9) rfl rfl (any_of HT_.out (by kernel_rfl)) (fun _ _ _ h => h) yldU putA ?_
                            refine pure_ (i := 27) (N := some 97) (tf 28 8) rfl rfl (any_of HT_.out (by kernel_rfl)) (fun _ _ _ h => h) yldU putA ?_
                            refine pure_ (i := 28) (N := some 98) (tf 29 7) rfl rfl (any_of HT_.out (by kernel_rfl)) (fun _ _ _ h => h) yldU putA ?_
                            refine pure_ (i := 29) (N := some 99) (tf 30 6) rfl rfl (any_of HT_.out (by kernel_rfl)) (fun _ _ _ h => h) yldU putA ?_
                            refine pure_ (i := 30) (N := some 100) (tf 31 5) rfl rfl (any_of HT_.out (by kernel_rfl)) (fun _ _ _ h => h) yldU putA ?_
                            refine pure_ (i := 31) (N := some 101) (tf 32 4) rfl rfl (any_of HT_.out (by kernel_rfl)) (fun _ _ _ h => h) yldU putA ?_
                            refine pure_ (i := 32) (N := some 102) (tf 33 3) rfl rfl (any_of HT_.out (by kernel_rfl)) (fun _ _ _ h => h) yldU putA ?_
                            refine pure_ (i := 33) (N := some 103) (tf 34 2) rfl rfl (any_of HT_.out (by kernel_rfl)) (fun _ _ _ h => h) yldU putA ?_
                            refine pure_ (i := 34) (N := some 104) (tf 35 1) rfl rfl (any_of HT_.out (by kernel_rfl)) (fun _ _ _ h => h) yldU putA ?_
                            refine pure_ (i := 35) (N := some 105) (tf 36 0) rfl rfl (any_of HT_.out (by kernel_rfl)) (fun _ _ _ h => h) yldA putA ?_
                            refine done_ (done_of HT_.out (by kernel_rfl)) ?_
                            try go_wp2
                            go_ret
                            exact ⟨endA, belowA⟩
                        · rw [if_neg c39] at H
                          have c39b0 : (t418 == t402) = false := beq_eq_false_iff_ne.mpr c39
                          have c39b1 : (t418 != t402) = true := bne_iff_ne.mpr c39
                          obtain rfl := Option.some.inj H
                          try go_wp2
                          have n0_ := Aside0.mk (Kd.Q_drew HO_3.out)
                          have n1_ := Aside0.mk (Kd.R_drew HO_5.out)
                          have n2_ := Aside0.mk (below_drew1 HB.out)
                          clear HO_3
                          clear HO_5
                          clear HB
                          have HO_3 := n0_
                          have HO_5 := n1_
                          have HB := n2_
                          clear n0_ n1_ n2_
                          refine start_ (n := 36) (S := fun w' => True) (ds := []) (tf 0 36) (by kernel_rfl) rfl rfl trivial (fun hHeld => ?_); refine with_tabW laws_FnTreeKids.tab15 laws_FnTreeKids.bits15 (fun HT_ HW_ => ?_)
                          generalize wc.drew = w56 at HO_3 HO_5 HB hHeld ⊢
                          refine pure_ (i := 0) (N := some 70) (tf 1 35) rfl rfl (any_of HT_.out (by kernel_rfl)) (fun _ _ _ h => h) yldA putA ?_
                          refine pure_ (i := 1) (N := some 71) (tf 2 34) rfl rfl (any_of HT_.out (by kernel_rfl)) (fun _ _ _ h => h) yldA putA ?_
                          refine pure_ (i := 2) (N := some 72) (tf 3 33) rfl rfl (any_of HT_.out (by kernel_rfl)) (fun _ _ _ h => h) yldA putA ?_
                          refine pure_ (i := 3) (N := some 73) (tf 4 32) rfl rfl (any_of HT_.out (by kernel_rfl)) (fun _ _ _ h => h) yldA putA ?_
                          refine pure_ (i := 4) (N := some 74) (tf 5 31) rfl rfl (any_of HT_.out (by kernel_rfl)) (fun _ _ _ h => h) yldA putA ?_
                          refine pure_ (i := 5) (N := some 75) (tf 6 30) rfl rfl (any_of HT_.out (by kernel_rfl)) (fun _ _ _ h => h) yldA putA ?_
                          refine pure_ (i := 6) (N := some 76) (tf 7 29) rfl rfl (any_of HT_.out (by kernel_rfl)) (fun _ _ _ h => h) yldA putA ?_
                          refine pure_ (i := 7) (N := some 77) (tf 8 28) rfl rfl (any_of HT_.out (by kernel_rfl)) (fun _ _ _ h => h) yldA putA ?_
                          refine pure_ (i := 8) (N := some 78) (tf 9 27) rfl rfl (any_of HT_.out (by kernel_rfl)) (fun _ _ _ h => h) yldU putA ?_
                          refine pure_ (i := 9) (N := some 79) (tf 10 26) rfl rfl (any_of HT_.out (by kernel_rfl)) (fun _ _ _ h => h) yldU putA ?_
                          refine pure_ (i := 10) (N := some 80) (tf 11 25) rfl rfl (any_of HT_.out (by kernel_rfl)) (fun _ _ _ h => h) yldA putA ?_
                          refine pure_ (i := 11) (N := some 81) (tf 12 24) rfl rfl (any_of HT_.out (by kernel_rfl)) (fun _ _ _ h => h) yldA putA ?_
                          refine pure_ (i := 12) (N := some 82) (tf 13 23) rfl rfl (any_of HT_.out (by kernel_rfl)) (fun _ _ _ h => h) yldU putA ?_
                          refine pure_ (i := 13) (N := some 83) (tf 14 22) rfl rfl (any_of HT_.out (by kernel_rfl)) (fun _ _ _ h => h) yldU putA ?_
                          refine pure_ (i := 14) (N := some 84) (tf 15 21) rfl rfl (any_of HT_.out (by kernel_rfl)) (fun _ _ _ h => h) yldU putA ?_
                          refine pure_ (i := 15) (N := some 85) (tf 16 20) rfl rfl (any_of HT_.out (by kernel_rfl)) (fun _ _ _ h => h) yldA putA ?_
                          refine pure_ (i := 16) (N := some 86) (tf 17 19) rfl rfl (any_of HT_.out (by kernel_rfl)) (fun _ _ _ h => h) yldA putA ?_
                          refine pure_ (i := 17) (N := some 87) (tf 18 18) rfl rfl (any_of HT_.out (by kernel_rfl)) (fun _ _ _ h => h) yldU putA ?_
                          refine pure_ (i := 18) (N := some 88) (tf 19 17) rfl rfl (any_of HT_.out (by kernel_rfl)) (fun _ _ _ h => h) yldU putA ?_
                          refine pure_ (i := 19) (N := some 89) (tf 20 16) rfl rfl (any_of HT_.out (by kernel_rfl)) (fun _ _ _ h => h) yldU putA ?_
                          refine pure_ (i := 20) (N := some 90) (tf 21 15) rfl rfl (any_of HT_.out (by kernel_rfl)) (fun _ _ _ h => h) yldU putA ?_
                          refine pure_ (i := 21) (N := some 91) (tf 22 14) rfl rfl (any_of HT_.out (by kernel_rfl)) (fun _ _ _ h => h) yldU putA ?_
                          refine pure_ (i := 22) (N := some 92) (tf 23 13) rfl rfl (any_of HT_.out (by kernel_rfl)) (fun _ _ _ h => h) yldU putA ?_
                          refine pure_ (i := 23) (N := some 93) (tf 24 12) rfl rfl (any_of HT_.out (by kernel_rfl)) (fun _ _ _ h => h) yldU putA ?_
                          refine pure_ (i := 24) (N := some 94) (tf 25 11) rfl rfl (any_of HT_.out (by kernel_rfl)) (fun _ _ _ h => h) yldU putA ?_
                          refine pure_ (i := 25) (N := some 95) (tf 26 10) rfl rfl (any_of HT_.out (by kernel_rfl)) (fun _ _ _ h => h) yldU putA ?_
                          refine pure_ (i := 26) (N := some 96) (tf 27 9) rfl rfl (any_of HT_.out (by kernel_rfl)) (fun _ _ _ h => h) yldU putA ?_
                          refine pure_ (i := 27) (N := some 97) (tf 28 8) rfl rfl (any_of HT_.out (by kernel_rfl)) (fun _ _ _ h => h) yldU putA ?_
                          refine pure_ (i := 28) (N := some 98) (tf 29 7) rfl rfl (any_of HT_.out (by kernel_rfl)) (fun _ _ _ h => h) yldU putA ?_
                          refine pure_ (i := 29) (N := some 99) (tf 30 6) rfl rfl (any_of HT_.out (by kernel_rfl)) (fun _ _ _ h => h) yldU putA ?_
                          refine pure_ (i := 30) (N := some 100) (tf 31 5) rfl rfl (any_of HT_.out (by kernel_rfl)) (fun _ _ _ h => h) yldU putA ?_
                          refine pure_ (i := 31) (N := some 101) (tf 32 4) rfl rfl (any_of HT_.out (by kernel_rfl)) (fun _ _ _ h => h) yldU putA ?_
                          refine pure_ (i := 32) (N := some 102) (tf 33 3) rfl rfl (any_of HT_.out (by kernel_rfl)) (fun _ _ _ h => h) yldU putA ?_
                          refine pure_ (i := 33) (N := some 103) (tf 34 2) rfl rfl (any_of HT_.out (by kernel_rfl)) (fun _ _ _ h => h) yldU putA ?_
                          refine pure_ (i := 34) (N := some 104) (tf 35 1) rfl rfl (any_of HT_.out (by kernel_rfl)) (fun _ _ _ h => h) yldU putA ?_
                          refine pure_ (i := 35) (N := some 105) (tf 36 0) rfl rfl (any_of HT_.out (by kernel_rfl)) (fun _ _ _ h => h) yldA putA ?_
                          refine done_ (done_of HT_.out (by kernel_rfl)) ?_
                          try go_wp2
                          go_ret
                          exact ⟨endA, belowA⟩
                      · replace c38 := Bool.eq_false_iff.mpr c38
                        subst c38
                        have H1 : (some false) = some r := by rw [if_neg (show ¬ (false = true) by decide)] at H; exact H
                        clear H
                        have H := H1
                        clear H1
                        obtain rfl := Option.some.inj H
                        try go_wp2
                        have n0_ := Aside0.mk (Kd.Q_drew HO_3.out)
                        have n1_ := Aside0.mk (Kd.R_drew HO_5.out)
                        have n2_ := Aside0.mk (below_drew1 HB.out)
                        clear HO_3
                        clear HO_5
                        clear HB
                        have HO_3 := n0_
                        have HO_5 := n1_
                        have HB := n2_
                        clear n0_ n1_ n2_
                        refine start_ (n := 36) (S := fun w' => True) (ds := []) (tf 0 36) (by kernel_rfl) rfl rfl trivial (fun hHeld => ?_); refine with_tabW laws_FnTreeKids.tab15 laws_FnTreeKids.bits15 (fun HT_ HW_ => ?_)
                        generalize wc.drew = w57 at HO_3 HO_5 HB hHeld ⊢
                        refine pure_ (i := 0) (N := some 70) (tf 1 35) rfl rfl (any_of HT_.out (by kernel_rfl)) (fun _ _ _ h => h) yldA putA ?_
                        refine pure_ (i := 1) (N := some 71) (tf 2 34) rfl rfl (any_of HT_.out (by kernel_rfl)) (fun _ _ _ h => h) yldA putA ?_
                        refine pure_ (i := 2) (N := some 72) (tf 3 33) rfl rfl (any_of HT_.out (by kernel_rfl)) (fun _ _ _ h => h) yldA putA ?_
                        refine pure_ (i := 3) (N := some 73) (tf 4 32) rfl rfl (any_of HT_.out (by kernel_rfl)) (fun _ _ _ h => h) yldU putA ?_
                        refine pure_ (i := 4) (N := some 74) (tf 5 31) rfl rfl (any_of HT_.out (by kernel_rfl)) (fun _ _ _ h => h) yldU putA ?_
                        refine pure_ (i := 5) (N := some 75) (tf 6 30) rfl rfl (any_of HT_.out (by kernel_rfl)) (fun _ _ _ h => h) yldU putA ?_
                        refine pure_ (i := 6) (N := some 76) (tf 7 29) rfl rfl (any_of HT_.out (by kernel_rfl)) (fun _ _ _ h => h) yldA putA ?_
                        refine pure_ (i := 7) (N := some 77) (tf 8 28) rfl rfl (any_of HT_.out (by kernel_rfl)) (fun _ _ _ h => h) yldA putA ?_
                        refine pure_ (i := 8) (N := some 78) (tf 9 27) rfl rfl (any_of HT_.out (by kernel_rfl)) (fun _ _ _ h => h) yldU putA ?_
                        refine pure_ (i := 9) (N := some 79) (tf 10 26) rfl rfl (any_of HT_.out (by kernel_rfl)) (fun _ _ _ h => h) yldU putA ?_
                        refine pure_ (i := 10) (N := some 80) (tf 11 25) rfl rfl (any_of HT_.out (by kernel_rfl)) (fun _ _ _ h => h) yldA putA ?_
                        refine pure_ (i := 11) (N := some 81) (tf 12 24) rfl rfl (any_of HT_.out (by kernel_rfl)) (fun _ _ _ h => h) yldA putA ?_
                        refine pure_ (i := 12) (N := some 82) (tf 13 23) rfl rfl (any_of HT_.out (by kernel_rfl)) (fun _ _ _ h => h) yldU putA ?_
                        refine pure_ (i := 13) (N := some 83) (tf 14 22) rfl rfl (any_of HT_.out (by kernel_rfl)) (fun _ _ _ h => h) yldU putA ?_
                        refine pure_ (i := 14) (N := some 84) (tf 15 21) rfl rfl (any_of HT_.out (by kernel_rfl)) (fun _ _ _ h => h) yldU putA ?_
                        refine pure_ (i := 15) (N := some 85) (tf 16 20) rfl rfl (any_of HT_.out (by kernel_rfl)) (fun _ _ _ h => h) yldA putA ?_
                        refine pure_ (i := 16) (N := some 86) (tf 17 19) rfl rfl (any_of HT_.out (by kernel_rfl)) (fun _ _ _ h => h) yldA putA ?_
                        refine pure_ (i := 17) (N := some 87) (tf 18 18) rfl rfl (any_of HT_.out (by kernel_rfl)) (fun _ _ _ h => h) yldU putA ?_
                        refine pure_ (i := 18) (N := some 88) (tf 19 17) rfl rfl (any_of HT_.out (by kernel_rfl)) (fun _ _ _ h => h) yldU putA ?_
                        refine pure_ (i := 19) (N := some 89) (tf 20 16) rfl rfl (any_of HT_.out (by kernel_rfl)) (fun _ _ _ h => h) yldU putA ?_
                        refine pure_ (i := 20) (N := some 90) (tf 21 15) rfl rfl (any_of HT_.out (by kernel_rfl)) (fun _ _ _ h => h) yldU putA ?_
                        refine pure_ (i := 21) (N := some 91) (tf 22 14) rfl rfl (any_of HT_.out (by kernel_rfl)) (fun _ _ _ h => h) yldU putA ?_
                        refine pure_ (i := 22) (N := some 92) (tf 23 13) rfl rfl (any_of HT_.out (by kernel_rfl)) (fun _ _ _ h => h) yldU putA ?_
                        refine pure_ (i := 23) (N := some 93) (tf 24 12) rfl rfl (any_of HT_.out (by kernel_rfl)) (fun _ _ _ h => h) yldU putA ?_
                        refine pure_ (i := 24) (N := some 94) (tf 25 11) rfl rfl (any_of HT_.out (by kernel_rfl)) (fun _ _ _ h => h) yldU putA ?_
                        refine pure_ (i := 25) (N := some 95) (tf 26 10) rfl rfl (any_of HT_.out (by kernel_rfl)) (fun _ _ _ h => h) yldU putA ?_
                        refine pure_ (i := 26) (N := some 96) (tf 27 9) rfl rfl (any_of HT_.out (by kernel_rfl)) (fun _ _ _ h => h) yldU putA ?_
                        refine pure_ (i := 27) (N := some 97) (tf 28 8) rfl rfl (any_of HT_.out (by kernel_rfl)) (fun _ _ _ h => h) yldU putA ?_
                        refine pure_ (i := 28) (N := some 98) (tf 29 7) rfl rfl (any_of HT_.out (by kernel_rfl)) (fun _ _ _ h => h) yldU putA ?_
                        refine pure_ (i := 29) (N := some 99) (tf 30 6) rfl rfl (any_of HT_.out (by kernel_rfl)) (fun _ _ _ h => h) yldU putA ?_
                        refine pure_ (i := 30) (N := some 100) (tf 31 5) rfl rfl (any_of HT_.out (by kernel_rfl)) (fun _ _ _ h => h) yldU putA ?_
                        refine pure_ (i := 31) (N := some 101) (tf 32 4) rfl rfl (any_of HT_.out (by kernel_rfl)) (fun _ _ _ h => h) yldU putA ?_
                        refine pure_ (i := 32) (N := some 102) (tf 33 3) rfl rfl (any_of HT_.out (by kernel_rfl)) (fun _ _ _ h => h) yldU putA ?_
                        refine pure_ (i := 33) (N := some 103) (tf 34 2) rfl rfl (any_of HT_.out (by kernel_rfl)) (fun _ _ _ h => h) yldU putA ?_
                        refine pure_ (i := 34) (N := some 104) (tf 35 1) rfl rfl (any_of HT_.out (by kernel_rfl)) (fun _ _ _ h => h) yldU putA ?_
                        refine pure_ (i := 35) (N := some 105) (tf 36 0) rfl rfl (any_of HT_.out (by kernel_rfl)) (fun _ _ _ h => h) yldA putA ?_
                        refine done_ (done_of HT_.out (by kernel_rfl)) ?_
                        try go_wp2
                        go_ret
                        exact ⟨endA, belowA⟩
                · rw [if_neg c27] at H
                  exact absurd H (by simp)
              · rw [if_neg c26] at H
                have c26b0 : decide (x6_2 < (t405.length : Int)) = false := decide_eq_false c26
                clear c26
                obtain rfl := Option.some.inj H
                obtain ⟨Ao58, co58, eo58⟩ := Kd.R_slice HO_5.out
                subst eo58
                go_wp2
                go_ret
                exact ⟨endA, belowA⟩
def laws_FnTreeKids.Pure : Prop := ∀ (l0 : List Int), (l0.length * 1 ≤ 140737488351232) → (∀ x_ ∈ l0, (Lit.int .u8 x_).wf = true) → ∃ k, laws_FnTreeKids.f k l0 = some true
theorem laws_FnTreeKids.walk (P : laws_FnTreeKids.Pure) (A0 : Option Addr) (c0 : Nat) (l0 : List Int) (w : World) (hr0 : Kd.C (Kd.int .u8) w A0 l0.length l0) (hc0 : l0.length ≤ c0) (ht : TabOk w) (w0_0 : l0.length * 1 ≤ 140737488351232) (w0_1 : ∀ x_ ∈ l0, (Lit.int .u8 x_).wf = true) :
    Calls Tryd.prog 20 #[.slice A0 l0.length c0] w fun e w' => e = .returned (.bool true) ∧ Below w.heap.size w w' := by
  obtain ⟨k, h⟩ := P l0 w0_0 w0_1
  refine (laws_FnTreeKids.calls k A0 c0 l0 true w hr0 hc0 ht h).mono ?_
  rintro e w' ⟨rfl, hd⟩
  exact ⟨rfl, hd⟩

end Go.Proofs.YtaajcbbbmpdcnaaDoor.P
