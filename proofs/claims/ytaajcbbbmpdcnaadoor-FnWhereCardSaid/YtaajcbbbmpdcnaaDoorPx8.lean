
-- Written by wip/tools/pprint.py (a program of this session) over the kit's printer; not trusted: Lean checks it.
import Derived.Test.YtaajcbbbmpdcnaaDoorPx0
import Derived.Test.YtaajcbbbmpdcnaaDoorPx1
import Derived.Test.YtaajcbbbmpdcnaaDoorPx4
import Derived.Test.YtaajcbbbmpdcnaaDoorPx5
import Derived.Test.YtaajcbbbmpdcnaaDoorPx6
import Derived.Test.YtaajcbbbmpdcnaaDoorPx7
import Derived.Test.YtaajcbbbmpdcnaaDoorV
namespace Go.Proofs.YtaajcbbbmpdcnaaDoor.P
open Go.RowKit Go.Proofs.YtaajcbbbmpdcnaaDoorW.PrintWords Go.Proofs.YtaajcbbbmpdcnaaDoorW.PrintLast Go.Proofs.YtaajcbbbmpdcnaaDoorW.PrintMore
attribute [local go_sem] cell_set_set cell_set_far_set max2_int min2_int max_two min_two max_three min_three max_four min_four   -- for this text's walks alone
set_option linter.unusedVariables false
set_option linter.unusedSimpArgs false
mutual
def spec_l71Row.l0 : Nat → List (S47) → Int → List Int → Int → Option ((List (S47)) × Int × Int)
 | 0, _, _, _, _ => none
 | k + 1, x4, x5, x1000, x1001 => if x5 < 6 then ((spec_l6Rd_pick.f k x1000 x1001 12).bind fun bt344 => (spec_l71Row.j1 k x4 x5 (decide (bt344.1 > 0)) x1000 bt344.2)) else (spec_l71Row.j1 k x4 x5 false x1000 x1001)
def spec_l71Row.j1 : Nat → List (S47) → Int → Bool → List Int → Int → Option ((List (S47)) × Int × Int)
 | 0, _, _, _, _, _ => none
 | k + 1, x4, x5, x15, x1000, x1001 => if x15 = true then ((spec_l6Rd_pick.f k x1000 x1001 (x4.length : Int)).bind fun bt354 => (if 0 ≤ bt354.1 then (if bt354.1 < (x4.length : Int) then ((spec_l1Made.f ((rd_T47 x4 bt354.1).f0)).bind fun t357 => (if t357 = true then (some (x4, (rd_T47 x4 bt354.1).f0, bt354.2)) else (if x5 = 3 then ((spec_l71Tree.f k x1000 bt354.2).bind fun bt358 => (spec_l71Row.l0 k bt358.1 (wrap64 (x5 + 1)) x1000 bt358.2)) else (spec_l71Row.l0 k x4 (wrap64 (x5 + 1)) x1000 bt354.2)))) else (none)) else (none))) else ((spec_l71Id.f k x1000 x1001).bind fun bt346 => ((some (([1, 2, 3, bt346.1, 0] : List Int) : List Int)).bind fun y348 => ((spec_l6Rd_pick.f k x1000 bt346.2 5).bind fun bt351 => (if 0 ≤ bt351.1 then (if bt351.1 < (y348.length : Int) then (some (x4, rd y348 bt351.1, bt351.2)) else (none)) else (none)))))
end
def spec_l71Row.f (k : Nat) (s0_0 : List Int) (s0_1 : Int) : Option ((List (S47)) × Int × Int) := (spec_l71Tree.f k s0_0 s0_1).bind fun bt340 => (spec_l71Row.l0 k bt340.1 0 s0_0 bt340.2)
theorem spec_l71Row.mono_l : ∀ k, (∀ y0 y1 y2 y3, LeO (spec_l71Row.l0 k y0 y1 y2 y3) (spec_l71Row.l0 (k + 1) y0 y1 y2 y3)) ∧ (∀ y0 y1 y2 y3 y4, LeO (spec_l71Row.j1 k y0 y1 y2 y3 y4) (spec_l71Row.j1 (k + 1) y0 y1 y2 y3 y4))
 | 0 => ⟨fun _ _ _ _ r h => by simp [spec_l71Row.l0] at h, fun _ _ _ _ _ r h => by simp [spec_l71Row.j1] at h⟩
 | k + 1 => by
  obtain ⟨ih0, ih1⟩ := spec_l71Row.mono_l k
  refine ⟨?_, ?_⟩
  ·intro y0 y1 y2 y3
   unfold spec_l71Row.l0
   repeat' first
   | (with_reducible exact ih0 _ _ _ _)
   | (with_reducible exact ih1 _ _ _ _ _)
   | (with_reducible exact spec_l6Rd_pick.mono _ _ _ _)
   | (with_reducible exact spec_l71Id.mono _ _ _)
   | (with_reducible exact spec_l71Tree.mono _ _ _)
   | (with_reducible exact LeO.refl _)
   | (with_reducible exact LeO.none _)
   | (with_reducible refine LeO.ite ?_ ?_)
   | (with_reducible refine LeO.bind ?_ (fun _ => ?_))
   | exact ih0 _ _ _ _
   | exact ih1 _ _ _ _ _
   | exact spec_l6Rd_pick.mono _ _ _ _
   | exact spec_l71Id.mono _ _ _
   | exact spec_l71Tree.mono _ _ _
   | exact LeO.none _
   | refine LeO.ite ?_ ?_
   | refine LeO.bind ?_ (fun _ => ?_)
  ·intro y0 y1 y2 y3 y4
   unfold spec_l71Row.j1
   repeat' first
   | (with_reducible exact ih0 _ _ _ _)
   | (with_reducible exact ih1 _ _ _ _ _)
   | (with_reducible exact spec_l6Rd_pick.mono _ _ _ _)
   | (with_reducible exact spec_l71Id.mono _ _ _)
   | (with_reducible exact spec_l71Tree.mono _ _ _)
   | (with_reducible exact LeO.refl _)
   | (with_reducible exact LeO.none _)
   | (with_reducible refine LeO.ite ?_ ?_)
   | (with_reducible refine LeO.bind ?_ (fun _ => ?_))
   | exact ih0 _ _ _ _
   | exact ih1 _ _ _ _ _
   | exact spec_l6Rd_pick.mono _ _ _ _
   | exact spec_l71Id.mono _ _ _
   | exact spec_l71Tree.mono _ _ _
   | exact LeO.none _
   | refine LeO.ite ?_ ?_
   | refine LeO.bind ?_ (fun _ => ?_)
theorem spec_l71Row.mono : ∀ a0 a1 k, LeO (spec_l71Row.f k a0 a1) (spec_l71Row.f (k + 1) a0 a1) := by
 intro a0 a1 k
 obtain ⟨ih0, ih1⟩ := spec_l71Row.mono_l k
 unfold spec_l71Row.f
 repeat' first
   | (with_reducible exact ih0 _ _ _ _)
   | (with_reducible exact ih1 _ _ _ _ _)
   | (with_reducible exact spec_l6Rd_pick.mono _ _ _ _)
   | (with_reducible exact spec_l71Id.mono _ _ _)
   | (with_reducible exact spec_l71Tree.mono _ _ _)
   | (with_reducible exact LeO.refl _)
   | (with_reducible exact LeO.none _)
   | (with_reducible refine LeO.ite ?_ ?_)
   | (with_reducible refine LeO.bind ?_ (fun _ => ?_))
   | exact ih0 _ _ _ _
   | exact ih1 _ _ _ _ _
   | exact spec_l6Rd_pick.mono _ _ _ _
   | exact spec_l71Id.mono _ _ _
   | exact spec_l71Tree.mono _ _ _
   | exact LeO.none _
   | refine LeO.ite ?_ ?_
   | refine LeO.bind ?_ (fun _ => ?_)
def spec_l71Row.T10 : Bool × List (List Nat × List Nat) := (true, [([], []), ([], []), ([1], [1]), ([2], [2]), ([], []), ([4, 2], [4]), ([3, 5], [3, 5]), ([6], [6]), ([0, 5, 0], [0]), ([7, 8, 0, 1, 2, 3, 4, 5, 6, 7, 8], [7])])
def spec_l71Row.B10 : List Nat := [0, 0, 2, 6, 0, 22, 62, 126, 55, 511]
theorem spec_l71Row.tab10 : rtab .any (opsOf Tryd.f85 10) = spec_l71Row.T10 := by kernel_rfl
theorem spec_l71Row.bits10 : waitsOk spec_l71Row.T10.2 spec_l71Row.B10 = true := by kernel_rfl
set_option maxHeartbeats 8000000 in
set_option maxRecDepth 100000 in
theorem spec_l71Row.calls (k : Nat) (g : Nat) (s0_0 : List Int) (s0_1 : Int) (r1 : List (S47)) (r2 : Int) (r3 : Int) (w0 w : World) (hI : IsS113 w0 w g s0_0 s0_1) (hB : Below w0.heap.size w0 w) (h : spec_l71Row.f k s0_0 s0_1 = some (r1, r2, r3)) :
  Calls Tryd.prog 85 #[.pointer (some ⟨g, 0, none⟩)] w fun e w' => ∃ v0_ : Value, e = .returned (.tuple #[v0_, .int .i64 r2]) ∧ Kd.Q k47 47 w' w.heap.size (fun _ => True) v0_ r1 ∧ IsS113 w0 w' g s0_0 r3 ∧ Below w0.heap.size w0 w' ∧ KeepBut w w' g none := by
 have HI0 := Aside0.mk hI
 have HK := Aside0.mk (KeepBut.refl w g none)
 have HL := Aside0.mk hB.size
 clear hI
 have HW0 := Aside0.mk hB.size
 have HB := Aside0.mk hB
 clear hB
 have H : ((spec_l71Tree.f k s0_0 s0_1).bind fun bt340 => (spec_l71Row.l0 k bt340.1 0 s0_0 bt340.2)) = some (r1, r2, r3) := h
 clear h
 replace H := Option.bind_eq_some_iff.mp H
 obtain ⟨⟨t340, t343⟩, A20, H⟩ := H
 (try dsimp only at H)
 have A2 := Aside0.mk A20
 clear A20
 have H' := Aside0.mk H
 clear H
 go_enter Tryd.func85, Tryd.ntmps85
 go_wp2_with (first | ((with_reducible refine gate_callee (f := 83) rfl ?_); refine goesL_ (some 8) rfl rfl Tryd.func83 (by kernel_rfl) rfl #[.pointer (some ⟨g, 0, none⟩)] rfl argsA ?_; (with_reducible refine (spec_l71Tree.calls k g s0_0 s0_1 t340 t343 w0 _ ?side1 ?side2 A2.out).mono ?_); (case side1 => exact stA); (case side2 => exact belowA); rintro e w3 ⟨v341, rfl, ho0, hi, hb, hk⟩; refine ⟨_, rfl, ?_⟩; have n0_ := Aside0.mk (Kd.Q_lower ho0 (keep_size (w := w) (g := g) (row := none) keepA)); have n1_ := Aside0.mk (KeepBut.trans keepA hk (.inl rfl)); have n2_ := Aside0.mk (hb); have n3_ := Aside0.mk (hi); clear HK; clear HB; clear HI0; have HO342 := n0_; have HK := n1_; have HB := n2_; have HI0 := n3_; clear n0_ n1_ n2_ n3_; (try clear hb); (try clear hb2); (try clear hk); (try clear hi); (try clear ho0)))
 go_loopg [4, 5] k (fun kq v4 v5 w' => ∃ (x4_1 : List (S47)) (x5_1 : Int) (x1001_1 : Int), v5 = .int .i64 x5_1 ∧ Aside0 (spec_l71Row.l0 kq x4_1 x5_1 s0_0 x1001_1 = some (r1, r2, r3)) ∧ Aside0 (kq ≤ k) ∧ Aside0 (Kd.Q k47 47 w' w.heap.size (fun _ => True) v4 x4_1) ∧ Aside0 (IsS113 w0 w' g s0_0 x1001_1) ∧ Aside0 (KeepBut w w' g none) ∧ Aside0 (Below w0.heap.size w0 w'))
 case atStart => exact ⟨(t340), (0), (t343), (by first | rfl | (simp; done) | (simp [*]; done)), H', ⟨Nat.le_refl _⟩, ⟨by (with_reducible repeat (first | apply Kd.Q_alloc | apply Kd.Q_drewN | apply Kd.Q_drew)); exact HO342.out⟩, ⟨stA⟩, ⟨keepA⟩, ⟨belowA⟩⟩
 case round =>
  clear H'
  try clear p2
  obtain ⟨x4_1, x5_1, x1001_1, rfl, HA, HK1, HO_4, HI0, HK, HB⟩ := hrel
  cases gk with
  | zero => exact absurd HA.out (by simp [spec_l71Row.l0])
  | succ k1 =>
   have H := HA.out
   clear HA
   simp only [spec_l71Row.l0] at H
   have HC4 := Aside0.mk H
   clear H
   go_upto_region 3 with (fail)
   go_cut [15] (fun v15 wc => ∃ (kq : Nat) (x15_3 : Bool) (x1001_3 : Int), v15 = .bool x15_3 ∧ Aside0 (spec_l71Row.j1 kq x4_1 x5_1 x15_3 s0_0 x1001_3 = some (r1, r2, r3)) ∧ Aside0 (kq ≤ k1) ∧ Aside0 (Kd.Q k47 47 wc w.heap.size (fun _ => True) u4 x4_1) ∧ Aside0 (IsS113 w0 wc g s0_0 x1001_3) ∧ Aside0 (KeepBut w wc g none) ∧ Aside0 (Below w0.heap.size w0 wc))
   case first =>
    have H := HC4.out
    clear HC4
    by_cases c5 : x5_1 < 6
    ·rw [if_pos c5] at H
     have c5b0 : decide (x5_1 < 6) = true := decide_eq_true c5
     clear c5
     (first | rw [c5b0] | (simp only [i64_w, i32_w]; rw [c5b0]) | skip)
     replace H := Option.bind_eq_some_iff.mp H
     obtain ⟨⟨t344, t345⟩, A60, H⟩ := H
     (try dsimp only at H)
     have A6 := Aside0.mk A60
     clear A60
     have H' := Aside0.mk H
     clear H
     go_wp2_with (first | (go_at_call 84; (with_reducible refine (spec_l6Rd_pick.calls k1 g s0_0 x1001_1 12 t344 t345 w0 _ ?side1 ?side2 A6.out).mono ?_); (case side1 => exact stA); (case side2 => exact belowA); rintro e w7 ⟨rfl, hi, hb, hk⟩; have n0_ := Aside0.mk (Kd.Q_mono (Kd.Q_keep (IsS113.apartQ (show IsS113 w0 _ g s0_0 x1001_1 from stA) (by (with_reducible repeat (first | apply Kd.Q_alloc | apply Kd.Q_drewN | apply Kd.Q_drew)); exact HO_4.out) (by decide)) hk (fun _ h => h.2)) (fun _ h => h.1)); have n1_ := Aside0.mk (KeepBut.trans keepA hk (.inl rfl)); have n2_ := Aside0.mk (hb); have n3_ := Aside0.mk (hi); clear HO_4; clear HK; clear HB; clear HI0; have HO_4 := n0_; have HK := n1_; have HB := n2_; have HI0 := n3_; clear n0_ n1_ n2_ n3_; (try clear hb); (try clear hb2); (try clear hk); (try clear hi)))
     go_meet
     case rel => exact ⟨_, (decide (t344 > 0)), (t345), (by first | rfl | (simp; done) | (simp [*]; done)), H', ⟨by have := HK1.out; first | omega | exact Nat.le_refl _⟩, ⟨by (with_reducible repeat (first | apply Kd.Q_alloc | apply Kd.Q_drewN | apply Kd.Q_drew)); exact HO_4.out⟩, ⟨stA⟩, ⟨keepA⟩, ⟨belowA⟩⟩
    ·rw [if_neg c5] at H
     have c5b0 : decide (x5_1 < 6) = false := decide_eq_false c5
     clear c5
     (first | rw [c5b0] | (simp only [i64_w, i32_w]; rw [c5b0]) | skip)
     have H' := Aside0.mk H
     clear H
     go_wp2
     go_meet
     case rel => exact ⟨_, (false), (x1001_1), (by first | rfl | (simp; done) | (simp [*]; done)), H', ⟨by have := HK1.out; first | omega | exact Nat.le_refl _⟩, ⟨by (with_reducible repeat (first | apply Kd.Q_alloc | apply Kd.Q_drewN | apply Kd.Q_drew)); exact HO_4.out⟩, ⟨stA⟩, ⟨keepA⟩, ⟨belowA⟩⟩
   case rest =>
    clear HC4
    try clear p2
    try clear c5
    try clear c5b0
    try clear p2
    obtain ⟨kq, x15_3, x1001_3, rfl, HA, HJ3, HO_4, HI0, HK, HB⟩ := hcut
    cases kq with
    | zero => exact absurd HA.out (by simp [spec_l71Row.j1])
    | succ kj3 =>
     have H := HA.out
     clear HA
     simp only [spec_l71Row.j1] at H
     by_cases c8 : x15_3 = true
     ·subst c8
      have H1 : ((spec_l6Rd_pick.f kj3 s0_0 x1001_3 (x4_1.length : Int)).bind fun bt354 => (if 0 ≤ bt354.1 then (if bt354.1 < (x4_1.length : Int) then ((spec_l1Made.f ((rd_T47 x4_1 bt354.1).f0)).bind fun t357 => (if t357 = true then (some (x4_1, (rd_T47 x4_1 bt354.1).f0, bt354.2)) else (if x5_1 = 3 then ((spec_l71Tree.f kj3 s0_0 bt354.2).bind fun bt358 => (spec_l71Row.l0 kj3 bt358.1 (wrap64 (x5_1 + 1)) s0_0 bt358.2)) else (spec_l71Row.l0 kj3 x4_1 (wrap64 (x5_1 + 1)) s0_0 bt354.2)))) else (none)) else (none))) = some (r1, r2, r3) := by rw [if_pos rfl] at H; exact H
      clear H
      have H := H1
      clear H1
      replace H := Option.bind_eq_some_iff.mp H
      obtain ⟨⟨t354, t355⟩, A90, H⟩ := H
      (try dsimp only at H)
      have A9 := Aside0.mk A90
      clear A90
      by_cases c10 : 0 ≤ t354
      ·rw [if_pos c10] at H
       have c10b0 : decide (0 ≤ t354) = true := decide_eq_true c10
       clear c10
       by_cases c11 : t354 < (x4_1.length : Int)
       ·rw [if_pos c11] at H
        have c11b0 : decide (t354 < (x4_1.length : Int)) = true := decide_eq_true c11
        clear c11
        replace H := Option.bind_eq_some_iff.mp H
        obtain ⟨t357, A120, H⟩ := H
        (try dsimp only at H)
        have A12 := Aside0.mk A120
        clear A120
        by_cases c13 : t357 = true
        ·subst c13
         have H1 : (some (x4_1, (rd_T47 x4_1 t354).f0, t355)) = some (r1, r2, r3) := by rw [if_pos rfl] at H; exact H
         clear H
         have H := H1
         clear H1
         simp only [Option.some.injEq, Prod.mk.injEq] at H
         obtain ⟨rfl, rfl, rfl⟩ := H
         obtain ⟨Ao14, co14, eo14, _⟩ := Kd.Q_slice HO_4.out
         subst eo14
         go_wp2_with (first | ((with_reducible refine gate_callee (f := 84) rfl ?_); refine goesL_ (some 22) rfl rfl Tryd.func84 (by kernel_rfl) rfl #[.pointer (some ⟨g, 0, none⟩), .int .i64 (x4_1.length : Int)] rfl argsA ?_; (with_reducible refine (spec_l6Rd_pick.calls kj3 g s0_0 x1001_3 (x4_1.length : Int) t354 t355 w0 _ ?side1 ?side2 A9.out).mono ?_); (case side1 => exact stA); (case side2 => exact belowA); rintro e w15 ⟨rfl, hi, hb, hk⟩; refine ⟨_, rfl, ?_⟩; have n0_ := Aside0.mk (Kd.Q_mono (Kd.Q_keep (IsS113.apartQ (show IsS113 w0 _ g s0_0 x1001_3 from stA) (by (with_reducible repeat (first | apply Kd.Q_alloc | apply Kd.Q_drewN | apply Kd.Q_drew)); exact HO_4.out) (by decide)) hk (fun _ h => h.2)) (fun _ h => h.1)); have n1_ := Aside0.mk (KeepBut.trans keepA hk (.inl rfl)); have n2_ := Aside0.mk (hb); have n3_ := Aside0.mk (hi); clear HO_4; clear HK; clear HB; clear HI0; have HO_4 := n0_; have HK := n1_; have HB := n2_; have HI0 := n3_; clear n0_ n1_ n2_ n3_; (try clear hb); (try clear hb2); (try clear hk); (try clear hi); have p356 : 0 ≤ (t354 : Int) := of_decide_eq_true (by first | (with_reducible assumption) | assumption); have q356 : t354 < (x4_1.length : Int) := of_decide_eq_true (by first | (with_reducible assumption) | assumption); obtain ⟨ad356, e356, hx356_0, hx356_1, hx356_2⟩ := at_T47 (Kd.Q_reads' HO_4.out).2.2 t354 p356 q356; cases e356; replace p356 := eq_true p356; replace q356 := eq_true q356) | ((with_reducible refine gate_callee (f := 79) rfl ?_); refine goesL_ (some 27) rfl rfl Tryd.func79 (by kernel_rfl) rfl #[.int .i64 ((rd_T47 x4_1 t354).f0)] rfl argsA ?_; (with_reducible refine (spec_l1Made.calls ((rd_T47 x4_1 t354).f0) true _ A12.out).mono ?_); rintro e w' ⟨rfl, ⟨nd, rfl⟩⟩; refine ⟨_, rfl, ?_⟩))
         go_ret2
         exact ⟨_, endA, by (with_reducible repeat (first | apply Kd.Q_alloc | apply Kd.Q_drewN | apply Kd.Q_drew)); exact HO_4.out, stA, belowA, keepA⟩
        ·replace c13 := Bool.eq_false_iff.mpr c13
         subst c13
         have H1 : (if x5_1 = 3 then ((spec_l71Tree.f kj3 s0_0 t355).bind fun bt358 => (spec_l71Row.l0 kj3 bt358.1 (wrap64 (x5_1 + 1)) s0_0 bt358.2)) else (spec_l71Row.l0 kj3 x4_1 (wrap64 (x5_1 + 1)) s0_0 t355)) = some (r1, r2, r3) := by rw [if_neg (show ¬ (false = true) by decide)] at H; exact H
         clear H
         have H := H1
         clear H1
         by_cases c16 : x5_1 = 3
         ·rw [if_pos c16] at H
          have c16b0 : (x5_1 == 3) = true := beq_iff_eq.mpr c16
          have c16b1 : (x5_1 != 3) = false := bne_eq_false_iff_eq.mpr c16
          clear c16
          replace H := Option.bind_eq_some_iff.mp H
          obtain ⟨⟨t358, t361⟩, A170, H⟩ := H
          (try dsimp only at H)
          have A17 := Aside0.mk A170
          clear A170
          have H' := Aside0.mk H
          clear H
          obtain ⟨Ao18, co18, eo18, _⟩ := Kd.Q_slice HO_4.out
          subst eo18
          go_wp2_with (first | ((with_reducible refine gate_callee (f := 84) rfl ?_); refine goesL_ (some 22) rfl rfl Tryd.func84 (by kernel_rfl) rfl #[.pointer (some ⟨g, 0, none⟩), .int .i64 (x4_1.length : Int)] rfl argsA ?_; (with_reducible refine (spec_l6Rd_pick.calls kj3 g s0_0 x1001_3 (x4_1.length : Int) t354 t355 w0 _ ?side1 ?side2 A9.out).mono ?_); (case side1 => exact stA); (case side2 => exact belowA); rintro e w19 ⟨rfl, hi, hb, hk⟩; refine ⟨_, rfl, ?_⟩; have n0_ := Aside0.mk (Kd.Q_mono (Kd.Q_keep (IsS113.apartQ (show IsS113 w0 _ g s0_0 x1001_3 from stA) (by (with_reducible repeat (first | apply Kd.Q_alloc | apply Kd.Q_drewN | apply Kd.Q_drew)); exact HO_4.out) (by decide)) hk (fun _ h => h.2)) (fun _ h => h.1)); have n1_ := Aside0.mk (KeepBut.trans keepA hk (.inl rfl)); have n2_ := Aside0.mk (hb); have n3_ := Aside0.mk (hi); clear HO_4; clear HK; clear HB; clear HI0; have HO_4 := n0_; have HK := n1_; have HB := n2_; have HI0 := n3_; clear n0_ n1_ n2_ n3_; (try clear hb); (try clear hb2); (try clear hk); (try clear hi); have p356 : 0 ≤ (t354 : Int) := of_decide_eq_true (by first | (with_reducible assumption) | assumption); have q356 : t354 < (x4_1.length : Int) := of_decide_eq_true (by first | (with_reducible assumption) | assumption); obtain ⟨ad356, e356, hx356_0, hx356_1, hx356_2⟩ := at_T47 (Kd.Q_reads' HO_4.out).2.2 t354 p356 q356; cases e356; replace p356 := eq_true p356; replace q356 := eq_true q356) | ((with_reducible refine gate_callee (f := 79) rfl ?_); refine goesL_ (some 27) rfl rfl Tryd.func79 (by kernel_rfl) rfl #[.int .i64 ((rd_T47 x4_1 t354).f0)] rfl argsA ?_; (with_reducible refine (spec_l1Made.calls ((rd_T47 x4_1 t354).f0) false _ A12.out).mono ?_); rintro e w' ⟨rfl, ⟨nd, rfl⟩⟩; refine ⟨_, rfl, ?_⟩) | ((with_reducible refine gate_callee (f := 83) rfl ?_); refine goesL_ (some 33) rfl rfl Tryd.func83 (by kernel_rfl) rfl #[.pointer (some ⟨g, 0, none⟩)] rfl argsA ?_; (with_reducible refine (spec_l71Tree.calls kj3 g s0_0 t355 t358 t361 w0 _ ?side1 ?side2 A17.out).mono ?_); (case side1 => exact stA); (case side2 => exact belowA); rintro e w20 ⟨v359, rfl, ho0, hi, hb, hk⟩; refine ⟨_, rfl, ?_⟩; have n0_ := Aside0.mk (Kd.Q_mono (Kd.Q_told (Kd.Q_oldK (IsS113.apartQ (show IsS113 w0 _ g s0_0 t355 from stA) (by (with_reducible repeat (first | apply Kd.Q_alloc | apply Kd.Q_drewN | apply Kd.Q_drew)); exact HO_4.out) (by decide)) hk) (Kd.Q_base ho0)) (fun _ h_ => h_.1)); have n1_ := Aside0.mk (Kd.Q_lower (Kd.Q_new' ho0 (Kd.Q_lt (by (with_reducible repeat (first | apply Kd.Q_alloc | apply Kd.Q_drewN | apply Kd.Q_drew)); exact HO_4.out))) (keep_size (w := w) (g := g) (row := none) keepA)); have n2_ := Aside0.mk (KeepBut.trans keepA hk (.inl rfl)); have n3_ := Aside0.mk (hb); have n4_ := Aside0.mk (hi); clear HO_4; clear HK; clear HB; clear HI0; have HO_4 := n0_; have HO360 := n1_; have HK := n2_; have HB := n3_; have HI0 := n4_; clear n0_ n1_ n2_ n3_ n4_; (try clear hb); (try clear hb2); (try clear hk); (try clear hi); (try clear ho0)))
          go_roundg kj3
          case measure => have := HK1.out; have := HJ3.out; omega
          case rel => exact ⟨(t358), (wrap64 (x5_1 + 1)), (t361), (by first | rfl | (simp; done) | (simp [*]; done)), H', ⟨by have := HK1.out; have := HJ3.out; omega⟩, ⟨by (with_reducible repeat (first | apply Kd.Q_alloc | apply Kd.Q_drewN | apply Kd.Q_drew)); exact Kd.Q_mono HO360.out (fun _ hk => trivial)⟩, ⟨stA⟩, ⟨keepA⟩, ⟨belowA⟩⟩
         ·rw [if_neg c16] at H
          have c16b0 : (x5_1 == 3) = false := beq_eq_false_iff_ne.mpr c16
          have c16b1 : (x5_1 != 3) = true := bne_iff_ne.mpr c16
          have H' := Aside0.mk H
          clear H
          obtain ⟨Ao21, co21, eo21, _⟩ := Kd.Q_slice HO_4.out
          subst eo21
          go_wp2_with (first | ((with_reducible refine gate_callee (f := 84) rfl ?_); refine goesL_ (some 22) rfl rfl Tryd.func84 (by kernel_rfl) rfl #[.pointer (some ⟨g, 0, none⟩), .int .i64 (x4_1.length : Int)] rfl argsA ?_; (with_reducible refine (spec_l6Rd_pick.calls kj3 g s0_0 x1001_3 (x4_1.length : Int) t354 t355 w0 _ ?side1 ?side2 A9.out).mono ?_); (case side1 => exact stA); (case side2 => exact belowA); rintro e w22 ⟨rfl, hi, hb, hk⟩; refine ⟨_, rfl, ?_⟩; have n0_ := Aside0.mk (Kd.Q_mono (Kd.Q_keep (IsS113.apartQ (show IsS113 w0 _ g s0_0 x1001_3 from stA) (by (with_reducible repeat (first | apply Kd.Q_alloc | apply Kd.Q_drewN | apply Kd.Q_drew)); exact HO_4.out) (by decide)) hk (fun _ h => h.2)) (fun _ h => h.1)); have n1_ := Aside0.mk (KeepBut.trans keepA hk (.inl rfl)); have n2_ := Aside0.mk (hb); have n3_ := Aside0.mk (hi); clear HO_4; clear HK; clear HB; clear HI0; have HO_4 := n0_; have HK := n1_; have HB := n2_; have HI0 := n3_; clear n0_ n1_ n2_ n3_; (try clear hb); (try clear hb2); (try clear hk); (try clear hi); have p356 : 0 ≤ (t354 : Int) := of_decide_eq_true (by first | (with_reducible assumption) | assumption); have q356 : t354 < (x4_1.length : Int) := of_decide_eq_true (by first | (with_reducible assumption) | assumption); obtain ⟨ad356, e356, hx356_0, hx356_1, hx356_2⟩ := at_T47 (Kd.Q_reads' HO_4.out).2.2 t354 p356 q356; cases e356; replace p356 := eq_true p356; replace q356 := eq_true q356) | ((with_reducible refine gate_callee (f := 79) rfl ?_); refine goesL_ (some 27) rfl rfl Tryd.func79 (by kernel_rfl) rfl #[.int .i64 ((rd_T47 x4_1 t354).f0)] rfl argsA ?_; (with_reducible refine (spec_l1Made.calls ((rd_T47 x4_1 t354).f0) false _ A12.out).mono ?_); rintro e w' ⟨rfl, ⟨nd, rfl⟩⟩; refine ⟨_, rfl, ?_⟩))
          go_roundg kj3
          case measure => have := HK1.out; have := HJ3.out; omega
          case rel => exact ⟨(x4_1), (wrap64 (x5_1 + 1)), (t355), (by first | rfl | (simp; done) | (simp [*]; done)), H', ⟨by have := HK1.out; have := HJ3.out; omega⟩, ⟨by (with_reducible repeat (first | apply Kd.Q_alloc | apply Kd.Q_drewN | apply Kd.Q_drew)); exact HO_4.out⟩, ⟨stA⟩, ⟨keepA⟩, ⟨belowA⟩⟩
       ·rw [if_neg c11] at H
        exact absurd H (by simp)
      ·rw [if_neg c10] at H
       exact absurd H (by simp)
     ·replace c8 := Bool.eq_false_iff.mpr c8
      subst c8
      have H1 : ((spec_l71Id.f kj3 s0_0 x1001_3).bind fun bt346 => ((some (([1, 2, 3, bt346.1, 0] : List Int) : List Int)).bind fun y348 => ((spec_l6Rd_pick.f kj3 s0_0 bt346.2 5).bind fun bt351 => (if 0 ≤ bt351.1 then (if bt351.1 < (y348.length : Int) then (some (x4_1, rd y348 bt351.1, bt351.2)) else (none)) else (none))))) = some (r1, r2, r3) := by rw [if_neg (show ¬ (false = true) by decide)] at H; exact H
      clear H
      have H := H1
      clear H1
      replace H := Option.bind_eq_some_iff.mp H
      obtain ⟨⟨t346, t347⟩, A230, H⟩ := H
      (try dsimp only at H)
      have A23 := Aside0.mk A230
      clear A230
      obtain ⟨y348, hy348⟩ : ∃ y_ : List Int, y_ = (([1, 2, 3, t346, 0] : List Int)) := ⟨_, rfl⟩
      replace H : ((spec_l6Rd_pick.f kj3 s0_0 t347 5).bind fun bt351 => (if 0 ≤ bt351.1 then (if bt351.1 < (y348.length : Int) then (some (x4_1, rd y348 bt351.1, bt351.2)) else (none)) else (none))) = some (r1, r2, r3) := by first | (rw [hy348]; with_reducible exact H) | (have H2_ := (Option.bind_some _ _).symm.trans H; rw [hy348]; with_reducible exact H2_) | (have H2_ := (Option.bind_some _ _).symm.trans H; with_reducible exact H2_) | with_reducible exact H | (rw [hy348]; exact H) | exact H
      have Ny348 := Aside0.mk hy348
      clear hy348
      replace H := Option.bind_eq_some_iff.mp H
      obtain ⟨⟨t351, t352⟩, A240, H⟩ := H
      (try dsimp only at H)
      have A24 := Aside0.mk A240
      clear A240
      by_cases c25 : 0 ≤ t351
      ·rw [if_pos c25] at H
       have c25b0 : decide (0 ≤ t351) = true := decide_eq_true c25
       clear c25
       by_cases c26 : t351 < (y348.length : Int)
       ·rw [if_pos c26] at H
        have c26b0 : decide (t351 < (y348.length : Int)) = true := decide_eq_true c26
        clear c26
        simp only [Option.some.injEq, Prod.mk.injEq] at H
        obtain ⟨rfl, rfl, rfl⟩ := H
        try go_wp2
        have pi353 : (0 ≤ (t351 : Int)) = True := eq_true (of_decide_eq_true (by first | (with_reducible assumption) | assumption))
        have qi353 : (t351 < (y348.length : Int)) = True := eq_true (of_decide_eq_true (by first | (with_reducible assumption) | assumption))
        have n0_ := Aside0.mk (Kd.Q_drew HO_4.out)
        have n1_ := Aside0.mk (IsS113.drew HI0.out)
        have n2_ := Aside0.mk (keep_drew HK.out)
        have n3_ := Aside0.mk (below_drew1 HB.out)
        clear HO_4
        clear HI0
        clear HK
        clear HB
        have HO_4 := n0_
        have HI0 := n1_
        have HK := n2_
        have HB := n3_
        clear n0_ n1_ n2_ n3_
        refine start_ (n := 10) (S := fun w' => True) (ds := []) (tf 0 10) (by kernel_rfl) rfl rfl trivial (fun hHeld => ?_); refine with_tabW spec_l71Row.tab10 spec_l71Row.bits10 (fun HT_ HW_ => ?_)
        generalize wc.drew = w27 at HO_4 HI0 HK HB hHeld ⊢
        refine pure_ (i := 0) (N := some 34) (tf 1 9) rfl rfl (any_of HT_.out (by kernel_rfl)) (fun _ _ _ h => h) yldA putA ?_
        refine pure_ (i := 1) (N := some 35) (tf 2 8) rfl rfl (any_of HT_.out (by kernel_rfl)) (fun _ _ _ h => h) yldA putA ?_
        refine pure_ (i := 4) (N := some 38) #[true, true, false, false, true, false, false, false, false, false] rfl rfl (any_of HT_.out (by kernel_rfl)) (fun _ _ _ h => h) yldA putA ?_
        refine inv_at [2, 3, 5, 6, 7, 8, 9] (fun a0_ b a w' => ∃ (v349 : Value) (adz_v349 : Addr) (m6_ : Value), a = putSel a0_ b [(2, 36, .int .i64 t346), (3, 37, v349), (5, 39, .int .i64 t351), (6, 40, m6_), (7, 41, .int .i64 (rd y348 t351)), (8, 2, u4), (9, 3, .int .i64 (rd y348 t351))] ∧ (Kd.Q k47 47 w' w.heap.size (fun _ => True) u4 x4_1) ∧ (b 2 = false → IsS113 w0 w' g s0_0 x1001_3) ∧ (KeepBut w w' g none) ∧ (Below w0.heap.size w0 w') ∧ (b 2 = true → b 5 = false → IsS113 w0 w' g s0_0 t347) ∧ (b 3 = true → Kd.R (Kd.int .i64) 3 w' w.heap.size (fun _ => True) v349 y348) ∧ (b 3 = true → ∃ c_, (v349 : Value) = .slice (some adz_v349) y348.length c_) ∧ (b 5 = true → IsS113 w0 w' g s0_0 t352) ∧ (b 6 = true → (m6_ : Value) = .pointer (some (adz_v349.add (t351).toNat)))) HT_.out HW_.out (by kernel_rfl) (by kernel_rfl) ?_ ?_ ?_
        ·exact ⟨.bool false, ⟨0, 0, none⟩, .bool false, by simp only [putSel, Bool.false_eq_true, if_false], HO_4.out, fun _ => HI0.out, HK.out, HB.out, fun h_ => absurd h_ (by decide), fun h_ => absurd h_ (by decide), fun h_ => absurd h_ (by decide), fun h_ => absurd h_ (by decide), fun h_ => absurd h_ (by decide)⟩
        ·skip
         clear HB HI0 HK HO_4
         refine steps_cons ?_ ?_
         ·rintro b a w' ⟨v349, adz_v349, m6_, ha, Q_HO_4, Q_HI0, Q_HK, Q_HB, Q_HI0_e2, Q_HO350, Q_HA_HO350, Q_HI0_e5, Q_X6_⟩ hb_ hon hoff
          refine ⟨_, rfl, fun K hK => ?_⟩
          have e35 : a.tmps[35]? = some (.pointer (some ⟨g, 0, none⟩)) := by rw [ha]; exact (putSel_off rfl).trans rfl
          replace ha := Aside0.mk ha
          have HO_4 := Aside0.mk Q_HO_4
          have HI0 := Aside0.mk (Q_HI0 hb_)
          have HK := Aside0.mk Q_HK
          have HB := Aside0.mk Q_HB
          refine goes_ Tryd.func102 (by kernel_rfl) rfl #[.pointer (some ⟨g, 0, none⟩)] (by rfl) rfl rfl (by first | (simp only [List.map_toArray, List.map_cons, List.map_nil, Act.eval, Array.getD_eq_getD_getElem?, Option.getD_some, e35]; done) | (simp only [List.map_toArray, List.map_cons, List.map_nil, Act.eval, Array.getD_eq_getD_getElem?, Option.getD_some, e35]; rfl)) ?_
          with_reducible refine (spec_l71Id.calls kj3 g s0_0 x1001_3 t346 t347 w0 _ ?side1 ?side2 A23.out).mono ?_
          (case side1 => exact stA)
          (case side2 => exact belowA)
          rintro e w28 ⟨rfl, hi, hb, hk⟩
          refine ⟨_, rfl, ?_⟩
          have n0_ := Aside0.mk (Kd.Q_mono (Kd.Q_keep (IsS113.apartQ (show IsS113 w0 _ g s0_0 x1001_3 from stA) (by (with_reducible repeat (first | apply Kd.Q_alloc | apply Kd.Q_drewN | apply Kd.Q_drew)); exact HO_4.out) (by decide)) hk (fun _ h => h.2)) (fun _ h => h.1))
          have n1_ := Aside0.mk (KeepBut.trans keepA hk (.inl rfl))
          have n2_ := Aside0.mk (hb)
          have n3_ := Aside0.mk (hi)
          clear HO_4
          clear HK
          clear HB
          clear HI0
          have HO_4 := n0_
          have HK := n1_
          have HB := n2_
          have HI0 := n3_
          clear n0_ n1_ n2_ n3_
          (try clear hb)
          (try clear hb2)
          (try clear hk)
          (try clear hi)
          refine hK.out _ _ ⟨v349, adz_v349, m6_, (by rw [ha.out]; exact putSel_upk 0 hb_ rfl rfl rfl), (by (with_reducible repeat (first | apply Kd.Q_alloc | apply Kd.Q_drewN | apply Kd.Q_drew)); exact HO_4.out), fun h0_ => absurd ((up_self b 2).symm.trans h0_) (by decide), keepA, belowA, fun _ _ => stA, fun h0_ => absurd ((hoff 3 (by kernel_rfl)).symm.trans h0_) (by decide), fun h0_ => absurd ((hoff 3 (by kernel_rfl)).symm.trans h0_) (by decide), fun h0_ => absurd ((hoff 5 (by kernel_rfl)).symm.trans h0_) (by decide), fun h0_ => absurd ((hoff 6 (by kernel_rfl)).symm.trans h0_) (by decide)⟩
         refine steps_cons ?_ ?_
         ·rintro b a w' ⟨v349, adz_v349, m6_, ha, Q_HO_4, Q_HI0, Q_HK, Q_HB, Q_HI0_e2, Q_HO350, Q_HA_HO350, Q_HI0_e5, Q_X6_⟩ hb_ hon hoff
          refine ⟨_, rfl, fun K hK => ?_⟩
          have e36 : a.tmps[36]? = some (.int .i64 t346) := by rw [ha]; exact putSel_on (e := (2, 36, .int .i64 t346)) 0 rfl rfl (hon 2 (by kernel_rfl)) rfl
          replace ha := Aside0.mk ha
          have HO_4 := Aside0.mk Q_HO_4
          have HK := Aside0.mk Q_HK
          have HB := Aside0.mk Q_HB
          refine Kd.R_lit_step (Kd.int .i64) _ 3 ?hg (N := 37) ?hd (xs := ([1, 2, 3, t346, 0] : List Int)) (inner := [.int .i64 1, .int .i64 2, .int .i64 3, .int .i64 t346, .int .i64 0]) (ok := fun _ => True) (okp := fun _ => True) ?hr ?hp (fun _ hk => hk) trivial (Below.refl _ _) (Nat.le_refl _) (by simp) ?_; (case hd => rfl); (case hg => rfl); (case hr => first | (go_simp; done) | (go_simp; rfl)); (case hp => exact (Reps.one (show Kd.M (Kd.int .i64) _ _ _ 1 [.int .i64 1] from rfl) (Reps.one (show Kd.M (Kd.int .i64) _ _ _ 2 [.int .i64 2] from rfl) (Reps.one (show Kd.M (Kd.int .i64) _ _ _ 3 [.int .i64 3] from rfl) (Reps.one (show Kd.M (Kd.int .i64) _ _ _ t346 [.int .i64 t346] from rfl) (Reps.one (show Kd.M (Kd.int .i64) _ _ _ 0 [.int .i64 0] from rfl) (Reps.none _ _)))))))
          intro v349 w30 ho31 hb hg_ hnew_
          clear hg_ hnew_
          (first | rw [← Ny348.out] at ho31 | (simp only [Int.reduceToNat] at ho31; rw [← Ny348.out] at ho31))
          have n0_ := Aside0.mk (Kd.Q_below (by (with_reducible repeat (first | apply Kd.Q_alloc | apply Kd.Q_drewN | apply Kd.Q_drew)); exact HO_4.out) hb)
          have n1_ := Aside0.mk (Kd.R_lower ho31 (keep_size (w := w) (g := g) (row := none) keepA))
          have n3_ := Aside0.mk (KeepBut.trans keepA (KeepBut.of_below hb g none) (.inl rfl))
          have n4_ := Aside0.mk (below_step belowA hb)
          have z_HI0_e2 := fun (h0_ : b 2 = true) (h1_ : b 5 = false) => (show IsS113 w0 w30 g s0_0 t347 from by first | exact (IsS113.below (by repeat (first | (with_reducible first | exact (Q_HI0_e2 h0_ h1_) | apply IsS113.alloc | apply IsS113.drewN | apply IsS113.drew | apply IsS113.set_1) | exact (Q_HI0_e2 h0_ h1_))) hb))
          have z_HI0_e5 := fun (h0_ : b 5 = true) => (show IsS113 w0 w30 g s0_0 t352 from by first | exact (IsS113.below (by repeat (first | (with_reducible first | exact (Q_HI0_e5 h0_) | apply IsS113.alloc | apply IsS113.drewN | apply IsS113.drew | apply IsS113.set_1) | exact (Q_HI0_e5 h0_))) hb))
          clear HO_4
          clear HK
          clear HB
          have HO_4 := n0_
          have HO350 := n1_
          have HK := n3_
          have HB := n4_
          clear n0_ n1_ n3_ n4_
          clear hb ho31
          obtain ⟨Ao32, co32, eo32⟩ := Kd.R_slice HO350.out
          subst eo32
          obtain ⟨ado32, fo32, _⟩ := Kd.at_int (Kd.R_reads' HO350.out).2.2 0 (by decide) (by rw [Ny348.out]; simp)
          cases fo32
          refine hK.out _ _ ⟨.slice (some ado32) y348.length co32, ado32, m6_, (by rw [ha.out]; exact putSel_upk 1 hb_ rfl rfl rfl), (by (with_reducible repeat (first | apply Kd.Q_alloc | apply Kd.Q_drewN | apply Kd.Q_drew)); exact HO_4.out), fun h0_ => absurd ((hon 2 (by kernel_rfl)).symm.trans h0_) (by decide), keepA, belowA, z_HI0_e2, fun _ => (by (with_reducible repeat (first | apply Kd.R_alloc | apply Kd.R_drewN | apply Kd.R_drew)); exact HO350.out), fun _ => ⟨_, rfl⟩, z_HI0_e5, fun h0_ => absurd ((hoff 6 (by kernel_rfl)).symm.trans h0_) (by decide)⟩
         refine steps_cons ?_ ?_
         ·rintro b a w' ⟨v349, adz_v349, m6_, ha, Q_HO_4, Q_HI0, Q_HK, Q_HB, Q_HI0_e2, Q_HO350, Q_HA_HO350, Q_HI0_e5, Q_X6_⟩ hb_ hon hoff
          refine ⟨_, rfl, fun K hK => ?_⟩
          have e38 : a.tmps[38]? = some (.pointer (some ⟨g, 0, none⟩)) := by rw [ha]; exact (putSel_off rfl).trans rfl
          replace ha := Aside0.mk ha
          have HO_4 := Aside0.mk Q_HO_4
          have HK := Aside0.mk Q_HK
          have HB := Aside0.mk Q_HB
          have HI0 := Aside0.mk (Q_HI0_e2 (hon 2 (by kernel_rfl)) hb_)
          refine goes_ Tryd.func84 (by kernel_rfl) rfl #[.pointer (some ⟨g, 0, none⟩), .int .i64 5] (by rfl) rfl rfl (by first | (simp only [List.map_toArray, List.map_cons, List.map_nil, Act.eval, Array.getD_eq_getD_getElem?, Option.getD_some, e38]; done) | (simp only [List.map_toArray, List.map_cons, List.map_nil, Act.eval, Array.getD_eq_getD_getElem?, Option.getD_some, e38]; rfl)) ?_
          with_reducible refine (spec_l6Rd_pick.calls kj3 g s0_0 t347 5 t351 t352 w0 _ ?side1 ?side2 A24.out).mono ?_
          (case side1 => exact stA)
          (case side2 => exact belowA)
          rintro e w30 ⟨rfl, hi, hb, hk⟩
          refine ⟨_, rfl, ?_⟩
          have n0_ := Aside0.mk (Kd.Q_mono (Kd.Q_keep (IsS113.apartQ (show IsS113 w0 _ g s0_0 t347 from stA) (by (with_reducible repeat (first | apply Kd.Q_alloc | apply Kd.Q_drewN | apply Kd.Q_drew)); exact HO_4.out) (by decide)) hk (fun _ h => h.2)) (fun _ h => h.1))
          have n1_ := Aside0.mk (KeepBut.trans keepA hk (.inl rfl))
          have n2_ := Aside0.mk (hb)
          have n3_ := Aside0.mk (hi)
          have z_HO350 := fun (h0_ : b 3 = true) => (show Kd.R (Kd.int .i64) 3 w30 w.heap.size (fun _ => True) v349 y348 from by first | exact (Kd.R_mono (Kd.R_keep (IsS113.apart (show IsS113 w0 _ g s0_0 t347 from stA) (by (with_reducible repeat (first | apply Kd.R_alloc | apply Kd.R_drewN | apply Kd.R_drew)); exact (Q_HO350 h0_)) (by decide)) hk (fun _ h => h.2)) (fun _ h => h.1)) | exact Kd.R_mono (Kd.R_mono (Kd.R_keep (IsS113.apart (show IsS113 w0 _ g s0_0 t347 from stA) (by (with_reducible repeat (first | apply Kd.R_alloc | apply Kd.R_drewN | apply Kd.R_drew)); exact (Q_HO350 h0_)) (by decide)) hk (fun _ h => h.2)) (fun _ h => h.1)) (fun _ h_ => by first | trivial | exact h_ | exact h_.1))
          clear HO_4
          clear HK
          clear HB
          clear HI0
          have HO_4 := n0_
          have HK := n1_
          have HB := n2_
          have HI0 := n3_
          clear n0_ n1_ n2_ n3_
          (try clear hb)
          (try clear hb2)
          (try clear hk)
          (try clear hi)
          refine hK.out _ _ ⟨v349, adz_v349, m6_, (by rw [ha.out]; exact putSel_upk 2 hb_ rfl rfl rfl), (by (with_reducible repeat (first | apply Kd.Q_alloc | apply Kd.Q_drewN | apply Kd.Q_drew)); exact HO_4.out), fun h0_ => absurd ((hon 2 (by kernel_rfl)).symm.trans h0_) (by decide), keepA, belowA, fun _ h1_ => absurd ((up_self b 5).symm.trans h1_) (by decide), z_HO350, Q_HA_HO350, fun _ => stA, fun h0_ => absurd ((hoff 6 (by kernel_rfl)).symm.trans h0_) (by decide)⟩
         refine steps_cons ?_ ?_
         ·rintro b a w' ⟨v349, adz_v349, m6_, ha, Q_HO_4, Q_HI0, Q_HK, Q_HB, Q_HI0_e2, Q_HO350, Q_HA_HO350, Q_HI0_e5, Q_X6_⟩ hb_ hon hoff
          refine ⟨_, rfl, fun K hK => ?_⟩
          have e37 : a.tmps[37]? = some (v349) := by rw [ha]; exact putSel_on (e := (3, 37, v349)) 1 rfl rfl (hon 3 (by kernel_rfl)) rfl
          have e39 : a.tmps[39]? = some (.int .i64 t351) := by rw [ha]; exact putSel_on (e := (5, 39, .int .i64 t351)) 2 rfl rfl (hon 5 (by kernel_rfl)) rfl
          replace ha := Aside0.mk ha
          have HO_4 := Aside0.mk Q_HO_4
          have HK := Aside0.mk Q_HK
          have HB := Aside0.mk Q_HB
          have HO350 := Aside0.mk (Q_HO350 (hon 3 (by kernel_rfl)))
          have HA_HO350 := Aside0.mk (Q_HA_HO350 (hon 3 (by kernel_rfl)))
          have HI0 := Aside0.mk (Q_HI0_e5 (hon 5 (by kernel_rfl)))
          obtain ⟨c_, hv_⟩ := HA_HO350.out
          rw [hv_] at e37
          refine value_ (w1 := w') (v := .pointer (some (adz_v349.add (t351).toNat))) (by rfl) rfl ?_ ?_
          ·go_simp
           (try simp only [i64_w])
           try rfl
          refine hK.out _ _ ⟨v349, adz_v349, (.pointer (some (adz_v349.add (t351).toNat))), (by rw [ha.out]; exact putSel_upk 3 hb_ rfl rfl rfl), Q_HO_4, fun h0_ => absurd ((hon 2 (by kernel_rfl)).symm.trans h0_) (by decide), Q_HK, Q_HB, fun _ h1_ => absurd ((hon 5 (by kernel_rfl)).symm.trans h1_) (by decide), Q_HO350, Q_HA_HO350, Q_HI0_e5, fun _ => rfl⟩
         refine steps_cons ?_ ?_
         ·rintro b a w' ⟨v349, adz_v349, m6_, ha, Q_HO_4, Q_HI0, Q_HK, Q_HB, Q_HI0_e2, Q_HO350, Q_HA_HO350, Q_HI0_e5, Q_X6_⟩ hb_ hon hoff
          refine ⟨_, rfl, fun K hK => ?_⟩
          have e40 : a.tmps[40]? = some (m6_) := by rw [ha]; exact putSel_on (e := (6, 40, m6_)) 3 rfl rfl (hon 6 (by kernel_rfl)) rfl
          rw [Q_X6_ (hon 6 (by kernel_rfl))] at e40
          replace ha := Aside0.mk ha
          have HO_4 := Aside0.mk Q_HO_4
          have HK := Aside0.mk Q_HK
          have HB := Aside0.mk Q_HB
          have HO350 := Aside0.mk (Q_HO350 (hon 3 (by kernel_rfl)))
          have HA_HO350 := Aside0.mk (Q_HA_HO350 (hon 3 (by kernel_rfl)))
          have HI0 := Aside0.mk (Q_HI0_e5 (hon 5 (by kernel_rfl)))
          obtain ⟨c_, hv_⟩ := HA_HO350.out
          have hF_ := HO350.out
          rw [hv_] at hF_
          obtain ⟨ad_, ea_, hx_⟩ := Kd.at_int (Kd.R_reads' hF_).2.2 t351 (of_eq_true pi353) (of_eq_true qi353)
          cases ea_
          refine value_ (w1 := w') (v := .int .i64 (rd y348 t351)) (by rfl) rfl ?_ ?_
          ·go_simp
           (try simp only [i64_w])
           try rfl
          refine hK.out _ _ ⟨v349, adz_v349, m6_, (by rw [ha.out]; exact putSel_upk 4 hb_ rfl rfl rfl), Q_HO_4, fun h0_ => absurd ((hon 2 (by kernel_rfl)).symm.trans h0_) (by decide), Q_HK, Q_HB, fun _ h1_ => absurd ((hon 5 (by kernel_rfl)).symm.trans h1_) (by decide), Q_HO350, Q_HA_HO350, Q_HI0_e5, Q_X6_⟩
         refine steps_cons ?_ ?_
         ·rintro b a w' ⟨v349, adz_v349, m6_, ha, Q_HO_4, Q_HI0, Q_HK, Q_HB, Q_HI0_e2, Q_HO350, Q_HA_HO350, Q_HI0_e5, Q_X6_⟩ hb_ hon hoff
          refine ⟨_, rfl, fun K hK => ?_⟩
          have e34 : a.tmps[34]? = some (u4) := by rw [ha]; exact (putSel_off rfl).trans rfl
          replace ha := Aside0.mk ha
          have HO_4 := Aside0.mk Q_HO_4
          have HK := Aside0.mk Q_HK
          have HB := Aside0.mk Q_HB
          have HI0 := Aside0.mk (Q_HI0_e5 (hon 5 (by kernel_rfl)))
          refine value_ (w1 := w') (v := u4) (by rfl) rfl ?_ ?_
          ·go_simp
           (try simp only [i64_w])
           try rfl
          refine hK.out _ _ ⟨v349, adz_v349, m6_, (by rw [ha.out]; exact putSel_upk 5 hb_ rfl rfl rfl), Q_HO_4, fun h0_ => absurd ((hon 2 (by kernel_rfl)).symm.trans h0_) (by decide), Q_HK, Q_HB, fun _ h1_ => absurd ((hon 5 (by kernel_rfl)).symm.trans h1_) (by decide), Q_HO350, Q_HA_HO350, Q_HI0_e5, Q_X6_⟩
         refine steps_cons ?_ ?_
         ·rintro b a w' ⟨v349, adz_v349, m6_, ha, Q_HO_4, Q_HI0, Q_HK, Q_HB, Q_HI0_e2, Q_HO350, Q_HA_HO350, Q_HI0_e5, Q_X6_⟩ hb_ hon hoff
          refine ⟨_, rfl, fun K hK => ?_⟩
          have e41 : a.tmps[41]? = some (.int .i64 (rd y348 t351)) := by rw [ha]; exact putSel_on (e := (7, 41, .int .i64 (rd y348 t351))) 4 rfl rfl (hon 7 (by kernel_rfl)) rfl
          replace ha := Aside0.mk ha
          have HO_4 := Aside0.mk Q_HO_4
          have HK := Aside0.mk Q_HK
          have HB := Aside0.mk Q_HB
          have HO350 := Aside0.mk (Q_HO350 (hon 3 (by kernel_rfl)))
          have HA_HO350 := Aside0.mk (Q_HA_HO350 (hon 3 (by kernel_rfl)))
          have HI0 := Aside0.mk (Q_HI0_e5 (hon 5 (by kernel_rfl)))
          refine value_ (w1 := w') (v := .int .i64 (rd y348 t351)) (by rfl) rfl ?_ ?_
          ·go_simp
           (try simp only [i64_w])
           try rfl
          refine hK.out _ _ ⟨v349, adz_v349, m6_, (by rw [ha.out]; exact putSel_upk 6 hb_ rfl rfl rfl), Q_HO_4, fun h0_ => absurd ((hon 2 (by kernel_rfl)).symm.trans h0_) (by decide), Q_HK, Q_HB, fun _ h1_ => absurd ((hon 5 (by kernel_rfl)).symm.trans h1_) (by decide), Q_HO350, Q_HA_HO350, Q_HI0_e5, Q_X6_⟩
         exact steps_nil
        rintro b a w33 hall ⟨v349, adz_v349, m6_, ha, Q_HO_4, Q_HI0, Q_HK, Q_HB, Q_HI0_e2, Q_HO350, Q_HA_HO350, Q_HI0_e5, Q_X6_⟩
        clear HB HI0 HK HO_4
        have hb2_ := hall 2 (by kernel_rfl)
        have hb3_ := hall 3 (by kernel_rfl)
        have hb5_ := hall 5 (by kernel_rfl)
        have hb6_ := hall 6 (by kernel_rfl)
        have hb7_ := hall 7 (by kernel_rfl)
        have hb8_ := hall 8 (by kernel_rfl)
        have hb9_ := hall 9 (by kernel_rfl)
        subst ha
        obtain rfl := Q_X6_ hb6_
        simp only [putSel, hb2_, hb3_, hb5_, hb6_, hb7_, hb8_, hb9_, if_true, Act.put, List.setIfInBounds_toArray, List.set_cons_zero, List.set_cons_succ]
        have HO_4 := Aside0.mk Q_HO_4
        clear Q_HO_4
        clear Q_HI0
        have HK := Aside0.mk Q_HK
        clear Q_HK
        have HB := Aside0.mk Q_HB
        clear Q_HB
        clear Q_HI0_e2
        have HO350 := Aside0.mk (Q_HO350 hb3_)
        clear Q_HO350
        have HA_HO350 := Aside0.mk (Q_HA_HO350 hb3_)
        clear Q_HA_HO350
        have HI0 := Aside0.mk (Q_HI0_e5 hb5_)
        clear Q_HI0_e5
        clear hall hb2_ hb3_ hb5_ hb6_ hb7_ hb8_ hb9_
        obtain ⟨co34, eo34⟩ := HA_HO350.out
        clear HA_HO350
        subst eo34
        try go_wp2
        go_ret2
        exact ⟨_, endA, by (with_reducible repeat (first | apply Kd.Q_alloc | apply Kd.Q_drewN | apply Kd.Q_drew)); exact HO_4.out, stA, belowA, keepA⟩
       ·rw [if_neg c26] at H
        exact absurd H (by simp)
      ·rw [if_neg c25] at H
       exact absurd H (by simp)
end Go.Proofs.YtaajcbbbmpdcnaaDoor.P
