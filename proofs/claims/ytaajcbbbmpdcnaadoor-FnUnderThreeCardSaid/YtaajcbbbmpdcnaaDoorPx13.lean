-- Written by wip/tools/pprint.py (a program of this session) over the kit's printer; not trusted: Lean checks it.
import Derived.Test.YtaajcbbbmpdcnaaDoorPx0
import Derived.Test.YtaajcbbbmpdcnaaDoorPx5
import Derived.Test.YtaajcbbbmpdcnaaDoorPx6
import Derived.Test.YtaajcbbbmpdcnaaDoorPx12
import Derived.Test.YtaajcbbbmpdcnaaDoorV
namespace Go.Proofs.YtaajcbbbmpdcnaaDoor.P
open Go.RowKit Go.Proofs.YtaajcbbbmpdcnaaDoorW.PrintWords Go.Proofs.YtaajcbbbmpdcnaaDoorW.PrintLast Go.Proofs.YtaajcbbbmpdcnaaDoorW.PrintMore
attribute [local go_sem] cell_set_set cell_set_far_set max2_int min2_int max_two min_two max_three min_three max_four min_four   -- for this text's walks alone
set_option linter.unusedVariables false
set_option linter.unusedSimpArgs false

/-! ### spec_DrawTreeUnder: function 48 -/
def spec_DrawTreeUnder.f (k : Nat) (l0 : List Int) : Option ((List (S47)) × Int × Int) := (spec_l6Open.f l0).bind fun bt349 => ((spec_l71Row.f k bt349.1 bt349.2).bind fun bt352 => ((spec_TreeUp.f k bt352.1 bt352.2.1).bind fun bt357 => (if bt357.2 = true then (if bt357.1 > 0 then ((spec_l6Rd_pick.f k bt349.1 bt352.2.2 2).bind fun bt359 => (if bt359.1 = 0 then (some (bt352.1, bt352.2.1, bt357.1)) else ((spec_l6Rd_pick.f k bt349.1 bt359.2 (bt352.1.length : Int)).bind fun bt361 => (if 0 ≤ bt361.1 then (if bt361.1 < (bt352.1.length : Int) then (some (bt352.1, bt352.2.1, (rd_T47 bt352.1 bt361.1).f0)) else (none)) else (none))))) else ((spec_l6Rd_pick.f k bt349.1 bt352.2.2 (bt352.1.length : Int)).bind fun bt364 => (if 0 ≤ bt364.1 then (if bt364.1 < (bt352.1.length : Int) then (some (bt352.1, bt352.2.1, (rd_T47 bt352.1 bt364.1).f0)) else (none)) else (none)))) else ((spec_l6Rd_pick.f k bt349.1 bt352.2.2 (bt352.1.length : Int)).bind fun bt367 => (if 0 ≤ bt367.1 then (if bt367.1 < (bt352.1.length : Int) then (some (bt352.1, bt352.2.1, (rd_T47 bt352.1 bt367.1).f0)) else (none)) else (none))))))
theorem spec_DrawTreeUnder.mono : ∀ a0 k, LeO (spec_DrawTreeUnder.f k a0) (spec_DrawTreeUnder.f (k + 1) a0) := by
  intro a0 k
  unfold spec_DrawTreeUnder.f
  repeat' first
      | (with_reducible exact spec_TreeUp.mono _ _ _)
      | (with_reducible exact spec_l6Rd_pick.mono _ _ _ _)
      | (with_reducible exact spec_l71Row.mono _ _ _)
      | (with_reducible exact LeO.refl _)
      | (with_reducible exact LeO.none _)
      | (with_reducible refine LeO.ite ?_ ?_)
      | (with_reducible refine LeO.bind ?_ (fun _ => ?_))
      | exact spec_TreeUp.mono _ _ _
      | exact spec_l6Rd_pick.mono _ _ _ _
      | exact spec_l71Row.mono _ _ _
      | exact LeO.none _
      | refine LeO.ite ?_ ?_
      | refine LeO.bind ?_ (fun _ => ?_)
def spec_DrawTreeUnder.T6 : Bool × List (List Nat × List Nat) := (true, [([], []), ([], []), ([], []), ([], []), ([], []), ([4], [4]), ([3, 5], [3, 5]), ([2, 6], [2, 6]), ([7], [7]), ([8], [8]), ([0, 6, 0], [0]), ([1, 10, 0, 1, 10], [1]), ([9, 11, 0, 1, 2, 3, 4, 5, 6, 7, 8, 9, 10, 11], [9])])
def spec_DrawTreeUnder.B6 : List Nat := [0, 0, 0, 0, 0, 16, 56, 124, 252, 508, 121, 1147, 4095]
theorem spec_DrawTreeUnder.tab6 : rtab .any (opsOf Tryd.f48 6) = spec_DrawTreeUnder.T6 := by kernel_rfl
theorem spec_DrawTreeUnder.bits6 : waitsOk spec_DrawTreeUnder.T6.2 spec_DrawTreeUnder.B6 = true := by kernel_rfl
set_option maxHeartbeats 8000000 in
set_option maxRecDepth 100000 in
theorem spec_DrawTreeUnder.calls (k : Nat) (A0 : Option Addr) (c0 : Nat) (l0 : List Int) (r1 : List (S47)) (r2 : Int) (r3 : Int) (w : World) (hr0 : Kd.C (Kd.int .u8) w A0 l0.length l0) (hc0 : l0.length ≤ c0) (h : spec_DrawTreeUnder.f k l0 = some (r1, r2, r3)) :
    Calls Tryd.prog 48 #[.slice A0 l0.length c0] w fun e w' => ∃ v0_ : Value, e = .returned (.tuple #[v0_, .int .i64 r2, .int .i64 r3]) ∧ Kd.Q k47 47 w' w.heap.size (fun _ => True) v0_ r1 ∧ Below w.heap.size w w' := by
  have HR0 := Aside0.mk hr0
  have HC0 := Aside0.mk hc0
  clear hr0 hc0
  have HB := Aside0.mk (Below.refl w.heap.size w)
  have H : ((spec_l6Open.f l0).bind fun bt349 => ((spec_l71Row.f k bt349.1 bt349.2).bind fun bt352 => ((spec_TreeUp.f k bt352.1 bt352.2.1).bind fun bt357 => (if bt357.2 = true then (if bt357.1 > 0 then ((spec_l6Rd_pick.f k bt349.1 bt352.2.2 2).bind fun bt359 => (if bt359.1 = 0 then (some (bt352.1, bt352.2.1, bt357.1)) else ((spec_l6Rd_pick.f k bt349.1 bt359.2 (bt352.1.length : Int)).bind fun bt361 => (if 0 ≤ bt361.1 then (if bt361.1 < (bt352.1.length : Int) then (some (bt352.1, bt352.2.1, (rd_T47 bt352.1 bt361.1).f0)) else (none)) else (none))))) else ((spec_l6Rd_pick.f k bt349.1 bt352.2.2 (bt352.1.length : Int)).bind fun bt364 => (if 0 ≤ bt364.1 then (if bt364.1 < (bt352.1.length : Int) then (some (bt352.1, bt352.2.1, (rd_T47 bt352.1 bt364.1).f0)) else (none)) else (none)))) else ((spec_l6Rd_pick.f k bt349.1 bt352.2.2 (bt352.1.length : Int)).bind fun bt367 => (if 0 ≤ bt367.1 then (if bt367.1 < (bt352.1.length : Int) then (some (bt352.1, bt352.2.1, (rd_T47 bt352.1 bt367.1).f0)) else (none)) else (none))))))) = some (r1, r2, r3) := h
  clear h
  replace H := Option.bind_eq_some_iff.mp H
  obtain ⟨⟨t349, t350⟩, A20, H⟩ := H
  (try dsimp only at H)
  have A2 := Aside0.mk A20
  clear A20
  replace H := Option.bind_eq_some_iff.mp H
  obtain ⟨⟨t352, t355, t356⟩, A30, H⟩ := H
  (try dsimp only at H)
  have A3 := Aside0.mk A30
  clear A30
  replace H := Option.bind_eq_some_iff.mp H
  obtain ⟨⟨t357, t358⟩, A40, H⟩ := H
  (try dsimp only at H)
  have A4 := Aside0.mk A40
  clear A40
  by_cases c5 : t358 = true
  · subst c5
    have H1 : (if t357 > 0 then ((spec_l6Rd_pick.f k t349 t356 2).bind fun bt359 => (if bt359.1 = 0 then (some (t352, t355, t357)) else ((spec_l6Rd_pick.f k t349 bt359.2 (t352.length : Int)).bind fun bt361 => (if 0 ≤ bt361.1 then (if bt361.1 < (t352.length : Int) then (some (t352, t355, (rd_T47 t352 bt361.1).f0)) else (none)) else (none))))) else ((spec_l6Rd_pick.f k t349 t356 (t352.length : Int)).bind fun bt364 => (if 0 ≤ bt364.1 then (if bt364.1 < (t352.length : Int) then (some (t352, t355, (rd_T47 t352 bt364.1).f0)) else (none)) else (none)))) = some (r1, r2, r3) := by rw [if_pos rfl] at H; exact H
    clear H
    have H := H1
    clear H1
    by_cases c6 : t357 > 0
    · rw [if_pos c6] at H
      have c6b0 : decide (0 < t357) = true := decide_eq_true c6
      clear c6
      replace H := Option.bind_eq_some_iff.mp H
      obtain ⟨⟨t359, t360⟩, A70, H⟩ := H
      (try dsimp only at H)
      have A7 := Aside0.mk A70
      clear A70
      by_cases c8 : t359 = 0
      · rw [if_pos c8] at H
        have c8b0 : (t359 == 0) = true := beq_iff_eq.mpr c8
        have c8b1 : (t359 != 0) = false := bne_eq_false_iff_eq.mpr c8
        clear c8
        simp only [Option.some.injEq, Prod.mk.injEq] at H
        obtain ⟨rfl, rfl, rfl⟩ := H
        go_enter Tryd.func48, Tryd.ntmps48
        go_wp2_with (first | ((with_reducible refine gate_callee (f := 82) rfl ?_); refine goesL_ (some 11) rfl rfl Tryd.func82 (by kernel_rfl) rfl #[.slice A0 l0.length c0] rfl argsA ?_; (with_reducible refine (spec_l6Open.calls _ _ l0 t349 t350 w _ ?side1 ?side2 ?side3 A2.out).mono ?_); (case side1 => exact belowA); (case side2 => exact HR0.out); (case side3 => exact HC0.out); rintro e w9 ⟨g351, rfl, hi, hb, hb2⟩; refine ⟨_, rfl, ?_⟩; have n0_ := Aside0.mk (hb); have n1_ := Aside0.mk (hi); clear HB; have HB := n0_; have HI351 := n1_; clear n0_ n1_; (try clear hb); (try clear hb2); (try clear hk); (try clear hi)) | ((with_reducible refine gate_callee (f := 85) rfl ?_); refine goesL_ (some 14) rfl rfl Tryd.func85 (by kernel_rfl) rfl #[.pointer (some ⟨g351, 0, none⟩)] rfl argsA ?_; (with_reducible refine (spec_l71Row.calls k g351 t349 t350 t352 t355 t356 w _ ?side1 ?side2 A3.out).mono ?_); (case side1 => exact stA); (case side2 => exact belowA); rintro e w10 ⟨v353, rfl, ho0, hi, hb, hk⟩; refine ⟨_, rfl, ?_⟩; have n0_ := Aside0.mk (Kd.Q_lower ho0 (below_size belowA)); have n1_ := Aside0.mk (hb); have n2_ := Aside0.mk (hi); clear HB; clear HI351; have HO354 := n0_; have HB := n1_; have HI351 := n2_; clear n0_ n1_ n2_; (try clear hb); (try clear hb2); (try clear hk); (try clear hi); (try clear ho0); obtain ⟨Ao11, co11, eo11, _⟩ := Kd.Q_slice HO354.out; subst eo11) | ((with_reducible refine gate_callee (f := 29) rfl ?_); refine goesL_ (some 20) rfl rfl Tryd.func29 (by kernel_rfl) rfl #[.slice Ao11 t352.length co11, .int .i64 t355] rfl argsA ?_; (with_reducible refine (spec_TreeUp.calls k _ _ t352 t355 t357 true _ ?side1 ?side2 A4.out).mono ?_); (case side1 => repeat (first | exact (Kd.Q_reads' HO354.out).2.2 | (with_reducible refine Kd.C_alloc ?_ _) | (with_reducible refine Kd.C_drewN ?_ _) | (with_reducible refine Kd.C_drew ?_))); (case side2 => exact (Kd.Q_reads' HO354.out).2.1); rintro e w12 ⟨rfl, hb⟩; refine ⟨_, rfl, ?_⟩; have n0_ := Aside0.mk (Kd.Q_below (by (with_reducible repeat (first | apply Kd.Q_alloc | apply Kd.Q_drewN | apply Kd.Q_drew)); exact HO354.out) hb); have n1_ := Aside0.mk (IsS113.below stA hb); have n2_ := Aside0.mk (below_step belowA hb); clear HO354; clear HI351; clear HB; have HO354 := n0_; have HI351 := n1_; have HB := n2_; clear n0_ n1_ n2_; (try clear hb); (try clear hb2); (try clear hk); (try clear hi)) | (go_at_call 84; (with_reducible refine (spec_l6Rd_pick.calls k g351 t349 t356 2 t359 t360 w _ ?side1 ?side2 A7.out).mono ?_); (case side1 => exact stA); (case side2 => exact belowA); rintro e w13 ⟨rfl, hi, hb, hk⟩; have n0_ := Aside0.mk (Kd.Q_mono (Kd.Q_keep (IsS113.apartQ (show IsS113 w _ g351 t349 t356 from stA) (by (with_reducible repeat (first | apply Kd.Q_alloc | apply Kd.Q_drewN | apply Kd.Q_drew)); exact HO354.out) (by decide)) hk (fun _ h => h.2)) (fun _ h => h.1)); have n1_ := Aside0.mk (hb); have n2_ := Aside0.mk (hi); clear HO354; clear HB; clear HI351; have HO354 := n0_; have HB := n1_; have HI351 := n2_; clear n0_ n1_ n2_; (try clear hb); (try clear hb2); (try clear hk); (try clear hi)))
        go_ret3
        exact ⟨_, endA, by (with_reducible repeat (first | apply Kd.Q_alloc | apply Kd.Q_drewN | apply Kd.Q_drew)); exact HO354.out, belowA⟩
      · rw [if_neg c8] at H
        have c8b0 : (t359 == 0) = false := beq_eq_false_iff_ne.mpr c8
        have c8b1 : (t359 != 0) = true := bne_iff_ne.mpr c8
        replace H := Option.bind_eq_some_iff.mp H
        obtain ⟨⟨t361, t362⟩, A140, H⟩ := H
        (try dsimp only at H)
        have A14 := Aside0.mk A140
        clear A140
        by_cases c15 : 0 ≤ t361
        · rw [if_pos c15] at H
          have c15b0 : decide (0 ≤ t361) = true := decide_eq_true c15
          clear c15
          by_cases c16 : t361 < (t352.length : Int)
          · rw [if_pos c16] at H
            have c16b0 : decide (t361 < (t352.length : Int)) = true := decide_eq_true c16
            clear c16
            simp only [Option.some.injEq, Prod.mk.injEq] at H
            obtain ⟨rfl, rfl, rfl⟩ := H
            go_enter Tryd.func48, Tryd.ntmps48
            try go_wp2_with (first | ((with_reducible refine gate_callee (f := 82) rfl ?_); refine goesL_ (some 11) rfl rfl Tryd.func82 (by kernel_rfl) rfl #[.slice A0 l0.length c0] rfl argsA ?_; (with_reducible refine (spec_l6Open.calls _ _ l0 t349 t350 w _ ?side1 ?side2 ?side3 A2.out).mono ?_); (case side1 => exact belowA); (case side2 => exact HR0.out); (case side3 => exact HC0.out); rintro e w17 ⟨g351, rfl, hi, hb, hb2⟩; refine ⟨_, rfl, ?_⟩; have n0_ := Aside0.mk (hb); have n1_ := Aside0.mk (hi); clear HB; have HB := n0_; have HI351 := n1_; clear n0_ n1_; (try clear hb); (try clear hb2); (try clear hk); (try clear hi)) | ((with_reducible refine gate_callee (f := 85) rfl ?_); refine goesL_ (some 14) rfl rfl Tryd.func85 (by kernel_rfl) rfl #[.pointer (some ⟨g351, 0, none⟩)] rfl argsA ?_; (with_reducible refine (spec_l71Row.calls k g351 t349 t350 t352 t355 t356 w _ ?side1 ?side2 A3.out).mono ?_); (case side1 => exact stA); (case side2 => exact belowA); rintro e w18 ⟨v353, rfl, ho0, hi, hb, hk⟩; refine ⟨_, rfl, ?_⟩; have n0_ := Aside0.mk (Kd.Q_lower ho0 (below_size belowA)); have n1_ := Aside0.mk (hb); have n2_ := Aside0.mk (hi); clear HB; clear HI351; have HO354 := n0_; have HB := n1_; have HI351 := n2_; clear n0_ n1_ n2_; (try clear hb); (try clear hb2); (try clear hk); (try clear hi); (try clear ho0); obtain ⟨Ao19, co19, eo19, _⟩ := Kd.Q_slice HO354.out; subst eo19) | ((with_reducible refine gate_callee (f := 29) rfl ?_); refine goesL_ (some 20) rfl rfl Tryd.func29 (by kernel_rfl) rfl #[.slice Ao19 t352.length co19, .int .i64 t355] rfl argsA ?_; (with_reducible refine (spec_TreeUp.calls k _ _ t352 t355 t357 true _ ?side1 ?side2 A4.out).mono ?_); (case side1 => repeat (first | exact (Kd.Q_reads' HO354.out).2.2 | (with_reducible refine Kd.C_alloc ?_ _) | (with_reducible refine Kd.C_drewN ?_ _) | (with_reducible refine Kd.C_drew ?_))); (case side2 => exact (Kd.Q_reads' HO354.out).2.1); rintro e w20 ⟨rfl, hb⟩; refine ⟨_, rfl, ?_⟩; have n0_ := Aside0.mk (Kd.Q_below (by (with_reducible repeat (first | apply Kd.Q_alloc | apply Kd.Q_drewN | apply Kd.Q_drew)); exact HO354.out) hb); have n1_ := Aside0.mk (IsS113.below stA hb); have n2_ := Aside0.mk (below_step belowA hb); clear HO354; clear HI351; clear HB; have HO354 := n0_; have HI351 := n1_; have HB := n2_; clear n0_ n1_ n2_; (try clear hb); (try clear hb2); (try clear hk); (try clear hi)) | (go_at_call 84; (with_reducible refine (spec_l6Rd_pick.calls k g351 t349 t356 2 t359 t360 w _ ?side1 ?side2 A7.out).mono ?_); (case side1 => exact stA); (case side2 => exact belowA); rintro e w21 ⟨rfl, hi, hb, hk⟩; have n0_ := Aside0.mk (Kd.Q_mono (Kd.Q_keep (IsS113.apartQ (show IsS113 w _ g351 t349 t356 from stA) (by (with_reducible repeat (first | apply Kd.Q_alloc | apply Kd.Q_drewN | apply Kd.Q_drew)); exact HO354.out) (by decide)) hk (fun _ h => h.2)) (fun _ h => h.1)); have n1_ := Aside0.mk (hb); have n2_ := Aside0.mk (hi); clear HO354; clear HB; clear HI351; have HO354 := n0_; have HB := n1_; have HI351 := n2_; clear n0_ n1_ n2_; (try clear hb); (try clear hb2); (try clear hk); (try clear hi)))
            have n0_ := Aside0.mk (Kd.Q_drew HO354.out)
            have n1_ := Aside0.mk (IsS113.drew HI351.out)
            have n2_ := Aside0.mk (below_drew1 HB.out)
            clear HO354
            clear HI351
            clear HB
            have HO354 := n0_
            have HI351 := n1_
            have HB := n2_
            clear n0_ n1_ n2_
            have p363 : 0 ≤ (t361 : Int) := of_decide_eq_true (by first | (with_reducible assumption) | assumption)
            have q363 : t361 < (t352.length : Int) := of_decide_eq_true (by first | (with_reducible assumption) | assumption)
            obtain ⟨ad363, e363, hx363_0, hx363_1, hx363_2⟩ := at_T47 (Kd.Q_reads' HO354.out).2.2 t361 p363 q363
            cases e363
            replace p363 := eq_true p363
            replace q363 := eq_true q363
            refine start_ (n := 13) (S := fun w' => w'.cell? (ad363.add ((t361).toNat * 3)) = some (.int .i64 ((rd_T47 t352 t361).f0)) ∧ w'.cell? ⟨(ad363.add ((t361).toNat * 3)).block, (ad363.add ((t361).toNat * 3)).off + 1, none⟩ = some (.int .i64 ((rd_T47 t352 t361).f1)) ∧ w'.cell? ⟨(ad363.add ((t361).toNat * 3)).block, (ad363.add ((t361).toNat * 3)).off + 2, none⟩ = some (.string ((rd_T47 t352 t361).f2))) (ds := []) (tf 0 13) (by kernel_rfl) rfl rfl ⟨hx363_0, hx363_1, hx363_2⟩ (fun hHeld => ?_); refine with_tabW spec_DrawTreeUnder.tab6 spec_DrawTreeUnder.bits6 (fun HT_ HW_ => ?_)
            generalize w21.drew = w22 at HO354 HI351 HB hx363_0 hx363_1 hx363_2 hHeld ⊢
            refine pure_ (i := 0) (N := some 36) (tf 1 12) rfl rfl (any_of HT_.out (by kernel_rfl)) (fun _ _ _ h => h) yldA putA ?_
            refine pure_ (i := 1) (N := some 37) (tf 2 11) rfl rfl (any_of HT_.out (by kernel_rfl)) (fun _ _ _ h => h) yldA putA ?_
            refine pure_ (i := 2) (N := some 38) (tf 3 10) rfl rfl (any_of HT_.out (by kernel_rfl)) (fun _ _ _ h => h) yldA putA ?_
            refine pure_ (i := 3) (N := some 39) (tf 4 9) rfl rfl (any_of HT_.out (by kernel_rfl)) (fun _ _ _ h => h) yldA putA ?_
            refine pure_ (i := 4) (N := some 40) (tf 5 8) rfl rfl (any_of HT_.out (by kernel_rfl)) (fun _ _ _ h => h) yldA putA ?_
            refine pure_ (i := 5) (N := some 41) (tf 6 7) rfl rfl (any_of HT_.out (by kernel_rfl)) (fun _ _ _ h => h) yldA putA ?_
            refine one_ (i := 6) (N := some 42) (tf 7 6) rfl rfl (one_of HT_.out (by kernel_rfl)) (by decide) (fun K hK => ?_)
            refine goes_ Tryd.func84 (by kernel_rfl) rfl #[.pointer (some ⟨g351, 0, none⟩), .int .i64 (t352.length : Int)] (by rfl) rfl rfl argsA ?_
            with_reducible refine (spec_l6Rd_pick.calls k g351 t349 t360 (t352.length : Int) t361 t362 w _ ?side1 ?side2 A14.out).mono ?_
            (case side1 => exact stA)
            (case side2 => exact belowA)
            rintro e w23 ⟨rfl, hi, hb, hk⟩
            have HS0_ := keep_cell hk (hHeld.1) (by first | (rw [add_block]; exact Kd.own_blk (IsS113.own_neQ HI351.out HO354.out (by decide))) | (show (Addr.add _ _).block ≠ _; rw [add_block]; exact Kd.own_blk (IsS113.own_neQ HI351.out HO354.out (by decide))) | exact Kd.own_blk (IsS113.own_neQ HI351.out HO354.out (by decide)))
            have HS1_ := keep_cell hk (hHeld.2.1) (by first | (rw [add_block]; exact Kd.own_blk (IsS113.own_neQ HI351.out HO354.out (by decide))) | (show (Addr.add _ _).block ≠ _; rw [add_block]; exact Kd.own_blk (IsS113.own_neQ HI351.out HO354.out (by decide))) | exact Kd.own_blk (IsS113.own_neQ HI351.out HO354.out (by decide)))
            have HS2_ := keep_cell hk (hHeld.2.2) (by first | (rw [add_block]; exact Kd.own_blk (IsS113.own_neQ HI351.out HO354.out (by decide))) | (show (Addr.add _ _).block ≠ _; rw [add_block]; exact Kd.own_blk (IsS113.own_neQ HI351.out HO354.out (by decide))) | exact Kd.own_blk (IsS113.own_neQ HI351.out HO354.out (by decide)))
            refine ⟨_, rfl, ?_⟩
            have n0_ := Aside0.mk (Kd.Q_mono (Kd.Q_keep (IsS113.apartQ (show IsS113 w _ g351 t349 t360 from stA) (by (with_reducible repeat (first | apply Kd.Q_alloc | apply Kd.Q_drewN | apply Kd.Q_drew)); exact HO354.out) (by decide)) hk (fun _ h => h.2)) (fun _ h => h.1))
            have n1_ := Aside0.mk (hb)
            have n2_ := Aside0.mk (hi)
            clear HO354
            clear HB
            clear HI351
            have HO354 := n0_
            have HB := n1_
            have HI351 := n2_
            clear n0_ n1_ n2_
            (try clear hb)
            (try clear hb2)
            (try clear hk)
            (try clear hi)
            refine hK.out _ _ ⟨HS0_, HS1_, HS2_⟩ (fun hHeld => ?_)
            clear hK K
            refine norm_ (a' := ?_) ?_ ?_
            rotate_left
            · show Act.put _ (some 42) _ = _
              simp only [Act.put, List.setIfInBounds_toArray, List.set_cons_zero, List.set_cons_succ, i64_w, i32_w]
              rfl
            refine pure_ (i := 7) (N := some 43) (tf 8 5) rfl rfl (any_of HT_.out (by kernel_rfl)) (fun _ _ _ h => h) yldA putA ?_
            refine pure_ (i := 8) (N := some 44) (tf 9 4) rfl rfl (any_of HT_.out (by kernel_rfl)) (fun _ _ _ h => h) yldA putA ?_
            refine pure_ (i := 10) (N := some 2) #[true, true, true, true, true, true, true, true, true, false, true, false, false] rfl rfl (any_of HT_.out (by kernel_rfl)) (fun _ _ _ h => h) yldA putA ?_
            refine pure_ (i := 11) (N := some 3) #[true, true, true, true, true, true, true, true, true, false, true, true, false] rfl rfl (any_of HT_.out (by kernel_rfl)) (fun _ _ _ h => h) yldA putA ?_
            refine take_ (i := 9) (N := some 45) (tf 12 1) rfl rfl (take_ofW HT_.out HW_.out (by kernel_rfl)) (fun _ _ _ h => h) (Or.inl ⟨by rfl, by rintro w' ⟨s0, s1, s2⟩; go_simp; with_reducible rfl⟩) hHeld putA ?_
            refine pure_ (i := 12) (N := some 4) (tf 13 0) rfl rfl (any_of HT_.out (by kernel_rfl)) (fun _ _ _ h => h) yldA putA ?_
            refine done_ (done_of HT_.out (by kernel_rfl)) ?_
            try go_wp2
            go_ret3
            exact ⟨_, endA, by (with_reducible repeat (first | apply Kd.Q_alloc | apply Kd.Q_drewN | apply Kd.Q_drew)); exact HO354.out, belowA⟩
          · rw [if_neg c16] at H
            exact absurd H (by simp)
        · rw [if_neg c15] at H
          exact absurd H (by simp)
    · rw [if_neg c6] at H
      have c6b0 : decide (0 < t357) = false := decide_eq_false c6
      clear c6
      replace H := Option.bind_eq_some_iff.mp H
      obtain ⟨⟨t364, t365⟩, A240, H⟩ := H
      (try dsimp only at H)
      have A24 := Aside0.mk A240
      clear A240
      by_cases c25 : 0 ≤ t364
      · rw [if_pos c25] at H
        have c25b0 : decide (0 ≤ t364) = true := decide_eq_true c25
        clear c25
        by_cases c26 : t364 < (t352.length : Int)
        · rw [if_pos c26] at H
          have c26b0 : decide (t364 < (t352.length : Int)) = true := decide_eq_true c26
          clear c26
          simp only [Option.some.injEq, Prod.mk.injEq] at H
          obtain ⟨rfl, rfl, rfl⟩ := H
          go_enter Tryd.func48, Tryd.ntmps48
          try go_wp2_with (first | ((with_reducible refine gate_callee (f := 82) rfl ?_); refine goesL_ (some 11) rfl rfl Tryd.func82 (by kernel_rfl) rfl #[.slice A0 l0.length c0] rfl argsA ?_; (with_reducible refine (spec_l6Open.calls _ _ l0 t349 t350 w _ ?side1 ?side2 ?side3 A2.out).mono ?_); (case side1 => exact belowA); (case side2 => exact HR0.out); (case side3 => exact HC0.out); rintro e w27 ⟨g351, rfl, hi, hb, hb2⟩; refine ⟨_, rfl, ?_⟩; have n0_ := Aside0.mk (hb); have n1_ := Aside0.mk (hi); clear HB; have HB := n0_; have HI351 := n1_; clear n0_ n1_; (try clear hb); (try clear hb2); (try clear hk); (try clear hi)) | ((with_reducible refine gate_callee (f := 85) rfl ?_); refine goesL_ (some 14) rfl rfl Tryd.func85 (by kernel_rfl) rfl #[.pointer (some ⟨g351, 0, none⟩)] rfl argsA ?_; (with_reducible refine (spec_l71Row.calls k g351 t349 t350 t352 t355 t356 w _ ?side1 ?side2 A3.out).mono ?_); (case side1 => exact stA); (case side2 => exact belowA); rintro e w28 ⟨v353, rfl, ho0, hi, hb, hk⟩; refine ⟨_, rfl, ?_⟩; have n0_ := Aside0.mk (Kd.Q_lower ho0 (below_size belowA)); have n1_ := Aside0.mk (hb); have n2_ := Aside0.mk (hi); clear HB; clear HI351; have HO354 := n0_; have HB := n1_; have HI351 := n2_; clear n0_ n1_ n2_; (try clear hb); (try clear hb2); (try clear hk); (try clear hi); (try clear ho0); obtain ⟨Ao29, co29, eo29, _⟩ := Kd.Q_slice HO354.out; subst eo29) | ((with_reducible refine gate_callee (f := 29) rfl ?_); refine goesL_ (some 20) rfl rfl Tryd.func29 (by kernel_rfl) rfl #[.slice Ao29 t352.length co29, .int .i64 t355] rfl argsA ?_; (with_reducible refine (spec_TreeUp.calls k _ _ t352 t355 t357 true _ ?side1 ?side2 A4.out).mono ?_); (case side1 => repeat (first | exact (Kd.Q_reads' HO354.out).2.2 | (with_reducible refine Kd.C_alloc ?_ _) | (with_reducible refine Kd.C_drewN ?_ _) | (with_reducible refine Kd.C_drew ?_))); (case side2 => exact (Kd.Q_reads' HO354.out).2.1); rintro e w30 ⟨rfl, hb⟩; refine ⟨_, rfl, ?_⟩; have n0_ := Aside0.mk (Kd.Q_below (by (with_reducible repeat (first | apply Kd.Q_alloc | apply Kd.Q_drewN | apply Kd.Q_drew)); exact HO354.out) hb); have n1_ := Aside0.mk (IsS113.below stA hb); have n2_ := Aside0.mk (below_step belowA hb); clear HO354; clear HI351; clear HB; have HO354 := n0_; have HI351 := n1_; have HB := n2_; clear n0_ n1_ n2_; (try clear hb); (try clear hb2); (try clear hk); (try clear hi)))
          have n0_ := Aside0.mk (Kd.Q_drew HO354.out)
          have n1_ := Aside0.mk (IsS113.drew HI351.out)
          have n2_ := Aside0.mk (below_drew1 HB.out)
          clear HO354
          clear HI351
          clear HB
          have HO354 := n0_
          have HI351 := n1_
          have HB := n2_
          clear n0_ n1_ n2_
          have p366 : 0 ≤ (t364 : Int) := of_decide_eq_true (by first | (with_reducible assumption) | assumption)
          have q366 : t364 < (t352.length : Int) := of_decide_eq_true (by first | (with_reducible assumption) | assumption)
          obtain ⟨ad366, e366, hx366_0, hx366_1, hx366_2⟩ := at_T47 (Kd.Q_reads' HO354.out).2.2 t364 p366 q366
          cases e366
          replace p366 := eq_true p366
          replace q366 := eq_true q366
          refine start_ (n := 13) (S := fun w' => w'.cell? (ad366.add ((t364).toNat * 3)) = some (.int .i64 ((rd_T47 t352 t364).f0)) ∧ w'.cell? ⟨(ad366.add ((t364).toNat * 3)).block, (ad366.add ((t364).toNat * 3)).off + 1, none⟩ = some (.int .i64 ((rd_T47 t352 t364).f1)) ∧ w'.cell? ⟨(ad366.add ((t364).toNat * 3)).block, (ad366.add ((t364).toNat * 3)).off + 2, none⟩ = some (.string ((rd_T47 t352 t364).f2))) (ds := []) (tf 0 13) (by kernel_rfl) rfl rfl ⟨hx366_0, hx366_1, hx366_2⟩ (fun hHeld => ?_); refine with_tabW spec_DrawTreeUnder.tab6 spec_DrawTreeUnder.bits6 (fun HT_ HW_ => ?_)
          generalize w30.drew = w31 at HO354 HI351 HB hx366_0 hx366_1 hx366_2 hHeld ⊢
          refine pure_ (i := 0) (N := some 36) (tf 1 12) rfl rfl (any_of HT_.out (by kernel_rfl)) (fun _ _ _ h => h) yldA putA ?_
          refine pure_ (i := 1) (N := some 37) (tf 2 11) rfl rfl (any_of HT_.out (by kernel_rfl)) (fun _ _ _ h => h) yldA putA ?_
          refine pure_ (i := 2) (N := some 38) (tf 3 10) rfl rfl (any_of HT_.out (by kernel_rfl)) (fun _ _ _ h => h) yldA putA ?_
          refine pure_ (i := 3) (N := some 39) (tf 4 9) rfl rfl (any_of HT_.out (by kernel_rfl)) (fun _ _ _ h => h) yldA putA ?_
          refine pure_ (i := 4) (N := some 40) (tf 5 8) rfl rfl (any_of HT_.out (by kernel_rfl)) (fun _ _ _ h => h) yldA putA ?_
          refine pure_ (i := 5) (N := some 41) (tf 6 7) rfl rfl (any_of HT_.out (by kernel_rfl)) (fun _ _ _ h => h) yldA putA ?_
          refine one_ (i := 6) (N := some 42) (tf 7 6) rfl rfl (one_of HT_.out (by kernel_rfl)) (by decide) (fun K hK => ?_)
          refine goes_ Tryd.func84 (by kernel_rfl) rfl #[.pointer (some ⟨g351, 0, none⟩), .int .i64 (t352.length : Int)] (by rfl) rfl rfl argsA ?_
          with_reducible refine (spec_l6Rd_pick.calls k g351 t349 t356 (t352.length : Int) t364 t365 w _ ?side1 ?side2 A24.out).mono ?_
          (case side1 => exact stA)
          (case side2 => exact belowA)
          rintro e w32 ⟨rfl, hi, hb, hk⟩
          have HS0_ := keep_cell hk (hHeld.1) (by first | (rw [add_block]; exact Kd.own_blk (IsS113.own_neQ HI351.out HO354.out (by decide))) | (show (Addr.add _ _).block ≠ _; rw [add_block]; exact Kd.own_blk (IsS113.own_neQ HI351.out HO354.out (by decide))) | exact Kd.own_blk (IsS113.own_neQ HI351.out HO354.out (by decide)))
          have HS1_ := keep_cell hk (hHeld.2.1) (by first | (rw [add_block]; exact Kd.own_blk (IsS113.own_neQ HI351.out HO354.out (by decide))) | (show (Addr.add _ _).block ≠ _; rw [add_block]; exact Kd.own_blk (IsS113.own_neQ HI351.out HO354.out (by decide))) | exact Kd.own_blk (IsS113.own_neQ HI351.out HO354.out (by decide)))
          have HS2_ := keep_cell hk (hHeld.2.2) (by first | (rw [add_block]; exact Kd.own_blk (IsS113.own_neQ HI351.out HO354.out (by decide))) | (show (Addr.add _ _).block ≠ _; rw [add_block]; exact Kd.own_blk (IsS113.own_neQ HI351.out HO354.out (by decide))) | exact Kd.own_blk (IsS113.own_neQ HI351.out HO354.out (by decide)))
          refine ⟨_, rfl, ?_⟩
          have n0_ := Aside0.mk (Kd.Q_mono (Kd.Q_keep (IsS113.apartQ (show IsS113 w _ g351 t349 t356 from stA) (by (with_reducible repeat (first | apply Kd.Q_alloc | apply Kd.Q_drewN | apply Kd.Q_drew)); exact HO354.out) (by decide)) hk (fun _ h => h.2)) (fun _ h => h.1))
          have n1_ := Aside0.mk (hb)
          have n2_ := Aside0.mk (hi)
          clear HO354
          clear HB
          clear HI351
          have HO354 := n0_
          have HB := n1_
          have HI351 := n2_
          clear n0_ n1_ n2_
          (try clear hb)
          (try clear hb2)
          (try clear hk)
          (try clear hi)
          refine hK.out _ _ ⟨HS0_, HS1_, HS2_⟩ (fun hHeld => ?_)
          clear hK K
          refine norm_ (a' := ?_) ?_ ?_
          rotate_left
          · show Act.put _ (some 42) _ = _
            simp only [Act.put, List.setIfInBounds_toArray, List.set_cons_zero, List.set_cons_succ, i64_w, i32_w]
            rfl
          refine pure_ (i := 7) (N := some 43) (tf 8 5) rfl rfl (any_of HT_.out (by kernel_rfl)) (fun _ _ _ h => h) yldA putA ?_
          refine pure_ (i := 8) (N := some 44) (tf 9 4) rfl rfl (any_of HT_.out (by kernel_rfl)) (fun _ _ _ h => h) yldA putA ?_
          refine pure_ (i := 10) (N := some 2) #[true, true, true, true, true, true, true, true, true, false, true, false, false] rfl rfl (any_of HT_.out (by kernel_rfl)) (fun _ _ _ h => h) yldA putA ?_
          refine pure_ (i := 11) (N := some 3) #[true, true, true, true, true, true, true, true, true, false, true, true, false] rfl rfl (any_of HT_.out (by kernel_rfl)) (fun _ _ _ h => h) yldA putA ?_
          refine take_ (i := 9) (N := some 45) (tf 12 1) rfl rfl (take_ofW HT_.out HW_.out (by kernel_rfl)) (fun _ _ _ h => h) (Or.inl ⟨by rfl, by rintro w' ⟨s0, s1, s2⟩; go_simp; with_reducible rfl⟩) hHeld putA ?_
          refine pure_ (i := 12) (N := some 4) (tf 13 0) rfl rfl (any_of HT_.out (by kernel_rfl)) (fun _ _ _ h => h) yldA putA ?_
          refine done_ (done_of HT_.out (by kernel_rfl)) ?_
          try go_wp2
          go_ret3
          exact ⟨_, endA, by (with_reducible repeat (first | apply Kd.Q_alloc | apply Kd.Q_drewN | apply Kd.Q_drew)); exact HO354.out, belowA⟩
        · rw [if_neg c26] at H
          exact absurd H (by simp)
      · rw [if_neg c25] at H
        exact absurd H (by simp)
  · replace c5 := Bool.eq_false_iff.mpr c5
    subst c5
    have H1 : ((spec_l6Rd_pick.f k t349 t356 (t352.length : Int)).bind fun bt367 => (if 0 ≤ bt367.1 then (if bt367.1 < (t352.length : Int) then (some (t352, t355, (rd_T47 t352 bt367.1).f0)) else (none)) else (none))) = some (r1, r2, r3) := by rw [if_neg (show ¬ (false = true) by decide)] at H; exact H
    clear H
    have H := H1
    clear H1
    replace H := Option.bind_eq_some_iff.mp H
    obtain ⟨⟨t367, t368⟩, A330, H⟩ := H
    (try dsimp only at H)
    have A33 := Aside0.mk A330
    clear A330
    by_cases c34 : 0 ≤ t367
    · rw [if_pos c34] at H
      have c34b0 : decide (0 ≤ t367) = true := decide_eq_true c34
      clear c34
      by_cases c35 : t367 < (t352.length : Int)
      · rw [if_pos c35] at H
        have c35b0 : decide (t367 < (t352.length : Int)) = true := decide_eq_true c35
        clear c35
        simp only [Option.some.injEq, Prod.mk.injEq] at H
        obtain ⟨rfl, rfl, rfl⟩ := H
        go_enter Tryd.func48, Tryd.ntmps48
        try go_wp2_with (first | ((with_reducible refine gate_callee (f := 82) rfl ?_); refine goesL_ (some 11) rfl rfl Tryd.func82 (by kernel_rfl) rfl #[.slice A0 l0.length c0] rfl argsA ?_; (with_reducible refine (spec_l6Open.calls _ _ l0 t349 t350 w _ ?side1 ?side2 ?side3 A2.out).mono ?_); (case side1 => exact belowA); (case side2 => exact HR0.out); (case side3 => exact HC0.out); rintro e w36 ⟨g351, rfl, hi, hb, hb2⟩; refine ⟨_, rfl, ?_⟩; have n0_ := Aside0.mk (hb); have n1_ := Aside0.mk (hi); clear HB; have HB := n0_; have HI351 := n1_; clear n0_ n1_; (try clear hb); (try clear hb2); (try clear hk); (try clear hi)) | ((with_reducible refine gate_callee (f := 85) rfl ?_); refine goesL_ (some 14) rfl rfl Tryd.func85 (by kernel_rfl) rfl #[.pointer (some ⟨g351, 0, none⟩)] rfl argsA ?_; (with_reducible refine (spec_l71Row.calls k g351 t349 t350 t352 t355 t356 w _ ?side1 ?side2 A3.out).mono ?_); (case side1 => exact stA); (case side2 => exact belowA); rintro e w37 ⟨v353, rfl, ho0, hi, hb, hk⟩; refine ⟨_, rfl, ?_⟩; have n0_ := Aside0.mk (Kd.Q_lower ho0 (below_size belowA)); have n1_ := Aside0.mk (hb); have n2_ := Aside0.mk (hi); clear HB; clear HI351; have HO354 := n0_; have HB := n1_; have HI351 := n2_; clear n0_ n1_ n2_; (try clear hb); (try clear hb2); (try clear hk); (try clear hi); (try clear ho0); obtain ⟨Ao38, co38, eo38, _⟩ := Kd.Q_slice HO354.out; subst eo38) | ((with_reducible refine gate_callee (f := 29) rfl ?_); refine goesL_ (some 20) rfl rfl Tryd.func29 (by kernel_rfl) rfl #[.slice Ao38 t352.length co38, .int .i64 t355] rfl argsA ?_; (with_reducible refine (spec_TreeUp.calls k _ _ t352 t355 t357 false _ ?side1 ?side2 A4.out).mono ?_); (case side1 => repeat (first | exact (Kd.Q_reads' HO354.out).2.2 | (with_reducible refine Kd.C_alloc ?_ _) | (with_reducible refine Kd.C_drewN ?_ _) | (with_reducible refine Kd.C_drew ?_))); (case side2 => exact (Kd.Q_reads' HO354.out).2.1); rintro e w39 ⟨rfl, hb⟩; refine ⟨_, rfl, ?_⟩; have n0_ := Aside0.mk (Kd.Q_below (by (with_reducible repeat (first | apply Kd.Q_alloc | apply Kd.Q_drewN | apply Kd.Q_drew)); exact HO354.out) hb); have n1_ := Aside0.mk (IsS113.below stA hb); have n2_ := Aside0.mk (below_step belowA hb); clear HO354; clear HI351; clear HB; have HO354 := n0_; have HI351 := n1_; have HB := n2_; clear n0_ n1_ n2_; (try clear hb); (try clear hb2); (try clear hk); (try clear hi)))
        have n0_ := Aside0.mk (Kd.Q_drew HO354.out)
        have n1_ := Aside0.mk (IsS113.drew HI351.out)
        have n2_ := Aside0.mk (below_drew1 HB.out)
        clear HO354
        clear HI351
        clear HB
        have HO354 := n0_
        have HI351 := n1_
        have HB := n2_
        clear n0_ n1_ n2_
        have p369 : 0 ≤ (t367 : Int) := of_decide_eq_true (by first | (with_reducible assumption) | assumption)
        have q369 : t367 < (t352.length : Int) := of_decide_eq_true (by first | (with_reducible assumption) | assumption)
        obtain ⟨ad369, e369, hx369_0, hx369_1, hx369_2⟩ := at_T47 (Kd.Q_reads' HO354.out).2.2 t367 p369 q369
        cases e369
        replace p369 := eq_true p369
        replace q369 := eq_true q369
        refine start_ (n := 13) (S := fun w' => w'.cell? (ad369.add ((t367).toNat * 3)) = some (.int .i64 ((rd_T47 t352 t367).f0)) ∧ w'.cell? ⟨(ad369.add ((t367).toNat * 3)).block, (ad369.add ((t367).toNat * 3)).off + 1, none⟩ = some (.int .i64 ((rd_T47 t352 t367).f1)) ∧ w'.cell? ⟨(ad369.add ((t367).toNat * 3)).block, (ad369.add ((t367).toNat * 3)).off + 2, none⟩ = some (.string ((rd_T47 t352 t367).f2))) (ds := []) (tf 0 13) (by kernel_rfl) rfl rfl ⟨hx369_0, hx369_1, hx369_2⟩ (fun hHeld => ?_); refine with_tabW spec_DrawTreeUnder.tab6 spec_DrawTreeUnder.bits6 (fun HT_ HW_ => ?_)
        generalize w39.drew = w40 at HO354 HI351 HB hx369_0 hx369_1 hx369_2 hHeld ⊢
        refine pure_ (i := 0) (N := some 36) (tf 1 12) rfl rfl (any_of HT_.out (by kernel_rfl)) (fun _ _ _ h => h) yldA putA ?_
        refine pure_ (i := 1) (N := some 37) (tf 2 11) rfl rfl (any_of HT_.out (by kernel_rfl)) (fun _ _ _ h => h) yldA putA ?_
        refine pure_ (i := 2) (N := some 38) (tf 3 10) rfl rfl (any_of HT_.out (by kernel_rfl)) (fun _ _ _ h => h) yldA putA ?_
        refine pure_ (i := 3) (N := some 39) (tf 4 9) rfl rfl (any_of HT_.out (by kernel_rfl)) (fun _ _ _ h => h) yldA putA ?_
        refine pure_ (i := 4) (N := some 40) (tf 5 8) rfl rfl (any_of HT_.out (by kernel_rfl)) (fun _ _ _ h => h) yldA putA ?_
        refine pure_ (i := 5) (N := some 41) (tf 6 7) rfl rfl (any_of HT_.out (by kernel_rfl)) (fun _ _ _ h => h) yldA putA ?_
        refine one_ (i := 6) (N := some 42) (tf 7 6) rfl rfl (one_of HT_.out (by kernel_rfl)) (by decide) (fun K hK => ?_)
        refine goes_ Tryd.func84 (by kernel_rfl) rfl #[.pointer (some ⟨g351, 0, none⟩), .int .i64 (t352.length : Int)] (by rfl) rfl rfl argsA ?_
        with_reducible refine (spec_l6Rd_pick.calls k g351 t349 t356 (t352.length : Int) t367 t368 w _ ?side1 ?side2 A33.out).mono ?_
        (case side1 => exact stA)
        (case side2 => exact belowA)
        rintro e w41 ⟨rfl, hi, hb, hk⟩
        have HS0_ := keep_cell hk (hHeld.1) (by first | (rw [add_block]; exact Kd.own_blk (IsS113.own_neQ HI351.out HO354.out (by decide))) | (show (Addr.add _ _).block ≠ _; rw [add_block]; exact Kd.own_blk (IsS113.own_neQ HI351.out HO354.out (by decide))) | exact Kd.own_blk (IsS113.own_neQ HI351.out HO354.out (by decide)))
        have HS1_ := keep_cell hk (hHeld.2.1) (by first | (rw [add_block]; exact Kd.own_blk (IsS113.own_neQ HI351.out HO354.out (by decide))) | (show (Addr.add _ _).block ≠ _; rw [add_block]; exact Kd.own_blk (IsS113.own_neQ HI351.out HO354.out (by decide))) | exact Kd.own_blk (IsS113.own_neQ HI351.out HO354.out (by decide)))
        have HS2_ := keep_cell hk (hHeld.2.2) (by first | (rw [add_block]; exact Kd.own_blk (IsS113.own_neQ HI351.out HO354.out (by decide))) | (show (Addr.add _ _).block ≠ _; rw [add_block]; exact Kd.own_blk (IsS113.own_neQ HI351.out HO354.out (by decide))) | exact Kd.own_blk (IsS113.own_neQ HI351.out HO354.out (by decide)))
        refine ⟨_, rfl, ?_⟩
        have n0_ := Aside0.mk (Kd.Q_mono (Kd.Q_keep (IsS113.apartQ (show IsS113 w _ g351 t349 t356 from stA) (by (with_reducible repeat (first | apply Kd.Q_alloc | apply Kd.Q_drewN | apply Kd.Q_drew)); exact HO354.out) (by decide)) hk (fun _ h => h.2)) (fun _ h => h.1))
        have n1_ := Aside0.mk (hb)
        have n2_ := Aside0.mk (hi)
        clear HO354
        clear HB
        clear HI351
        have HO354 := n0_
        have HB := n1_
        have HI351 := n2_
        clear n0_ n1_ n2_
        (try clear hb)
        (try clear hb2)
        (try clear hk)
        (try clear hi)
        refine hK.out _ _ ⟨HS0_, HS1_, HS2_⟩ (fun hHeld => ?_)
        clear hK K
        refine norm_ (a' := ?_) ?_ ?_
        rotate_left
        · show Act.put _ (some 42) _ = _
          simp only [Act.put, List.setIfInBounds_toArray, List.set_cons_zero, List.set_cons_succ, i64_w, i32_w]
          rfl
        refine pure_ (i := 7) (N := some 43) (tf 8 5) rfl rfl (any_of HT_.out (by kernel_rfl)) (fun _ _ _ h => h) yldA putA ?_
        refine pure_ (i := 8) (N := some 44) (tf 9 4) rfl rfl (any_of HT_.out (by kernel_rfl)) (fun _ _ _ h => h) yldA putA ?_
        refine pure_ (i := 10) (N := some 2) #[true, true, true, true, true, true, true, true, true, false, true, false, false] rfl rfl (any_of HT_.out (by kernel_rfl)) (fun _ _ _ h => h) yldA putA ?_
        refine pure_ (i := 11) (N := some 3) #[true, true, true, true, true, true, true, true, true, false, true, true, false] rfl rfl (any_of HT_.out (by kernel_rfl)) (fun _ _ _ h => h) yldA putA ?_
        refine take_ (i := 9) (N := some 45) (tf 12 1) rfl rfl (take_ofW HT_.out HW_.out (by kernel_rfl)) (fun _ _ _ h => h) (Or.inl ⟨by rfl, by rintro w' ⟨s0, s1, s2⟩; go_simp; with_reducible rfl⟩) hHeld putA ?_
        refine pure_ (i := 12) (N := some 4) (tf 13 0) rfl rfl (any_of HT_.out (by kernel_rfl)) (fun _ _ _ h => h) yldA putA ?_
        refine done_ (done_of HT_.out (by kernel_rfl)) ?_
        try go_wp2
        go_ret3
        exact ⟨_, endA, by (with_reducible repeat (first | apply Kd.Q_alloc | apply Kd.Q_drewN | apply Kd.Q_drew)); exact HO354.out, belowA⟩
      · rw [if_neg c35] at H
        exact absurd H (by simp)
    · rw [if_neg c34] at H
      exact absurd H (by simp)

end Go.Proofs.YtaajcbbbmpdcnaaDoor.P
