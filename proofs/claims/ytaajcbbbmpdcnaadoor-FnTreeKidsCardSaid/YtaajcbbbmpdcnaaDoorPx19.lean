-- Written by wip/tools/pprint.py (a program of this session) over the kit's printer; not trusted: Lean checks it.
import Derived.Test.YtaajcbbbmpdcnaaDoorPx0
import Derived.Test.YtaajcbbbmpdcnaaDoorPx5
import Derived.Test.YtaajcbbbmpdcnaaDoorPx6
import Derived.Test.YtaajcbbbmpdcnaaDoorPx12
import Derived.Test.YtaajcbbbmpdcnaaDoorPx18
import Derived.Test.YtaajcbbbmpdcnaaDoorV
namespace Go.Proofs.YtaajcbbbmpdcnaaDoor.P
open Go.RowKit Go.Proofs.YtaajcbbbmpdcnaaDoorW.PrintWords Go.Proofs.YtaajcbbbmpdcnaaDoorW.PrintLast Go.Proofs.YtaajcbbbmpdcnaaDoorW.PrintMore
attribute [local go_sem] cell_set_set cell_set_far_set max2_int min2_int max_two min_two max_three min_three max_four min_four   -- for this text's walks alone
set_option linter.unusedVariables false
set_option linter.unusedSimpArgs false

/-! ### spec_DrawTreeAhead: function 58 -/
mutual
def spec_DrawTreeAhead.l0 : Nat → List (S47) → Int → Int → List Int → Int → Option ((List (S47)) × Int)
  | 0, _, _, _, _, _ => none
  | k + 1, x5, x6, x7, x440000, x440001 => if x7 < 5 then ((spec_l6Rd_pick.f k x440000 x440001 6).bind fun bt445 => (spec_DrawTreeAhead.j1 k x5 x6 x7 (decide (bt445.1 > 0)) x440000 bt445.2)) else (spec_DrawTreeAhead.j1 k x5 x6 x7 false x440000 x440001)
def spec_DrawTreeAhead.j1 : Nat → List (S47) → Int → Int → Bool → List Int → Int → Option ((List (S47)) × Int)
  | 0, _, _, _, _, _, _ => none
  | k + 1, x5, x6, x7, x23, x440000, x440001 => if x23 = true then ((spec_TreeAhead.f k x5 x6).bind fun bt447 => (if bt447.1 > 0 then (some (x5, x6)) else ((spec_l71Row.f k x440000 x440001).bind fun bt449 => (spec_DrawTreeAhead.l0 k bt449.1 bt449.2.1 (wrap64 (x7 + 1)) x440000 bt449.2.2)))) else (some (x5, x6))
end
def spec_DrawTreeAhead.f (k : Nat) (l0 : List Int) : Option ((List (S47)) × Int) := (spec_l6Open.f l0).bind fun bt437 => ((spec_l71Row.f k bt437.1 bt437.2).bind fun bt440 => (spec_DrawTreeAhead.l0 k bt440.1 bt440.2.1 0 bt437.1 bt440.2.2))
theorem spec_DrawTreeAhead.mono_l : ∀ k, (∀ y0 y1 y2 y3 y4, LeO (spec_DrawTreeAhead.l0 k y0 y1 y2 y3 y4) (spec_DrawTreeAhead.l0 (k + 1) y0 y1 y2 y3 y4)) ∧ (∀ y0 y1 y2 y3 y4 y5, LeO (spec_DrawTreeAhead.j1 k y0 y1 y2 y3 y4 y5) (spec_DrawTreeAhead.j1 (k + 1) y0 y1 y2 y3 y4 y5))
  | 0 => ⟨fun _ _ _ _ _ r h => by simp [spec_DrawTreeAhead.l0] at h, fun _ _ _ _ _ _ r h => by simp [spec_DrawTreeAhead.j1] at h⟩
  | k + 1 => by
    obtain ⟨ih0, ih1⟩ := spec_DrawTreeAhead.mono_l k
    refine ⟨?_, ?_⟩
    · intro y0 y1 y2 y3 y4
      unfold spec_DrawTreeAhead.l0
      repeat' first
      | (with_reducible exact ih0 _ _ _ _ _)
      | (with_reducible exact ih1 _ _ _ _ _ _)
      | (with_reducible exact spec_TreeAhead.mono _ _ _)
      | (with_reducible exact spec_l6Rd_pick.mono _ _ _ _)
      | (with_reducible exact spec_l71Row.mono _ _ _)
      | (with_reducible exact LeO.refl _)
      | (with_reducible exact LeO.none _)
      | (with_reducible refine LeO.ite ?_ ?_)
      | (with_reducible refine LeO.bind ?_ (fun _ => ?_))
      | exact ih0 _ _ _ _ _
      | exact ih1 _ _ _ _ _ _
      | exact spec_TreeAhead.mono _ _ _
      | exact spec_l6Rd_pick.mono _ _ _ _
      | exact spec_l71Row.mono _ _ _
      | exact LeO.none _
      | refine LeO.ite ?_ ?_
      | refine LeO.bind ?_ (fun _ => ?_)
    · intro y0 y1 y2 y3 y4 y5
      unfold spec_DrawTreeAhead.j1
      repeat' first
      | (with_reducible exact ih0 _ _ _ _ _)
      | (with_reducible exact ih1 _ _ _ _ _ _)
      | (with_reducible exact spec_TreeAhead.mono _ _ _)
      | (with_reducible exact spec_l6Rd_pick.mono _ _ _ _)
      | (with_reducible exact spec_l71Row.mono _ _ _)
      | (with_reducible exact LeO.refl _)
      | (with_reducible exact LeO.none _)
      | (with_reducible refine LeO.ite ?_ ?_)
      | (with_reducible refine LeO.bind ?_ (fun _ => ?_))
      | exact ih0 _ _ _ _ _
      | exact ih1 _ _ _ _ _ _
      | exact spec_TreeAhead.mono _ _ _
      | exact spec_l6Rd_pick.mono _ _ _ _
      | exact spec_l71Row.mono _ _ _
      | exact LeO.none _
      | refine LeO.ite ?_ ?_
      | refine LeO.bind ?_ (fun _ => ?_)
theorem spec_DrawTreeAhead.mono : ∀ a0 k, LeO (spec_DrawTreeAhead.f k a0) (spec_DrawTreeAhead.f (k + 1) a0) := by
  intro a0 k
  obtain ⟨ih0, ih1⟩ := spec_DrawTreeAhead.mono_l k
  unfold spec_DrawTreeAhead.f
  repeat' first
      | (with_reducible exact ih0 _ _ _ _ _)
      | (with_reducible exact ih1 _ _ _ _ _ _)
      | (with_reducible exact spec_TreeAhead.mono _ _ _)
      | (with_reducible exact spec_l6Rd_pick.mono _ _ _ _)
      | (with_reducible exact spec_l71Row.mono _ _ _)
      | (with_reducible exact LeO.refl _)
      | (with_reducible exact LeO.none _)
      | (with_reducible refine LeO.ite ?_ ?_)
      | (with_reducible refine LeO.bind ?_ (fun _ => ?_))
      | exact ih0 _ _ _ _ _
      | exact ih1 _ _ _ _ _ _
      | exact spec_TreeAhead.mono _ _ _
      | exact spec_l6Rd_pick.mono _ _ _ _
      | exact spec_l71Row.mono _ _ _
      | exact LeO.none _
      | refine LeO.ite ?_ ?_
      | refine LeO.bind ?_ (fun _ => ?_)
set_option maxHeartbeats 8000000 in
set_option maxRecDepth 100000 in
theorem spec_DrawTreeAhead.calls (k : Nat) (A0 : Option Addr) (c0 : Nat) (l0 : List Int) (r1 : List (S47)) (r2 : Int) (w : World) (hr0 : Kd.C (Kd.int .u8) w A0 l0.length l0) (hc0 : l0.length ≤ c0) (h : spec_DrawTreeAhead.f k l0 = some (r1, r2)) :
    Calls Tryd.prog 58 #[.slice A0 l0.length c0] w fun e w' => ∃ v0_ : Value, e = .returned (.tuple #[v0_, .int .i64 r2]) ∧ Kd.Q k47 47 w' w.heap.size (fun _ => True) v0_ r1 ∧ Below w.heap.size w w' := by
  have HR0 := Aside0.mk hr0
  have HC0 := Aside0.mk hc0
  clear hr0 hc0
  have HB := Aside0.mk (Below.refl w.heap.size w)
  have H : ((spec_l6Open.f l0).bind fun bt437 => ((spec_l71Row.f k bt437.1 bt437.2).bind fun bt440 => (spec_DrawTreeAhead.l0 k bt440.1 bt440.2.1 0 bt437.1 bt440.2.2))) = some (r1, r2) := h
  clear h
  replace H := Option.bind_eq_some_iff.mp H
  obtain ⟨⟨t437, t438⟩, A20, H⟩ := H
  (try dsimp only at H)
  have A2 := Aside0.mk A20
  clear A20
  replace H := Option.bind_eq_some_iff.mp H
  obtain ⟨⟨t440, t443, t444⟩, A30, H⟩ := H
  (try dsimp only at H)
  have A3 := Aside0.mk A30
  clear A30
  have H' := Aside0.mk H
  clear H
  go_enter Tryd.func58, Tryd.ntmps58
  go_wp2_with (first | ((with_reducible refine gate_callee (f := 82) rfl ?_); refine goesL_ (some 11) rfl rfl Tryd.func82 (by kernel_rfl) rfl #[.slice A0 l0.length c0] rfl argsA ?_; (with_reducible refine (spec_l6Open.calls _ _ l0 t437 t438 w _ ?side1 ?side2 ?side3 A2.out).mono ?_); (case side1 => exact belowA); (case side2 => exact HR0.out); (case side3 => exact HC0.out); rintro e w4 ⟨g439, rfl, hi, hb, hb2⟩; refine ⟨_, rfl, ?_⟩; have n0_ := Aside0.mk (hb); have n1_ := Aside0.mk (hi); clear HB; have HB := n0_; have HI439 := n1_; clear n0_ n1_; (try clear hb); (try clear hb2); (try clear hk); (try clear hi)) | ((with_reducible refine gate_callee (f := 85) rfl ?_); refine goesL_ (some 14) rfl rfl Tryd.func85 (by kernel_rfl) rfl #[.pointer (some ⟨g439, 0, none⟩)] rfl argsA ?_; (with_reducible refine (spec_l71Row.calls k g439 t437 t438 t440 t443 t444 w _ ?side1 ?side2 A3.out).mono ?_); (case side1 => exact stA); (case side2 => exact belowA); rintro e w5 ⟨v441, rfl, ho0, hi, hb, hk⟩; refine ⟨_, rfl, ?_⟩; have n0_ := Aside0.mk (Kd.Q_lower ho0 (below_size belowA)); have n1_ := Aside0.mk (hb); have n2_ := Aside0.mk (hi); clear HB; clear HI439; have HO442 := n0_; have HB := n1_; have HI439 := n2_; clear n0_ n1_ n2_; (try clear hb); (try clear hb2); (try clear hk); (try clear hi); (try clear ho0)))
  go_loopg [5, 6, 7] k (fun kq v5 v6 v7 w' => ∃ (x5_1 : List (S47)) (x6_1 : Int) (x7_1 : Int) (x440001_1 : Int), v6 = .int .i64 x6_1 ∧ v7 = .int .i64 x7_1 ∧ Aside0 (spec_DrawTreeAhead.l0 kq x5_1 x6_1 x7_1 t437 x440001_1 = some (r1, r2)) ∧ Aside0 (kq ≤ k) ∧ Aside0 (Kd.Q k47 47 w' w.heap.size (fun _ => True) v5 x5_1) ∧ Aside0 (IsS113 w w' g439 t437 x440001_1) ∧ Aside0 (Below w.heap.size w w'))
  case atStart => exact ⟨(t440), (t443), (0), (t444), (by first | rfl | (simp; done) | (simp [*]; done)), (by first | rfl | (simp; done) | (simp [*]; done)), H', ⟨Nat.le_refl _⟩, ⟨by (with_reducible repeat (first | apply Kd.Q_alloc | apply Kd.Q_drewN | apply Kd.Q_drew)); exact HO442.out⟩, ⟨stA⟩, ⟨belowA⟩⟩
  case round =>
    clear H'
    try clear p2
    try clear c5
    obtain ⟨x5_1, x6_1, x7_1, x440001_1, rfl, rfl, HA, HK1, HO_5, HI439, HB⟩ := hrel
    cases gk with
    | zero => exact absurd HA.out (by simp [spec_DrawTreeAhead.l0])
    | succ k1 =>
      have H := HA.out
      clear HA
      simp only [spec_DrawTreeAhead.l0] at H
      have HC6 := Aside0.mk H
      clear H
      go_upto_region 4 with (fail)
      go_cut [23] (fun v23 wc => ∃ (kq : Nat) (x23_5 : Bool) (x440001_5 : Int), v23 = .bool x23_5 ∧ Aside0 (spec_DrawTreeAhead.j1 kq x5_1 x6_1 x7_1 x23_5 t437 x440001_5 = some (r1, r2)) ∧ Aside0 (kq ≤ k1) ∧ Aside0 (Kd.Q k47 47 wc w.heap.size (fun _ => True) u5 x5_1) ∧ Aside0 (IsS113 w wc g439 t437 x440001_5) ∧ Aside0 (Below w.heap.size w wc))
      case first =>
        have H := HC6.out
        clear HC6
        by_cases c7 : x7_1 < 5
        · rw [if_pos c7] at H
          have c7b0 : decide (x7_1 < 5) = true := decide_eq_true c7
          clear c7
          (first | rw [c7b0] | (simp only [i64_w, i32_w]; rw [c7b0]) | skip)
          replace H := Option.bind_eq_some_iff.mp H
          obtain ⟨⟨t445, t446⟩, A80, H⟩ := H
          (try dsimp only at H)
          have A8 := Aside0.mk A80
          clear A80
          have H' := Aside0.mk H
          clear H
          go_wp2_with (first | (go_at_call 84; (with_reducible refine (spec_l6Rd_pick.calls k1 g439 t437 x440001_1 6 t445 t446 w _ ?side1 ?side2 A8.out).mono ?_); (case side1 => exact stA); (case side2 => exact belowA); rintro e w9 ⟨rfl, hi, hb, hk⟩; have n0_ := Aside0.mk (Kd.Q_mono (Kd.Q_keep (IsS113.apartQ (show IsS113 w _ g439 t437 x440001_1 from stA) (by (with_reducible repeat (first | apply Kd.Q_alloc | apply Kd.Q_drewN | apply Kd.Q_drew)); exact HO_5.out) (by decide)) hk (fun _ h => h.2)) (fun _ h => h.1)); have n1_ := Aside0.mk (hb); have n2_ := Aside0.mk (hi); clear HO_5; clear HB; clear HI439; have HO_5 := n0_; have HB := n1_; have HI439 := n2_; clear n0_ n1_ n2_; (try clear hb); (try clear hb2); (try clear hk); (try clear hi)))
          go_meet
          case rel => exact ⟨_, (decide (t445 > 0)), (t446), (by first | rfl | (simp; done) | (simp [*]; done)), H', ⟨by have := HK1.out; first | omega | exact Nat.le_refl _⟩, ⟨by (with_reducible repeat (first | apply Kd.Q_alloc | apply Kd.Q_drewN | apply Kd.Q_drew)); exact HO_5.out⟩, ⟨stA⟩, ⟨belowA⟩⟩
        · rw [if_neg c7] at H
          have c7b0 : decide (x7_1 < 5) = false := decide_eq_false c7
          clear c7
          (first | rw [c7b0] | (simp only [i64_w, i32_w]; rw [c7b0]) | skip)
          have H' := Aside0.mk H
          clear H
          go_wp2
          go_meet
          case rel => exact ⟨_, (false), (x440001_1), (by first | rfl | (simp; done) | (simp [*]; done)), H', ⟨by have := HK1.out; first | omega | exact Nat.le_refl _⟩, ⟨by (with_reducible repeat (first | apply Kd.Q_alloc | apply Kd.Q_drewN | apply Kd.Q_drew)); exact HO_5.out⟩, ⟨stA⟩, ⟨belowA⟩⟩
      case rest =>
        clear HC6
        try clear p2
        try clear c5
        try clear c7
        try clear c7b0
        try clear c8
        try clear p2
        obtain ⟨kq, x23_5, x440001_5, rfl, HA, HJ5, HO_5, HI439, HB⟩ := hcut
        cases kq with
        | zero => exact absurd HA.out (by simp [spec_DrawTreeAhead.j1])
        | succ kj5 =>
          have H := HA.out
          clear HA
          simp only [spec_DrawTreeAhead.j1] at H
          by_cases c10 : x23_5 = true
          · subst c10
            have H1 : ((spec_TreeAhead.f kj5 x5_1 x6_1).bind fun bt447 => (if bt447.1 > 0 then (some (x5_1, x6_1)) else ((spec_l71Row.f kj5 t437 x440001_5).bind fun bt449 => (spec_DrawTreeAhead.l0 kj5 bt449.1 bt449.2.1 (wrap64 (x7_1 + 1)) t437 bt449.2.2)))) = some (r1, r2) := by rw [if_pos rfl] at H; exact H
            clear H
            have H := H1
            clear H1
            replace H := Option.bind_eq_some_iff.mp H
            obtain ⟨⟨t447, t448⟩, A110, H⟩ := H
            (try dsimp only at H)
            have A11 := Aside0.mk A110
            clear A110
            by_cases c12 : t447 > 0
            · rw [if_pos c12] at H
              have c12b0 : decide (0 < t447) = true := decide_eq_true c12
              clear c12
              simp only [Option.some.injEq, Prod.mk.injEq] at H
              obtain ⟨rfl, rfl⟩ := H
              obtain ⟨Ao13, co13, eo13, _⟩ := Kd.Q_slice HO_5.out
              subst eo13
              go_wp2_with (first | ((with_reducible refine gate_callee (f := 31) rfl ?_); refine goesL_ (some 29) rfl rfl Tryd.func31 (by kernel_rfl) rfl #[.slice Ao13 x5_1.length co13, .int .i64 x6_1] rfl argsA ?_; (with_reducible refine (spec_TreeAhead.calls kj5 _ _ x5_1 x6_1 t447 t448 _ ?side1 ?side2 A11.out).mono ?_); (case side1 => repeat (first | exact (Kd.Q_reads' HO_5.out).2.2 | (with_reducible refine Kd.C_alloc ?_ _) | (with_reducible refine Kd.C_drewN ?_ _) | (with_reducible refine Kd.C_drew ?_))); (case side2 => exact (Kd.Q_reads' HO_5.out).2.1); rintro e w14 ⟨rfl, hb⟩; refine ⟨_, rfl, ?_⟩; have n0_ := Aside0.mk (Kd.Q_below (by (with_reducible repeat (first | apply Kd.Q_alloc | apply Kd.Q_drewN | apply Kd.Q_drew)); exact HO_5.out) hb); have n1_ := Aside0.mk (IsS113.below stA hb); have n2_ := Aside0.mk (below_step belowA hb); clear HO_5; clear HI439; clear HB; have HO_5 := n0_; have HI439 := n1_; have HB := n2_; clear n0_ n1_ n2_; (try clear hb); (try clear hb2); (try clear hk); (try clear hi)))
              go_ret2
              exact ⟨_, endA, by (with_reducible repeat (first | apply Kd.Q_alloc | apply Kd.Q_drewN | apply Kd.Q_drew)); exact HO_5.out, belowA⟩
            · rw [if_neg c12] at H
              have c12b0 : decide (0 < t447) = false := decide_eq_false c12
              clear c12
              replace H := Option.bind_eq_some_iff.mp H
              obtain ⟨⟨t449, t452, t453⟩, A150, H⟩ := H
              (try dsimp only at H)
              have A15 := Aside0.mk A150
              clear A150
              have H' := Aside0.mk H
              clear H
              obtain ⟨Ao16, co16, eo16, _⟩ := Kd.Q_slice HO_5.out
              subst eo16
              go_wp2_with (first | ((with_reducible refine gate_callee (f := 31) rfl ?_); refine goesL_ (some 29) rfl rfl Tryd.func31 (by kernel_rfl) rfl #[.slice Ao16 x5_1.length co16, .int .i64 x6_1] rfl argsA ?_; (with_reducible refine (spec_TreeAhead.calls kj5 _ _ x5_1 x6_1 t447 t448 _ ?side1 ?side2 A11.out).mono ?_); (case side1 => repeat (first | exact (Kd.Q_reads' HO_5.out).2.2 | (with_reducible refine Kd.C_alloc ?_ _) | (with_reducible refine Kd.C_drewN ?_ _) | (with_reducible refine Kd.C_drew ?_))); (case side2 => exact (Kd.Q_reads' HO_5.out).2.1); rintro e w17 ⟨rfl, hb⟩; refine ⟨_, rfl, ?_⟩; have n0_ := Aside0.mk (Kd.Q_below (by (with_reducible repeat (first | apply Kd.Q_alloc | apply Kd.Q_drewN | apply Kd.Q_drew)); exact HO_5.out) hb); have n1_ := Aside0.mk (IsS113.below stA hb); have n2_ := Aside0.mk (below_step belowA hb); clear HO_5; clear HI439; clear HB; have HO_5 := n0_; have HI439 := n1_; have HB := n2_; clear n0_ n1_ n2_; (try clear hb); (try clear hb2); (try clear hk); (try clear hi)) | ((with_reducible refine gate_callee (f := 85) rfl ?_); refine goesL_ (some 38) rfl rfl Tryd.func85 (by kernel_rfl) rfl #[.pointer (some ⟨g439, 0, none⟩)] rfl argsA ?_; (with_reducible refine (spec_l71Row.calls kj5 g439 t437 x440001_5 t449 t452 t453 w _ ?side1 ?side2 A15.out).mono ?_); (case side1 => exact stA); (case side2 => exact belowA); rintro e w18 ⟨v450, rfl, ho0, hi, hb, hk⟩; refine ⟨_, rfl, ?_⟩; have n0_ := Aside0.mk (Kd.Q_mono (Kd.Q_told (Kd.Q_oldK (IsS113.apartQ (show IsS113 w _ g439 t437 x440001_5 from stA) (by (with_reducible repeat (first | apply Kd.Q_alloc | apply Kd.Q_drewN | apply Kd.Q_drew)); exact HO_5.out) (by decide)) hk) (Kd.Q_base ho0)) (fun _ h_ => h_.1)); have n1_ := Aside0.mk (Kd.Q_lower (Kd.Q_new' ho0 (Kd.Q_lt (by (with_reducible repeat (first | apply Kd.Q_alloc | apply Kd.Q_drewN | apply Kd.Q_drew)); exact HO_5.out))) (below_size belowA)); have n2_ := Aside0.mk (hb); have n3_ := Aside0.mk (hi); clear HO_5; clear HB; clear HI439; have HO_5 := n0_; have HO451 := n1_; have HB := n2_; have HI439 := n3_; clear n0_ n1_ n2_ n3_; (try clear hb); (try clear hb2); (try clear hk); (try clear hi); (try clear ho0)))
              go_roundg kj5
              case measure => have := HK1.out; have := HJ5.out; omega
              case rel => exact ⟨(t449), (t452), (wrap64 (x7_1 + 1)), (t453), (by first | rfl | (simp; done) | (simp [*]; done)), (by first | rfl | (simp; done) | (simp [*]; done)), H', ⟨by have := HK1.out; have := HJ5.out; omega⟩, ⟨by (with_reducible repeat (first | apply Kd.Q_alloc | apply Kd.Q_drewN | apply Kd.Q_drew)); exact Kd.Q_mono HO451.out (fun _ hk => trivial)⟩, ⟨stA⟩, ⟨belowA⟩⟩
          · replace c10 := Bool.eq_false_iff.mpr c10
            subst c10
            have H1 : (some (x5_1, x6_1)) = some (r1, r2) := by rw [if_neg (show ¬ (false = true) by decide)] at H; exact H
            clear H
            have H := H1
            clear H1
            simp only [Option.some.injEq, Prod.mk.injEq] at H
            obtain ⟨rfl, rfl⟩ := H
            go_wp2
            go_ret2
            exact ⟨_, endA, by (with_reducible repeat (first | apply Kd.Q_alloc | apply Kd.Q_drewN | apply Kd.Q_drew)); exact HO_5.out, belowA⟩

end Go.Proofs.YtaajcbbbmpdcnaaDoor.P
