-- Written by wip/tools/pprint.py (a program of this session) over the kit's printer; not trusted: Lean checks it.
import Derived.Test.YtaajcbbbmpdcnaaDoorPx0
import Derived.Test.YtaajcbbbmpdcnaaDoorPx2
import Derived.Test.YtaajcbbbmpdcnaaDoorPx3
import Derived.Test.YtaajcbbbmpdcnaaDoorPx4
import Derived.Test.YtaajcbbbmpdcnaaDoorPx13
import Derived.Test.YtaajcbbbmpdcnaaDoorPx14
import Derived.Test.YtaajcbbbmpdcnaaDoorV
namespace Go.Proofs.YtaajcbbbmpdcnaaDoor.P
open Go.RowKit Go.Proofs.YtaajcbbbmpdcnaaDoorW.PrintWords Go.Proofs.YtaajcbbbmpdcnaaDoorW.PrintLast Go.Proofs.YtaajcbbbmpdcnaaDoorW.PrintMore
attribute [local go_sem] cell_set_set cell_set_far_set max2_int min2_int max_two min_two max_three min_three max_four min_four   -- for this text's walks alone
set_option linter.unusedVariables false
set_option linter.unusedSimpArgs false

/-! ### laws_FnTreeUnder: function 17 -/
def laws_FnTreeUnder.j0 : Nat → List (S47) → Int → Int → Bool → Bool → Option (Bool)
  | 0, _, _, _, _, _ => none
  | k + 1, x3, x4, x5, x6, x38 => if x38 = true then ((spec_TreeUnder.f k x3 x4 x5).bind fun t392 => (some (x6 == t392))) else ((impl_TreeUp.f x3 x4).bind fun bt393 => (if x4 = x5 then (some x6) else (if bt393.1 > 0 then ((impl_TreeUnder.f x3 bt393.1 x5).bind fun t395 => (some (x6 == t395))) else (some (x6 == false)))))
def laws_FnTreeUnder.f (k : Nat) (l0 : List Int) : Option (Bool) := if (l0.length : Int) > 1048576 then (some true) else ((spec_DrawTreeUnder.f k l0).bind fun bt383 => ((impl_TreeUnder.f bt383.1 bt383.2.1 bt383.2.2).bind fun t388 => ((spec_TreeUnder.f k bt383.1 bt383.2.1 bt383.2.2).bind fun t389 => (if (t388 != t389) = true then (laws_FnTreeUnder.j0 k bt383.1 bt383.2.1 bt383.2.2 t388 true) else ((spec_TreeOk.f k bt383.1).bind fun t390 => (if t390 = true then ((laws_lpAt.f k bt383.1 bt383.2.1).bind fun t391 => (laws_FnTreeUnder.j0 k bt383.1 bt383.2.1 bt383.2.2 t388 (decide (t391 < 0)))) else (laws_FnTreeUnder.j0 k bt383.1 bt383.2.1 bt383.2.2 t388 true)))))))
theorem laws_FnTreeUnder.mono_l : ∀ k, (∀ y0 y1 y2 y3 y4, LeO (laws_FnTreeUnder.j0 k y0 y1 y2 y3 y4) (laws_FnTreeUnder.j0 (k + 1) y0 y1 y2 y3 y4))
  | 0 => fun _ _ _ _ _ r h => by simp [laws_FnTreeUnder.j0] at h
  | k + 1 => by
    have ih0 := laws_FnTreeUnder.mono_l k
    · intro y0 y1 y2 y3 y4
      unfold laws_FnTreeUnder.j0
      repeat' first
      | (with_reducible exact ih0 _ _ _ _ _)
      | (with_reducible exact laws_lpAt.mono _ _ _)
      | (with_reducible exact spec_DrawTreeUnder.mono _ _)
      | (with_reducible exact spec_TreeOk.mono _ _)
      | (with_reducible exact spec_TreeUnder.mono _ _ _ _)
      | (with_reducible exact LeO.refl _)
      | (with_reducible exact LeO.none _)
      | (with_reducible refine LeO.ite ?_ ?_)
      | (with_reducible refine LeO.bind ?_ (fun _ => ?_))
      | exact ih0 _ _ _ _ _
      | exact laws_lpAt.mono _ _ _
      | exact spec_DrawTreeUnder.mono _ _
      | exact spec_TreeOk.mono _ _
      | exact spec_TreeUnder.mono _ _ _ _
      | exact LeO.none _
      | refine LeO.ite ?_ ?_
      | refine LeO.bind ?_ (fun _ => ?_)
theorem laws_FnTreeUnder.mono : ∀ a0 k, LeO (laws_FnTreeUnder.f k a0) (laws_FnTreeUnder.f (k + 1) a0) := by
  intro a0 k
  have ih0 := laws_FnTreeUnder.mono_l k
  unfold laws_FnTreeUnder.f
  repeat' first
      | (with_reducible exact ih0 _ _ _ _ _)
      | (with_reducible exact laws_lpAt.mono _ _ _)
      | (with_reducible exact spec_DrawTreeUnder.mono _ _)
      | (with_reducible exact spec_TreeOk.mono _ _)
      | (with_reducible exact spec_TreeUnder.mono _ _ _ _)
      | (with_reducible exact LeO.refl _)
      | (with_reducible exact LeO.none _)
      | (with_reducible refine LeO.ite ?_ ?_)
      | (with_reducible refine LeO.bind ?_ (fun _ => ?_))
      | exact ih0 _ _ _ _ _
      | exact laws_lpAt.mono _ _ _
      | exact spec_DrawTreeUnder.mono _ _
      | exact spec_TreeOk.mono _ _
      | exact spec_TreeUnder.mono _ _ _ _
      | exact LeO.none _
      | refine LeO.ite ?_ ?_
      | refine LeO.bind ?_ (fun _ => ?_)
set_option maxHeartbeats 8000000 in
set_option maxRecDepth 100000 in
theorem laws_FnTreeUnder.calls (k : Nat) (A0 : Option Addr) (c0 : Nat) (l0 : List Int) (r : Bool) (w : World) (hr0 : Kd.C (Kd.int .u8) w A0 l0.length l0) (hc0 : l0.length ≤ c0) (ht : TabOk w) (h : laws_FnTreeUnder.f k l0 = some r) :
    Calls Tryd.prog 17 #[.slice A0 l0.length c0] w fun e w' => e = .returned (.bool r) ∧ Below w.heap.size w w' := by
  have HR0 := Aside0.mk hr0
  have HC0 := Aside0.mk hc0
  clear hr0 hc0
  have HT := Aside0.mk ht
  clear ht
  have HB := Aside0.mk (Below.refl w.heap.size w)
  have H : (if (l0.length : Int) > 1048576 then (some true) else ((spec_DrawTreeUnder.f k l0).bind fun bt383 => ((impl_TreeUnder.f bt383.1 bt383.2.1 bt383.2.2).bind fun t388 => ((spec_TreeUnder.f k bt383.1 bt383.2.1 bt383.2.2).bind fun t389 => (if (t388 != t389) = true then (laws_FnTreeUnder.j0 k bt383.1 bt383.2.1 bt383.2.2 t388 true) else ((spec_TreeOk.f k bt383.1).bind fun t390 => (if t390 = true then ((laws_lpAt.f k bt383.1 bt383.2.1).bind fun t391 => (laws_FnTreeUnder.j0 k bt383.1 bt383.2.1 bt383.2.2 t388 (decide (t391 < 0)))) else (laws_FnTreeUnder.j0 k bt383.1 bt383.2.1 bt383.2.2 t388 true)))))))) = some r := h
  clear h
  by_cases c2 : (l0.length : Int) > 1048576
  · rw [if_pos c2] at H
    have c2b0 : decide (1048576 < (l0.length : Int)) = true := decide_eq_true c2
    have c2b1 : decide (1048576 < l0.length) = true := decide_eq_true (by omega)
    clear c2
    obtain rfl := Option.some.inj H
    go_enter Tryd.func17, Tryd.ntmps17
    go_wp2
    go_ret
    exact ⟨endA, belowA⟩
  · rw [if_neg c2] at H
    have c2b0 : decide (1048576 < (l0.length : Int)) = false := decide_eq_false c2
    have c2b1 : decide (1048576 < l0.length) = false := decide_eq_false (by omega)
    clear c2
    replace H := Option.bind_eq_some_iff.mp H
    obtain ⟨⟨t383, t384, t385⟩, A30, H⟩ := H
    (try dsimp only at H)
    have A3 := Aside0.mk A30
    clear A30
    replace H := Option.bind_eq_some_iff.mp H
    obtain ⟨t388, A40, H⟩ := H
    (try dsimp only at H)
    have A4 := Aside0.mk A40
    clear A40
    have HC5 := Aside0.mk H
    clear H
    go_enter Tryd.func17, Tryd.ntmps17
    go_upto_region 5 with (first | ((with_reducible refine gate_callee (f := 48) rfl ?_); refine goesL_ (some 14) rfl rfl Tryd.func48 (by kernel_rfl) rfl #[.slice A0 l0.length c0] rfl argsA ?_; (with_reducible refine (spec_DrawTreeUnder.calls k _ _ l0 t383 t384 t385 _ ?side1 ?side2 A3.out).mono ?_); (case side1 => repeat (first | exact HR0.out | (with_reducible refine Kd.C_alloc ?_ _) | (with_reducible refine Kd.C_drewN ?_ _) | (with_reducible refine Kd.C_drew ?_))); (case side2 => exact HC0.out); rintro e w6 ⟨v386, rfl, ho0, hb⟩; refine ⟨_, rfl, ?_⟩; have n0_ := Aside0.mk (Kd.Q_lower ho0 (below_size belowA)); have n1_ := Aside0.mk (below_step belowA hb); clear HB; have HO387 := n0_; have HB := n1_; clear n0_ n1_; (try clear hb); (try clear hb2); (try clear hk); (try clear hi); (try clear ho0); obtain ⟨Ao7, co7, eo7, _⟩ := Kd.Q_slice HO387.out; subst eo7) | ((with_reducible refine gate_callee (f := 28) rfl ?_); refine goesL_ (some 21) rfl rfl Tryd.func28 (by kernel_rfl) rfl #[.slice Ao7 t383.length co7, .int .i64 t384, .int .i64 t385] rfl argsA ?_; (with_reducible refine (impl_TreeUnder.calls _ _ t383 t384 t385 t388 _ ?side1 ?side2 ?side3 A4.out).mono ?_); (case side1 => repeat (first | exact (Kd.Q_reads' HO387.out).2.2 | (with_reducible refine Kd.C_alloc ?_ _) | (with_reducible refine Kd.C_drewN ?_ _) | (with_reducible refine Kd.C_drew ?_))); (case side2 => exact (Kd.Q_reads' HO387.out).2.1); (case side3 => exact TabOk.below HT.out belowA); rintro e w8 ⟨rfl, hb⟩; refine ⟨_, rfl, ?_⟩; have n0_ := Aside0.mk (Kd.Q_below (by (with_reducible repeat (first | apply Kd.Q_alloc | apply Kd.Q_drewN | apply Kd.Q_drew)); exact HO387.out) hb); have n1_ := Aside0.mk (below_step belowA hb); clear HO387; clear HB; have HO387 := n0_; have HB := n1_; clear n0_ n1_; (try clear hb); (try clear hb2); (try clear hk); (try clear hi)))
    (try simp only [Act.put, List.setIfInBounds_toArray, List.set_cons_zero, List.set_cons_succ])
    go_cut [38] (fun v38 wc => ∃ (kq : Nat) (x38_4 : Bool), v38 = .bool x38_4 ∧ Aside0 (laws_FnTreeUnder.j0 kq t383 t384 t385 t388 x38_4 = some r) ∧ Aside0 (kq ≤ k) ∧ Aside0 (Kd.Q k47 47 wc w.heap.size (fun _ => True) (.slice Ao7 t383.length co7) t383) ∧ Aside0 (Below w.heap.size w wc))
    case first =>
      have H := HC5.out
      clear HC5
      replace H := Option.bind_eq_some_iff.mp H
      obtain ⟨t389, A90, H⟩ := H
      (try dsimp only at H)
      have A9 := Aside0.mk A90
      clear A90
      by_cases c10 : (t388 != t389) = true
      · rw [if_pos c10] at H
        have c10b0 : (t388 != t389) = true := c10
        (try (have c10b1 : decide (t388 = t389) = false := by simpa using c10))
        (try (have c10b2 : (t388 == t389) = false := by simpa using c10))
        (try (have c10b3 : ¬ (t388 = t389) := by simpa using c10))
        clear c10
        (first | rw [c10b0] | (simp only [i64_w, i32_w]; rw [c10b0]) | skip)
        have H' := Aside0.mk H
        clear H
        go_wp2_with (first | ((with_reducible refine gate_callee (f := 27) rfl ?_); refine goesL_ (some 26) rfl rfl Tryd.func27 (by kernel_rfl) rfl #[.slice Ao7 t383.length co7, .int .i64 t384, .int .i64 t385] rfl argsA ?_; (with_reducible refine (spec_TreeUnder.calls k _ _ t383 t384 t385 t389 _ ?side1 ?side2 A9.out).mono ?_); (case side1 => repeat (first | exact (Kd.Q_reads' HO387.out).2.2 | (with_reducible refine Kd.C_alloc ?_ _) | (with_reducible refine Kd.C_drewN ?_ _) | (with_reducible refine Kd.C_drew ?_))); (case side2 => exact (Kd.Q_reads' HO387.out).2.1); rintro e w11 ⟨rfl, hb⟩; refine ⟨_, rfl, ?_⟩; have n0_ := Aside0.mk (Kd.Q_below (by (with_reducible repeat (first | apply Kd.Q_alloc | apply Kd.Q_drewN | apply Kd.Q_drew)); exact HO387.out) hb); have n1_ := Aside0.mk (below_step belowA hb); clear HO387; clear HB; have HO387 := n0_; have HB := n1_; clear n0_ n1_; (try clear hb); (try clear hb2); (try clear hk); (try clear hi)))
        go_meet
        case rel => exact ⟨_, (true), (by first | rfl | (simp; done) | (simp [*]; done)), H', ⟨by first | omega | exact Nat.le_refl _⟩, ⟨by (with_reducible repeat (first | apply Kd.Q_alloc | apply Kd.Q_drewN | apply Kd.Q_drew)); exact HO387.out⟩, ⟨belowA⟩⟩
      · rw [if_neg c10] at H
        have c10b0 : (t388 != t389) = false := by simpa using c10
        (try (have c10b1 : decide (t388 = t389) = true := by simpa using c10))
        (try (have c10b2 : (t388 == t389) = true := by simpa using c10))
        clear c10
        (first | rw [c10b0] | (simp only [i64_w, i32_w]; rw [c10b0]) | skip)
        replace H := Option.bind_eq_some_iff.mp H
        obtain ⟨t390, A120, H⟩ := H
        (try dsimp only at H)
        have A12 := Aside0.mk A120
        clear A120
        by_cases c13 : t390 = true
        · subst c13
          have H1 : ((laws_lpAt.f k t383 t384).bind fun t391 => (laws_FnTreeUnder.j0 k t383 t384 t385 t388 (decide (t391 < 0)))) = some r := by rw [if_pos rfl] at H; exact H
          clear H
          have H := H1
          clear H1
          replace H := Option.bind_eq_some_iff.mp H
          obtain ⟨t391, A140, H⟩ := H
          (try dsimp only at H)
          have A14 := Aside0.mk A140
          clear A140
          have H' := Aside0.mk H
          clear H
          go_wp2_with (first | ((with_reducible refine gate_callee (f := 27) rfl ?_); refine goesL_ (some 26) rfl rfl Tryd.func27 (by kernel_rfl) rfl #[.slice Ao7 t383.length co7, .int .i64 t384, .int .i64 t385] rfl argsA ?_; (with_reducible refine (spec_TreeUnder.calls k _ _ t383 t384 t385 t389 _ ?side1 ?side2 A9.out).mono ?_); (case side1 => repeat (first | exact (Kd.Q_reads' HO387.out).2.2 | (with_reducible refine Kd.C_alloc ?_ _) | (with_reducible refine Kd.C_drewN ?_ _) | (with_reducible refine Kd.C_drew ?_))); (case side2 => exact (Kd.Q_reads' HO387.out).2.1); rintro e w15 ⟨rfl, hb⟩; refine ⟨_, rfl, ?_⟩; have n0_ := Aside0.mk (Kd.Q_below (by (with_reducible repeat (first | apply Kd.Q_alloc | apply Kd.Q_drewN | apply Kd.Q_drew)); exact HO387.out) hb); have n1_ := Aside0.mk (below_step belowA hb); clear HO387; clear HB; have HO387 := n0_; have HB := n1_; clear n0_ n1_; (try clear hb); (try clear hb2); (try clear hk); (try clear hi)) | (go_at_call 23; (with_reducible refine (spec_TreeOk.calls k _ _ t383 true _ ?side1 ?side2 A12.out).mono ?_); (case side1 => repeat (first | exact (Kd.Q_reads' HO387.out).2.2 | (with_reducible refine Kd.C_alloc ?_ _) | (with_reducible refine Kd.C_drewN ?_ _) | (with_reducible refine Kd.C_drew ?_))); (case side2 => exact (Kd.Q_reads' HO387.out).2.1); rintro e w16 ⟨rfl, hb⟩; have n0_ := Aside0.mk (Kd.Q_below (by (with_reducible repeat (first | apply Kd.Q_alloc | apply Kd.Q_drewN | apply Kd.Q_drew)); exact HO387.out) hb); have n1_ := Aside0.mk (below_step belowA hb); clear HO387; clear HB; have HO387 := n0_; have HB := n1_; clear n0_ n1_; (try clear hb); (try clear hb2); (try clear hk); (try clear hi)) | (go_at_call 43; (with_reducible refine (laws_lpAt.calls k _ _ t383 t384 t391 _ ?side1 ?side2 A14.out).mono ?_); (case side1 => repeat (first | exact (Kd.Q_reads' HO387.out).2.2 | (with_reducible refine Kd.C_alloc ?_ _) | (with_reducible refine Kd.C_drewN ?_ _) | (with_reducible refine Kd.C_drew ?_))); (case side2 => exact (Kd.Q_reads' HO387.out).2.1); rintro e w' ⟨rfl, ⟨nd, rfl⟩⟩))
          go_meet
          case rel => exact ⟨_, (decide (t391 < 0)), (by first | rfl | (simp; done) | (simp [*]; done)), H', ⟨by first | omega | exact Nat.le_refl _⟩, ⟨by (with_reducible repeat (first | apply Kd.Q_alloc | apply Kd.Q_drewN | apply Kd.Q_drew)); exact HO387.out⟩, ⟨belowA⟩⟩
        · replace c13 := Bool.eq_false_iff.mpr c13
          subst c13
          have H1 : (laws_FnTreeUnder.j0 k t383 t384 t385 t388 true) = some r := by rw [if_neg (show ¬ (false = true) by decide)] at H; exact H
          clear H
          have H := H1
          clear H1
          have H' := Aside0.mk H
          clear H
          go_wp2_with (first | ((with_reducible refine gate_callee (f := 27) rfl ?_); refine goesL_ (some 26) rfl rfl Tryd.func27 (by kernel_rfl) rfl #[.slice Ao7 t383.length co7, .int .i64 t384, .int .i64 t385] rfl argsA ?_; (with_reducible refine (spec_TreeUnder.calls k _ _ t383 t384 t385 t389 _ ?side1 ?side2 A9.out).mono ?_); (case side1 => repeat (first | exact (Kd.Q_reads' HO387.out).2.2 | (with_reducible refine Kd.C_alloc ?_ _) | (with_reducible refine Kd.C_drewN ?_ _) | (with_reducible refine Kd.C_drew ?_))); (case side2 => exact (Kd.Q_reads' HO387.out).2.1); rintro e w17 ⟨rfl, hb⟩; refine ⟨_, rfl, ?_⟩; have n0_ := Aside0.mk (Kd.Q_below (by (with_reducible repeat (first | apply Kd.Q_alloc | apply Kd.Q_drewN | apply Kd.Q_drew)); exact HO387.out) hb); have n1_ := Aside0.mk (below_step belowA hb); clear HO387; clear HB; have HO387 := n0_; have HB := n1_; clear n0_ n1_; (try clear hb); (try clear hb2); (try clear hk); (try clear hi)) | (go_at_call 23; (with_reducible refine (spec_TreeOk.calls k _ _ t383 false _ ?side1 ?side2 A12.out).mono ?_); (case side1 => repeat (first | exact (Kd.Q_reads' HO387.out).2.2 | (with_reducible refine Kd.C_alloc ?_ _) | (with_reducible refine Kd.C_drewN ?_ _) | (with_reducible refine Kd.C_drew ?_))); (case side2 => exact (Kd.Q_reads' HO387.out).2.1); rintro e w18 ⟨rfl, hb⟩; have n0_ := Aside0.mk (Kd.Q_below (by (with_reducible repeat (first | apply Kd.Q_alloc | apply Kd.Q_drewN | apply Kd.Q_drew)); exact HO387.out) hb); have n1_ := Aside0.mk (below_step belowA hb); clear HO387; clear HB; have HO387 := n0_; have HB := n1_; clear n0_ n1_; (try clear hb); (try clear hb2); (try clear hk); (try clear hi)))
          go_meet
          case rel => exact ⟨_, (true), (by first | rfl | (simp; done) | (simp [*]; done)), H', ⟨by first | omega | exact Nat.le_refl _⟩, ⟨by (with_reducible repeat (first | apply Kd.Q_alloc | apply Kd.Q_drewN | apply Kd.Q_drew)); exact HO387.out⟩, ⟨belowA⟩⟩
    case rest =>
      clear HC5
      try clear c1
      try clear c2
      try clear c2b0
      try clear c2b1
      try clear p2
      try clear c4
      try clear c10
      try clear c10b0
      try clear c10b1
      try clear c10b2
      try clear c13
      try clear c17
      obtain ⟨kq, x38_4, rfl, HA, HJ4, HO_3, HB⟩ := hcut
      cases kq with
      | zero => exact absurd HA.out (by simp [laws_FnTreeUnder.j0])
      | succ kj4 =>
        have H := HA.out
        clear HA
        simp only [laws_FnTreeUnder.j0] at H
        by_cases c19 : x38_4 = true
        · subst c19
          have H1 : ((spec_TreeUnder.f kj4 t383 t384 t385).bind fun t392 => (some (t388 == t392))) = some r := by rw [if_pos rfl] at H; exact H
          clear H
          have H := H1
          clear H1
          replace H := Option.bind_eq_some_iff.mp H
          obtain ⟨t392, A200, H⟩ := H
          (try dsimp only at H)
          have A20 := Aside0.mk A200
          clear A200
          obtain rfl := Option.some.inj H
          go_wp2_with (first | ((with_reducible refine gate_callee (f := 27) rfl ?_); refine goesL_ (some 43) rfl rfl Tryd.func27 (by kernel_rfl) rfl #[.slice Ao7 t383.length co7, .int .i64 t384, .int .i64 t385] rfl argsA ?_; (with_reducible refine (spec_TreeUnder.calls kj4 _ _ t383 t384 t385 t392 _ ?side1 ?side2 A20.out).mono ?_); (case side1 => repeat (first | exact (Kd.Q_reads' HO_3.out).2.2 | (with_reducible refine Kd.C_alloc ?_ _) | (with_reducible refine Kd.C_drewN ?_ _) | (with_reducible refine Kd.C_drew ?_))); (case side2 => exact (Kd.Q_reads' HO_3.out).2.1); rintro e w21 ⟨rfl, hb⟩; refine ⟨_, rfl, ?_⟩; have n0_ := Aside0.mk (Kd.Q_below (by (with_reducible repeat (first | apply Kd.Q_alloc | apply Kd.Q_drewN | apply Kd.Q_drew)); exact HO_3.out) hb); have n1_ := Aside0.mk (below_step belowA hb); clear HO_3; clear HB; have HO_3 := n0_; have HB := n1_; clear n0_ n1_; (try clear hb); (try clear hb2); (try clear hk); (try clear hi)))
          go_ret
          exact ⟨endA, belowA⟩
        · replace c19 := Bool.eq_false_iff.mpr c19
          subst c19
          have H1 : ((impl_TreeUp.f t383 t384).bind fun bt393 => (if t384 = t385 then (some t388) else (if bt393.1 > 0 then ((impl_TreeUnder.f t383 bt393.1 t385).bind fun t395 => (some (t388 == t395))) else (some (t388 == false))))) = some r := by rw [if_neg (show ¬ (false = true) by decide)] at H; exact H
          clear H
          have H := H1
          clear H1
          replace H := Option.bind_eq_some_iff.mp H
          obtain ⟨⟨t393, t394⟩, A220, H⟩ := H
          (try dsimp only at H)
          have A22 := Aside0.mk A220
          clear A220
          by_cases c23 : t384 = t385
          · rw [if_pos c23] at H
            have c23b0 : (t384 == t385) = true := beq_iff_eq.mpr c23
            have c23b1 : (t384 != t385) = false := bne_eq_false_iff_eq.mpr c23
            clear c23
            obtain rfl := Option.some.inj H
            go_wp2_with (first | ((with_reducible refine gate_callee (f := 30) rfl ?_); refine goesL_ (some 48) rfl rfl Tryd.func30 (by kernel_rfl) rfl #[.slice Ao7 t383.length co7, .int .i64 t384] rfl argsA ?_; (with_reducible refine (impl_TreeUp.calls _ _ t383 t384 t393 t394 _ ?side1 ?side2 ?side3 A22.out).mono ?_); (case side1 => repeat (first | exact (Kd.Q_reads' HO_3.out).2.2 | (with_reducible refine Kd.C_alloc ?_ _) | (with_reducible refine Kd.C_drewN ?_ _) | (with_reducible refine Kd.C_drew ?_))); (case side2 => exact (Kd.Q_reads' HO_3.out).2.1); (case side3 => exact TabOk.below HT.out belowA); rintro e w24 ⟨rfl, hb⟩; refine ⟨_, rfl, ?_⟩; have n0_ := Aside0.mk (Kd.Q_below (by (with_reducible repeat (first | apply Kd.Q_alloc | apply Kd.Q_drewN | apply Kd.Q_drew)); exact HO_3.out) hb); have n1_ := Aside0.mk (below_step belowA hb); clear HO_3; clear HB; have HO_3 := n0_; have HB := n1_; clear n0_ n1_; (try clear hb); (try clear hb2); (try clear hk); (try clear hi)))
            go_ret
            exact ⟨endA, belowA⟩
          · rw [if_neg c23] at H
            have c23b0 : (t384 == t385) = false := beq_eq_false_iff_ne.mpr c23
            have c23b1 : (t384 != t385) = true := bne_iff_ne.mpr c23
            by_cases c25 : t393 > 0
            · rw [if_pos c25] at H
              have c25b0 : decide (0 < t393) = true := decide_eq_true c25
              clear c25
              replace H := Option.bind_eq_some_iff.mp H
              obtain ⟨t395, A260, H⟩ := H
              (try dsimp only at H)
              have A26 := Aside0.mk A260
              clear A260
              obtain rfl := Option.some.inj H
              go_wp2_with (first | ((with_reducible refine gate_callee (f := 30) rfl ?_); refine goesL_ (some 48) rfl rfl Tryd.func30 (by kernel_rfl) rfl #[.slice Ao7 t383.length co7, .int .i64 t384] rfl argsA ?_; (with_reducible refine (impl_TreeUp.calls _ _ t383 t384 t393 t394 _ ?side1 ?side2 ?side3 A22.out).mono ?_); (case side1 => repeat (first | exact (Kd.Q_reads' HO_3.out).2.2 | (with_reducible refine Kd.C_alloc ?_ _) | (with_reducible refine Kd.C_drewN ?_ _) | (with_reducible refine Kd.C_drew ?_))); (case side2 => exact (Kd.Q_reads' HO_3.out).2.1); (case side3 => exact TabOk.below HT.out belowA); rintro e w27 ⟨rfl, hb⟩; refine ⟨_, rfl, ?_⟩; have n0_ := Aside0.mk (Kd.Q_below (by (with_reducible repeat (first | apply Kd.Q_alloc | apply Kd.Q_drewN | apply Kd.Q_drew)); exact HO_3.out) hb); have n1_ := Aside0.mk (below_step belowA hb); clear HO_3; clear HB; have HO_3 := n0_; have HB := n1_; clear n0_ n1_; (try clear hb); (try clear hb2); (try clear hk); (try clear hi)) | (go_at_call 28; (with_reducible refine (impl_TreeUnder.calls _ _ t383 t393 t385 t395 _ ?side1 ?side2 ?side3 A26.out).mono ?_); (case side1 => repeat (first | exact (Kd.Q_reads' HO_3.out).2.2 | (with_reducible refine Kd.C_alloc ?_ _) | (with_reducible refine Kd.C_drewN ?_ _) | (with_reducible refine Kd.C_drew ?_))); (case side2 => exact (Kd.Q_reads' HO_3.out).2.1); (case side3 => exact TabOk.below HT.out belowA); rintro e w28 ⟨rfl, hb⟩; have n0_ := Aside0.mk (Kd.Q_below (by (with_reducible repeat (first | apply Kd.Q_alloc | apply Kd.Q_drewN | apply Kd.Q_drew)); exact HO_3.out) hb); have n1_ := Aside0.mk (below_step belowA hb); clear HO_3; clear HB; have HO_3 := n0_; have HB := n1_; clear n0_ n1_; (try clear hb); (try clear hb2); (try clear hk); (try clear hi)))
              go_ret
              exact ⟨endA, belowA⟩
            · rw [if_neg c25] at H
              have c25b0 : decide (0 < t393) = false := decide_eq_false c25
              clear c25
              obtain rfl := Option.some.inj H
              go_wp2_with (first | ((with_reducible refine gate_callee (f := 30) rfl ?_); refine goesL_ (some 48) rfl rfl Tryd.func30 (by kernel_rfl) rfl #[.slice Ao7 t383.length co7, .int .i64 t384] rfl argsA ?_; (with_reducible refine (impl_TreeUp.calls _ _ t383 t384 t393 t394 _ ?side1 ?side2 ?side3 A22.out).mono ?_); (case side1 => repeat (first | exact (Kd.Q_reads' HO_3.out).2.2 | (with_reducible refine Kd.C_alloc ?_ _) | (with_reducible refine Kd.C_drewN ?_ _) | (with_reducible refine Kd.C_drew ?_))); (case side2 => exact (Kd.Q_reads' HO_3.out).2.1); (case side3 => exact TabOk.below HT.out belowA); rintro e w29 ⟨rfl, hb⟩; refine ⟨_, rfl, ?_⟩; have n0_ := Aside0.mk (Kd.Q_below (by (with_reducible repeat (first | apply Kd.Q_alloc | apply Kd.Q_drewN | apply Kd.Q_drew)); exact HO_3.out) hb); have n1_ := Aside0.mk (below_step belowA hb); clear HO_3; clear HB; have HO_3 := n0_; have HB := n1_; clear n0_ n1_; (try clear hb); (try clear hb2); (try clear hk); (try clear hi)))
              go_ret
              exact ⟨endA, belowA⟩
def laws_FnTreeUnder.Pure : Prop := ∀ (l0 : List Int), (l0.length * 1 ≤ 140737488351232) → (∀ x_ ∈ l0, (Lit.int .u8 x_).wf = true) → ∃ k, laws_FnTreeUnder.f k l0 = some true
theorem laws_FnTreeUnder.walk (P : laws_FnTreeUnder.Pure) (A0 : Option Addr) (c0 : Nat) (l0 : List Int) (w : World) (hr0 : Kd.C (Kd.int .u8) w A0 l0.length l0) (hc0 : l0.length ≤ c0) (ht : TabOk w) (w0_0 : l0.length * 1 ≤ 140737488351232) (w0_1 : ∀ x_ ∈ l0, (Lit.int .u8 x_).wf = true) :
    Calls Tryd.prog 17 #[.slice A0 l0.length c0] w fun e w' => e = .returned (.bool true) ∧ Below w.heap.size w w' := by
  obtain ⟨k, h⟩ := P l0 w0_0 w0_1
  refine (laws_FnTreeUnder.calls k A0 c0 l0 true w hr0 hc0 ht h).mono ?_
  rintro e w' ⟨rfl, hd⟩
  exact ⟨rfl, hd⟩

end Go.Proofs.YtaajcbbbmpdcnaaDoor.P
