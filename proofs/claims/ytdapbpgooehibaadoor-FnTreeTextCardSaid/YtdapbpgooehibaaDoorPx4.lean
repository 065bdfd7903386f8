-- Written by wip/tools/pprint.py (a program of this session) over the kit's printer; not trusted: Lean checks it.
import Derived.Test.YtdapbpgooehibaaDoorPx0
import Derived.Test.YtdapbpgooehibaaDoorPx2
import Derived.Test.YtdapbpgooehibaaDoorPx3
import Derived.Test.YtdapbpgooehibaaDoorV
namespace Go.Proofs.YtdapbpgooehibaaDoor.P
open Go.RowKit Go.Proofs.YtdapbpgooehibaaDoorW.PrintWords Go.Proofs.YtdapbpgooehibaaDoorW.PrintLast Go.Proofs.YtdapbpgooehibaaDoorW.PrintMore
attribute [local go_sem] cell_set_set cell_set_far_set max2_int min2_int max_two min_two max_three min_three max_four min_four   -- for this text's walks alone
set_option linter.unusedVariables false
set_option linter.unusedSimpArgs false

/-! ### spec_l3Put: function 83 -/
mutual
def spec_l3Put.j0 : Nat → List (S29) → List (S29) → Int → Int → Option ((List (S29)))
  | 0, _, _, _, _ => none
  | k + 1, x0, x1, x10, x11 => (some (([] : List (S29)) : List (S29))).bind fun y158 => (if 0 ≤ x11 then (if x11 ≤ (x0.length : Int) then ((some (x0.take (x11 : Int).toNat : List (S29))).bind fun y161 => (if y158.length + y161.length < 4398046511104 then (spec_l3Put.l0 k x0 x1 x10 x11 (y158 ++ y161) 0) else (none))) else (none)) else (none))
def spec_l3Put.l0 : Nat → List (S29) → List (S29) → Int → Int → List (S29) → Int → Option ((List (S29)))
  | 0, _, _, _, _, _, _ => none
  | k + 1, x0, x1, x10, x11, x12, x13 => if x13 < (x1.length : Int) then (if 0 ≤ x13 then (if x12.length < 4398046511104 then (spec_l3Put.l0 k x0 x1 x10 x11 (x12 ++ [(⟨(rd_T29 x1 x13).f0, wrap64 (((rd_T29 x1 x13).f1) + x10), (rd_T29 x1 x13).f2⟩ : S29)]) (wrap64 (x13 + 1))) else (none)) else (none)) else (if 0 ≤ x11 then (if x11 ≤ (x0.length : Int) then ((some (x0.drop (x11 : Int).toNat : List (S29))).bind fun y173 => (if x12.length + y173.length < 4398046511104 then (some (x12 ++ y173)) else (none))) else (none)) else (none))
end
def spec_l3Put.f (k : Nat) (l0 : List (S29)) (l1 : List (S29)) (a2 : Int) (a3 : Int) : Option ((List (S29))) := (spec_l2At.f k l0 a2).bind fun t153 => (if 0 ≤ t153 then (if t153 < (l0.length : Int) then (if 0 < (l1.length : Int) then (if a3 > 0 then ((spec_l2At.f k l0 a3).bind fun t156 => ((spec_l2End.f k l0 t156).bind fun t157 => (spec_l3Put.j0 k l0 l1 (wrap64 ((wrap64 (((rd_T29 l0 t153).f1) + 1)) - ((rd_T29 l1 0).f1))) t157))) else (spec_l3Put.j0 k l0 l1 (wrap64 ((wrap64 (((rd_T29 l0 t153).f1) + 1)) - ((rd_T29 l1 0).f1))) (wrap64 (t153 + 1)))) else (none)) else (none)) else (none))
theorem spec_l3Put.mono_l : ∀ k, (∀ y0 y1 y2 y3, LeO (spec_l3Put.j0 k y0 y1 y2 y3) (spec_l3Put.j0 (k + 1) y0 y1 y2 y3)) ∧ (∀ y0 y1 y2 y3 y4 y5, LeO (spec_l3Put.l0 k y0 y1 y2 y3 y4 y5) (spec_l3Put.l0 (k + 1) y0 y1 y2 y3 y4 y5))
  | 0 => ⟨fun _ _ _ _ r h => by simp [spec_l3Put.j0] at h, fun _ _ _ _ _ _ r h => by simp [spec_l3Put.l0] at h⟩
  | k + 1 => by
    obtain ⟨ih0, ih1⟩ := spec_l3Put.mono_l k
    refine ⟨?_, ?_⟩
    · intro y0 y1 y2 y3
      unfold spec_l3Put.j0
      repeat' first
      | (with_reducible exact ih0 _ _ _ _)
      | (with_reducible exact ih1 _ _ _ _ _ _)
      | (with_reducible exact spec_l2At.mono _ _ _)
      | (with_reducible exact spec_l2End.mono _ _ _)
      | (with_reducible exact LeO.refl _)
      | (with_reducible exact LeO.none _)
      | (with_reducible refine LeO.ite ?_ ?_)
      | (with_reducible refine LeO.bind ?_ (fun _ => ?_))
      | exact ih0 _ _ _ _
      | exact ih1 _ _ _ _ _ _
      | exact spec_l2At.mono _ _ _
      | exact spec_l2End.mono _ _ _
      | exact LeO.none _
      | refine LeO.ite ?_ ?_
      | refine LeO.bind ?_ (fun _ => ?_)
    · intro y0 y1 y2 y3 y4 y5
      unfold spec_l3Put.l0
      repeat' first
      | (with_reducible exact ih0 _ _ _ _)
      | (with_reducible exact ih1 _ _ _ _ _ _)
      | (with_reducible exact spec_l2At.mono _ _ _)
      | (with_reducible exact spec_l2End.mono _ _ _)
      | (with_reducible exact LeO.refl _)
      | (with_reducible exact LeO.none _)
      | (with_reducible refine LeO.ite ?_ ?_)
      | (with_reducible refine LeO.bind ?_ (fun _ => ?_))
      | exact ih0 _ _ _ _
      | exact ih1 _ _ _ _ _ _
      | exact spec_l2At.mono _ _ _
      | exact spec_l2End.mono _ _ _
      | exact LeO.none _
      | refine LeO.ite ?_ ?_
      | refine LeO.bind ?_ (fun _ => ?_)
theorem spec_l3Put.mono : ∀ a0 a1 a2 a3 k, LeO (spec_l3Put.f k a0 a1 a2 a3) (spec_l3Put.f (k + 1) a0 a1 a2 a3) := by
  intro a0 a1 a2 a3 k
  obtain ⟨ih0, ih1⟩ := spec_l3Put.mono_l k
  unfold spec_l3Put.f
  repeat' first
      | (with_reducible exact ih0 _ _ _ _)
      | (with_reducible exact ih1 _ _ _ _ _ _)
      | (with_reducible exact spec_l2At.mono _ _ _)
      | (with_reducible exact spec_l2End.mono _ _ _)
      | (with_reducible exact LeO.refl _)
      | (with_reducible exact LeO.none _)
      | (with_reducible refine LeO.ite ?_ ?_)
      | (with_reducible refine LeO.bind ?_ (fun _ => ?_))
      | exact ih0 _ _ _ _
      | exact ih1 _ _ _ _ _ _
      | exact spec_l2At.mono _ _ _
      | exact spec_l2End.mono _ _ _
      | exact LeO.none _
      | refine LeO.ite ?_ ?_
      | refine LeO.bind ?_ (fun _ => ?_)
set_option maxHeartbeats 8000000 in
set_option maxRecDepth 100000 in
theorem spec_l3Put.calls (k : Nat) (A0 : Option Addr) (c0 : Nat) (l0 : List (S29)) (A1 : Option Addr) (c1 : Nat) (l1 : List (S29)) (a2 : Int) (a3 : Int) (r : List (S29)) (w : World) (hr0 : Kd.C k29 w A0 l0.length l0) (hc0 : l0.length ≤ c0) (hr1 : Kd.C k29 w A1 l1.length l1) (hc1 : l1.length ≤ c1) (h : spec_l3Put.f k l0 l1 a2 a3 = some r) :
    Calls Tryd.prog 83 #[.slice A0 l0.length c0, .slice A1 l1.length c1, .int .i64 a2, .int .i64 a3] w fun e w' => ∃ v0_ : Value, e = .returned (v0_) ∧ Kd.R k29 29 w' w.heap.size (fun _ => True) v0_ r ∧ Below w.heap.size w w' := by
  have hu29 := Tryd.underlying29
  have HR0 := Aside0.mk hr0
  have HC0 := Aside0.mk hc0
  clear hr0 hc0
  have HR1 := Aside0.mk hr1
  have HC1 := Aside0.mk hc1
  clear hr1 hc1
  have HB := Aside0.mk (Below.refl w.heap.size w)
  have H : ((spec_l2At.f k l0 a2).bind fun t153 => (if 0 ≤ t153 then (if t153 < (l0.length : Int) then (if 0 < (l1.length : Int) then (if a3 > 0 then ((spec_l2At.f k l0 a3).bind fun t156 => ((spec_l2End.f k l0 t156).bind fun t157 => (spec_l3Put.j0 k l0 l1 (wrap64 ((wrap64 (((rd_T29 l0 t153).f1) + 1)) - ((rd_T29 l1 0).f1))) t157))) else (spec_l3Put.j0 k l0 l1 (wrap64 ((wrap64 (((rd_T29 l0 t153).f1) + 1)) - ((rd_T29 l1 0).f1))) (wrap64 (t153 + 1)))) else (none)) else (none)) else (none))) = some r := h
  clear h
  replace H := Option.bind_eq_some_iff.mp H
  obtain ⟨t153, A50, H⟩ := H
  (try dsimp only at H)
  have A5 := Aside0.mk A50
  clear A50
  by_cases c6 : 0 ≤ t153
  · rw [if_pos c6] at H
    have c6b0 : decide (0 ≤ t153) = true := decide_eq_true c6
    clear c6
    by_cases c7 : t153 < (l0.length : Int)
    · rw [if_pos c7] at H
      have c7b0 : decide (t153 < (l0.length : Int)) = true := decide_eq_true c7
      clear c7
      by_cases c8 : 0 < (l1.length : Int)
      · rw [if_pos c8] at H
        have c8b0 : decide (0 < (l1.length : Int)) = true := decide_eq_true c8
        have c8b1 : decide (0 < l1.length) = true := decide_eq_true (by omega)
        clear c8
        have HC9 := Aside0.mk H
        clear H
        go_enter Tryd.func83, Tryd.ntmps83
        go_upto_if 32 with (first | (go_at_call 80; (with_reducible refine (spec_l2At.calls k _ _ l0 a2 t153 _ ?side1 ?side2 A5.out).mono ?_); (case side1 => exact CA (HR0.out)); (case side2 => exact HC0.out); rintro e w' ⟨rfl, ⟨nd, rfl⟩⟩; (try first | exact ⟨rfl, _, World.drewN_drewN _ _ _⟩ | exact ⟨rfl, _, Eq.trans (World.drewN_drewN _ _ _) (congrArg (World.drewN _) (Nat.add_assoc _ _ _))⟩); have p154 : 0 ≤ (t153 : Int) := of_decide_eq_true (by first | (with_reducible assumption) | assumption); have q154 : t153 < (l0.length : Int) := of_decide_eq_true (by first | (with_reducible assumption) | assumption); obtain ⟨ad154, e154, hx154_0, hx154_1, hx154_2⟩ := at_T29 HR0.out t153 p154 q154; cases e154; replace p154 := eq_true p154; replace q154 := eq_true q154; have p155 : 0 ≤ (0 : Int) := (by omega); have q155 : 0 < (l1.length : Int) := of_decide_eq_true (by first | (with_reducible assumption) | assumption); obtain ⟨ad155, e155, hx155_0, hx155_1, hx155_2⟩ := at_T29 HR1.out 0 p155 q155; cases e155; have qi155 : (0 < l1.length) = True := eq_true (by omega); (try rw [show ((0 : Int)).toNat = 0 from rfl] at hx155_0); (try rw [show 0 * 3 = 0 from rfl] at hx155_0); (try rw [Addr.add_zero'] at hx155_0); (try rw [show ((0 : Int)).toNat = 0 from rfl] at hx155_1); (try rw [show 0 * 3 = 0 from rfl] at hx155_1); (try rw [Addr.add_zero'] at hx155_1); (try rw [show ((0 : Int)).toNat = 0 from rfl] at hx155_2); (try rw [show 0 * 3 = 0 from rfl] at hx155_2); (try rw [Addr.add_zero'] at hx155_2); replace p155 := eq_true p155; replace q155 := eq_true q155))
        repeat (go_quiet (first | (go_at_call 80; (with_reducible refine (spec_l2At.calls k _ _ l0 a2 t153 _ ?side1 ?side2 A5.out).mono ?_); (case side1 => exact CA (HR0.out)); (case side2 => exact HC0.out); rintro e w' ⟨rfl, ⟨nd, rfl⟩⟩; (try first | exact ⟨rfl, _, World.drewN_drewN _ _ _⟩ | exact ⟨rfl, _, Eq.trans (World.drewN_drewN _ _ _) (congrArg (World.drewN _) (Nat.add_assoc _ _ _))⟩); have p154 : 0 ≤ (t153 : Int) := of_decide_eq_true (by first | (with_reducible assumption) | assumption); have q154 : t153 < (l0.length : Int) := of_decide_eq_true (by first | (with_reducible assumption) | assumption); obtain ⟨ad154, e154, hx154_0, hx154_1, hx154_2⟩ := at_T29 HR0.out t153 p154 q154; cases e154; replace p154 := eq_true p154; replace q154 := eq_true q154; have p155 : 0 ≤ (0 : Int) := (by omega); have q155 : 0 < (l1.length : Int) := of_decide_eq_true (by first | (with_reducible assumption) | assumption); obtain ⟨ad155, e155, hx155_0, hx155_1, hx155_2⟩ := at_T29 HR1.out 0 p155 q155; cases e155; have qi155 : (0 < l1.length) = True := eq_true (by omega); (try rw [show ((0 : Int)).toNat = 0 from rfl] at hx155_0); (try rw [show 0 * 3 = 0 from rfl] at hx155_0); (try rw [Addr.add_zero'] at hx155_0); (try rw [show ((0 : Int)).toNat = 0 from rfl] at hx155_1); (try rw [show 0 * 3 = 0 from rfl] at hx155_1); (try rw [Addr.add_zero'] at hx155_1); (try rw [show ((0 : Int)).toNat = 0 from rfl] at hx155_2); (try rw [show 0 * 3 = 0 from rfl] at hx155_2); (try rw [Addr.add_zero'] at hx155_2); replace p155 := eq_true p155; replace q155 := eq_true q155)); go_upto_if 32 with (first | (go_at_call 80; (with_reducible refine (spec_l2At.calls k _ _ l0 a2 t153 _ ?side1 ?side2 A5.out).mono ?_); (case side1 => exact CA (HR0.out)); (case side2 => exact HC0.out); rintro e w' ⟨rfl, ⟨nd, rfl⟩⟩; (try first | exact ⟨rfl, _, World.drewN_drewN _ _ _⟩ | exact ⟨rfl, _, Eq.trans (World.drewN_drewN _ _ _) (congrArg (World.drewN _) (Nat.add_assoc _ _ _))⟩); have p154 : 0 ≤ (t153 : Int) := of_decide_eq_true (by first | (with_reducible assumption) | assumption); have q154 : t153 < (l0.length : Int) := of_decide_eq_true (by first | (with_reducible assumption) | assumption); obtain ⟨ad154, e154, hx154_0, hx154_1, hx154_2⟩ := at_T29 HR0.out t153 p154 q154; cases e154; replace p154 := eq_true p154; replace q154 := eq_true q154; have p155 : 0 ≤ (0 : Int) := (by omega); have q155 : 0 < (l1.length : Int) := of_decide_eq_true (by first | (with_reducible assumption) | assumption); obtain ⟨ad155, e155, hx155_0, hx155_1, hx155_2⟩ := at_T29 HR1.out 0 p155 q155; cases e155; have qi155 : (0 < l1.length) = True := eq_true (by omega); (try rw [show ((0 : Int)).toNat = 0 from rfl] at hx155_0); (try rw [show 0 * 3 = 0 from rfl] at hx155_0); (try rw [Addr.add_zero'] at hx155_0); (try rw [show ((0 : Int)).toNat = 0 from rfl] at hx155_1); (try rw [show 0 * 3 = 0 from rfl] at hx155_1); (try rw [Addr.add_zero'] at hx155_1); (try rw [show ((0 : Int)).toNat = 0 from rfl] at hx155_2); (try rw [show 0 * 3 = 0 from rfl] at hx155_2); (try rw [Addr.add_zero'] at hx155_2); replace p155 := eq_true p155; replace q155 := eq_true q155)))
        (try simp only [Act.put, List.setIfInBounds_toArray, List.set_cons_zero, List.set_cons_succ])
        go_cut [11] (fun v11 wc => ∃ (kq : Nat) (x11_8 : Int), v11 = .int .i64 x11_8 ∧ Aside0 (spec_l3Put.j0 kq l0 l1 (wrap64 ((wrap64 (((rd_T29 l0 t153).f1) + 1)) - ((rd_T29 l1 0).f1))) x11_8 = some r) ∧ Aside0 (kq ≤ k) ∧ Aside0 (Below w.heap.size w wc))
        case first =>
          have H := HC9.out
          clear HC9
          by_cases c10 : a3 > 0
          · rw [if_pos c10] at H
            have c10b0 : decide (0 < a3) = true := decide_eq_true c10
            clear c10
            (first | rw [c10b0] | (simp only [i64_w, i32_w]; rw [c10b0]) | skip)
            replace H := Option.bind_eq_some_iff.mp H
            obtain ⟨t156, A110, H⟩ := H
            (try dsimp only at H)
            have A11 := Aside0.mk A110
            clear A110
            replace H := Option.bind_eq_some_iff.mp H
            obtain ⟨t157, A120, H⟩ := H
            (try dsimp only at H)
            have A12 := Aside0.mk A120
            clear A120
            have H' := Aside0.mk H
            clear H
            go_wp2_with (first | (go_at_call 80; (with_reducible refine (spec_l2At.calls k _ _ l0 a3 t156 _ ?side1 ?side2 A11.out).mono ?_); (case side1 => exact CA (Kd.C_below HR0.out HB.out)); (case side2 => exact HC0.out); rintro e w' ⟨rfl, ⟨nd, rfl⟩⟩; (try first | exact ⟨rfl, _, World.drewN_drewN _ _ _⟩ | exact ⟨rfl, _, Eq.trans (World.drewN_drewN _ _ _) (congrArg (World.drewN _) (Nat.add_assoc _ _ _))⟩)) | (go_at_call 81; (with_reducible refine (spec_l2End.calls k _ _ l0 t156 t157 _ ?side1 ?side2 A12.out).mono ?_); (case side1 => exact CA (Kd.C_below HR0.out belowA)); (case side2 => exact HC0.out); rintro e w' ⟨rfl, ⟨nd, rfl⟩⟩; (try first | exact ⟨rfl, _, World.drewN_drewN _ _ _⟩ | exact ⟨rfl, _, Eq.trans (World.drewN_drewN _ _ _) (congrArg (World.drewN _) (Nat.add_assoc _ _ _))⟩)))
            repeat (go_quiet (first | (go_at_call 80; (with_reducible refine (spec_l2At.calls k _ _ l0 a3 t156 _ ?side1 ?side2 A11.out).mono ?_); (case side1 => exact CA (Kd.C_below HR0.out HB.out)); (case side2 => exact HC0.out); rintro e w' ⟨rfl, ⟨nd, rfl⟩⟩; (try first | exact ⟨rfl, _, World.drewN_drewN _ _ _⟩ | exact ⟨rfl, _, Eq.trans (World.drewN_drewN _ _ _) (congrArg (World.drewN _) (Nat.add_assoc _ _ _))⟩)) | (go_at_call 81; (with_reducible refine (spec_l2End.calls k _ _ l0 t156 t157 _ ?side1 ?side2 A12.out).mono ?_); (case side1 => exact CA (Kd.C_below HR0.out belowA)); (case side2 => exact HC0.out); rintro e w' ⟨rfl, ⟨nd, rfl⟩⟩; (try first | exact ⟨rfl, _, World.drewN_drewN _ _ _⟩ | exact ⟨rfl, _, Eq.trans (World.drewN_drewN _ _ _) (congrArg (World.drewN _) (Nat.add_assoc _ _ _))⟩))); try go_wp2_with (first | (go_at_call 80; (with_reducible refine (spec_l2At.calls k _ _ l0 a3 t156 _ ?side1 ?side2 A11.out).mono ?_); (case side1 => exact CA (Kd.C_below HR0.out HB.out)); (case side2 => exact HC0.out); rintro e w' ⟨rfl, ⟨nd, rfl⟩⟩; (try first | exact ⟨rfl, _, World.drewN_drewN _ _ _⟩ | exact ⟨rfl, _, Eq.trans (World.drewN_drewN _ _ _) (congrArg (World.drewN _) (Nat.add_assoc _ _ _))⟩)) | (go_at_call 81; (with_reducible refine (spec_l2End.calls k _ _ l0 t156 t157 _ ?side1 ?side2 A12.out).mono ?_); (case side1 => exact CA (Kd.C_below HR0.out belowA)); (case side2 => exact HC0.out); rintro e w' ⟨rfl, ⟨nd, rfl⟩⟩; (try first | exact ⟨rfl, _, World.drewN_drewN _ _ _⟩ | exact ⟨rfl, _, Eq.trans (World.drewN_drewN _ _ _) (congrArg (World.drewN _) (Nat.add_assoc _ _ _))⟩))))
            go_meet
            case rel => exact ⟨_, (t157), (by first | rfl | (simp; done) | (simp [*]; done)), H', ⟨by first | omega | exact Nat.le_refl _⟩, ⟨belowA⟩⟩
          · rw [if_neg c10] at H
            have c10b0 : decide (0 < a3) = false := decide_eq_false c10
            clear c10
            (first | rw [c10b0] | (simp only [i64_w, i32_w]; rw [c10b0]) | skip)
            have H' := Aside0.mk H
            clear H
            go_wp2
            repeat (go_quiet (fail); try go_wp2)
            go_meet
            case rel => exact ⟨_, (wrap64 (t153 + 1)), (by first | rfl | (simp; done) | (simp [*]; done)), H', ⟨by first | omega | exact Nat.le_refl _⟩, ⟨belowA⟩⟩
        case rest =>
          clear HC9
          try clear c1
          try clear p1
          try clear q1
          try clear hx1
          try clear qi1
          try clear p2
          try clear c6
          try clear c6b0
          try clear p6
          try clear c7
          try clear c7b0
          try clear c8
          try clear c8b0
          try clear c8b1
          try clear c10
          try clear c10b0
          try clear hx154_0
          try clear hx154_1
          try clear hx154_2
          try clear hx155_0
          try clear hx155_1
          try clear hx155_2
          try clear p154
          try clear p155
          try clear q154
          try clear q155
          obtain ⟨kq, x11_8, rfl, HA, HJ8, HB⟩ := hcut
          cases kq with
          | zero => exact absurd HA.out (by simp [spec_l3Put.j0])
          | succ kj8 =>
            have H := HA.out
            clear HA
            simp only [spec_l3Put.j0] at H
            obtain ⟨y158, hy158⟩ : ∃ y_ : List (S29), y_ = (([] : List (S29))) := ⟨_, rfl⟩
            replace H : (if 0 ≤ x11_8 then (if x11_8 ≤ (l0.length : Int) then ((some (l0.take (x11_8 : Int).toNat : List (S29))).bind fun y161 => (if y158.length + y161.length < 4398046511104 then (spec_l3Put.l0 kj8 l0 l1 (wrap64 ((wrap64 (((rd_T29 l0 t153).f1) + 1)) - ((rd_T29 l1 0).f1))) x11_8 (y158 ++ y161) 0) else (none))) else (none)) else (none)) = some r := by first | (rw [hy158]; with_reducible exact H) | (have H2_ := (Option.bind_some _ _).symm.trans H; rw [hy158]; with_reducible exact H2_) | (have H2_ := (Option.bind_some _ _).symm.trans H; with_reducible exact H2_) | with_reducible exact H | (rw [hy158]; exact H) | exact H
            have Ny158 := Aside0.mk hy158
            clear hy158
            by_cases c13 : 0 ≤ x11_8
            · rw [if_pos c13] at H
              have c13b0 := eq_true c13
              have c13b1 : decide (0 ≤ x11_8) = true := decide_eq_true c13
              clear c13
              by_cases c14 : x11_8 ≤ (l0.length : Int)
              · rw [if_pos c14] at H
                have c14b0 := eq_true c14
                have c14b1 : decide (x11_8 ≤ (l0.length : Int)) = true := decide_eq_true c14
                clear c14
                obtain ⟨y161, hy161⟩ : ∃ y_ : List (S29), y_ = (l0.take (x11_8 : Int).toNat) := ⟨_, rfl⟩
                replace H : (if y158.length + y161.length < 4398046511104 then (spec_l3Put.l0 kj8 l0 l1 (wrap64 ((wrap64 (((rd_T29 l0 t153).f1) + 1)) - ((rd_T29 l1 0).f1))) x11_8 (y158 ++ y161) 0) else (none)) = some r := by first | (rw [hy161]; with_reducible exact H) | (have H2_ := (Option.bind_some _ _).symm.trans H; rw [hy161]; with_reducible exact H2_) | (have H2_ := (Option.bind_some _ _).symm.trans H; with_reducible exact H2_) | with_reducible exact H | (rw [hy161]; exact H) | exact H
                have Ny161 := Aside0.mk hy161
                clear hy161
                by_cases c15 : y158.length + y161.length < 4398046511104
                · rw [if_pos c15] at H
                  have LMc15 := Aside0.mk c15
                  clear c15
                  obtain ⟨y165, hy165⟩ : ∃ y_ : List (S29), y_ = (y158 ++ y161) := ⟨_, rfl⟩
                  replace H : (spec_l3Put.l0 kj8 l0 l1 (wrap64 ((wrap64 (((rd_T29 l0 t153).f1) + 1)) - ((rd_T29 l1 0).f1))) x11_8 y165 0) = some r := by first | (rw [hy165]; with_reducible exact H) | (have H2_ := (Option.bind_some _ _).symm.trans H; rw [hy165]; with_reducible exact H2_) | (have H2_ := (Option.bind_some _ _).symm.trans H; with_reducible exact H2_) | with_reducible exact H | (rw [hy165]; exact H) | exact H
                  have Ny165 := Aside0.mk hy165
                  clear hy165
                  have H' := Aside0.mk H
                  clear H
                  go_wp2_with (first | ((with_reducible refine gate_dst (N := 38) rfl ?_); refine Kd.R_lit k29 _ 29 ?hg (N := 38) ?hd (xs := ([] : List (S29))) (inner := []) (ok := fun _ => True) (okp := fun _ => True) ?hr ?hp (fun _ hk => hk) trivial (Below.refl _ _) (Nat.le_refl _) (by simp) ?_; (case hd => rfl); (case hg => rfl); (case hr => first | (go_simp; done) | (go_simp; rfl)); (case hp => exact (Reps.none _ _)); intro v159 w16 ho17 hb hg_ hnew_; clear hg_ hnew_; (first | rw [← Ny158.out] at ho17 | (simp only [Int.reduceToNat] at ho17; rw [← Ny158.out] at ho17)); have n0_ := Aside0.mk (Kd.R_lower ho17 (below_size belowA)); have n1_ := Aside0.mk (below_step belowA hb); clear HB; have HO160 := n0_; have HB := n1_; clear n0_ n1_; clear hb ho17; have q18 : (x11_8 : Int) ≤ ((l0.length : Int) : Int) := of_decide_eq_true (by first | (with_reducible assumption) | assumption); obtain ⟨i018, hi018, _, hsz18, _⟩ := info_parts info29; have hroom18 : l0.length ≤ c0 := HC0.out; have hC18 : Kd.C k29 _ (some ad154) l0.length l0 := HR0.out; have hcut18 := cut_to (P := Tryd.prog) 23 29 .i64 Tryd.underlying23 hi018 (some ad154) l0.length c0 x11_8 (of_decide_eq_true (by first | (with_reducible assumption) | assumption)) q18 hroom18; have hr18 := Kd.C_take (m := (x11_8 : Int).toNat) hC18 (by omega); have hy18 : y161.length = (x11_8 : Int).toNat := (by rw [Ny161.out, List.length_take]; omega); rw [← Ny161.out] at hr18; rw [← hy18] at hcut18; have HR164 := Aside0.mk hr18; have HC164 := Aside0.mk (show y161.length ≤ c0 from by omega); clear hr18 hC18 hroom18 hi018 hsz18; have KY18 := Aside0.mk hy18; clear hy18; replace q18 := eq_true q18) | ((with_reducible refine gate_builtin (b := .append) (xs := #[.tmp 38, .tmp 41]) rfl ?_); at_builtin; refine Kd.R_append_rows k29 (w0 := w) w.heap.size rfl (.tmp 38) (.tmp 41) 23 29 (.agg #[(.int .i64 0), (.int .i64 0), (.string ⟨#[]⟩)]) 32 rfl Tryd.underlying23 info29 rfl (by decide) (by omega) v159 y158 y161 _ _ _ (fun _ => True) (fun _ => False) rfl rfl ?aO ?aR (fun _ _ h => h) (fun _ h => h.elim) ?aF ?aB ?aS ?aL ?_; (case aR => exact CA (Kd.C_below HR164.out HB.out)); (case aB => exact belowA); (case aF => exact (fun _ _ => trivial)); (case aO => exact (RA HO160)); (case aS => exact (below_size belowA)); (case aL => have := LMc15.out; omega); intro v166 w19 ho hb hg hat; rw [← Ny165.out] at ho; have n0_ := Aside0.mk (hb); have n1_ := Aside0.mk (ho); clear HB; clear HO160; have HB := n0_; have HO167 := n1_; clear n0_ n1_; clear ho hb hg hat))
                  repeat (go_quiet (first | ((with_reducible refine gate_dst (N := 38) rfl ?_); refine Kd.R_lit k29 _ 29 ?hg (N := 38) ?hd (xs := ([] : List (S29))) (inner := []) (ok := fun _ => True) (okp := fun _ => True) ?hr ?hp (fun _ hk => hk) trivial (Below.refl _ _) (Nat.le_refl _) (by simp) ?_; (case hd => rfl); (case hg => rfl); (case hr => first | (go_simp; done) | (go_simp; rfl)); (case hp => exact (Reps.none _ _)); intro v159 w16 ho17 hb hg_ hnew_; clear hg_ hnew_; (first | rw [← Ny158.out] at ho17 | (simp only [Int.reduceToNat] at ho17; rw [← Ny158.out] at ho17)); have n0_ := Aside0.mk (Kd.R_lower ho17 (below_size belowA)); have n1_ := Aside0.mk (below_step belowA hb); clear HB; have HO160 := n0_; have HB := n1_; clear n0_ n1_; clear hb ho17; have q18 : (x11_8 : Int) ≤ ((l0.length : Int) : Int) := of_decide_eq_true (by first | (with_reducible assumption) | assumption); obtain ⟨i018, hi018, _, hsz18, _⟩ := info_parts info29; have hroom18 : l0.length ≤ c0 := HC0.out; have hC18 : Kd.C k29 _ (some ad154) l0.length l0 := HR0.out; have hcut18 := cut_to (P := Tryd.prog) 23 29 .i64 Tryd.underlying23 hi018 (some ad154) l0.length c0 x11_8 (of_decide_eq_true (by first | (with_reducible assumption) | assumption)) q18 hroom18; have hr18 := Kd.C_take (m := (x11_8 : Int).toNat) hC18 (by omega); have hy18 : y161.length = (x11_8 : Int).toNat := (by rw [Ny161.out, List.length_take]; omega); rw [← Ny161.out] at hr18; rw [← hy18] at hcut18; have HR164 := Aside0.mk hr18; have HC164 := Aside0.mk (show y161.length ≤ c0 from by omega); clear hr18 hC18 hroom18 hi018 hsz18; have KY18 := Aside0.mk hy18; clear hy18; replace q18 := eq_true q18) | ((with_reducible refine gate_builtin (b := .append) (xs := #[.tmp 38, .tmp 41]) rfl ?_); at_builtin; refine Kd.R_append_rows k29 (w0 := w) w.heap.size rfl (.tmp 38) (.tmp 41) 23 29 (.agg #[(.int .i64 0), (.int .i64 0), (.string ⟨#[]⟩)]) 32 rfl Tryd.underlying23 info29 rfl (by decide) (by omega) v159 y158 y161 _ _ _ (fun _ => True) (fun _ => False) rfl rfl ?aO ?aR (fun _ _ h => h) (fun _ h => h.elim) ?aF ?aB ?aS ?aL ?_; (case aR => exact CA (Kd.C_below HR164.out HB.out)); (case aB => exact belowA); (case aF => exact (fun _ _ => trivial)); (case aO => exact (RA HO160)); (case aS => exact (below_size belowA)); (case aL => have := LMc15.out; omega); intro v166 w19 ho hb hg hat; rw [← Ny165.out] at ho; have n0_ := Aside0.mk (hb); have n1_ := Aside0.mk (ho); clear HB; clear HO160; have HB := n0_; have HO167 := n1_; clear n0_ n1_; clear ho hb hg hat)); try go_wp2_with (first | ((with_reducible refine gate_dst (N := 38) rfl ?_); refine Kd.R_lit k29 _ 29 ?hg (N := 38) ?hd (xs := ([] : List (S29))) (inner := []) (ok := fun _ => True) (okp := fun _ => True) ?hr ?hp (fun _ hk => hk) trivial (Below.refl _ _) (Nat.le_refl _) (by simp) ?_; (case hd => rfl); (case hg => rfl); (case hr => first | (go_simp; done) | (go_simp; rfl)); (case hp => exact (Reps.none _ _)); intro v159 w16 ho17 hb hg_ hnew_; clear hg_ hnew_; (first | rw [← Ny158.out] at ho17 | (simp only [Int.reduceToNat] at ho17; rw [← Ny158.out] at ho17)); have n0_ := Aside0.mk (Kd.R_lower ho17 (below_size belowA)); have n1_ := Aside0.mk (below_step belowA hb); clear HB; have HO160 := n0_; have HB := n1_; clear n0_ n1_; clear hb ho17; have q18 : (x11_8 : Int) ≤ ((l0.length : Int) : Int) := of_decide_eq_true (by first | (with_reducible assumption) | assumption); obtain ⟨i018, hi018, _, hsz18, _⟩ := info_parts info29; have hroom18 : l0.length ≤ c0 := HC0.out; have hC18 : Kd.C k29 _ (some ad154) l0.length l0 := HR0.out; have hcut18 := cut_to (P := Tryd.prog) 23 29 .i64 Tryd.underlying23 hi018 (some ad154) l0.length c0 x11_8 (of_decide_eq_true (by first | (with_reducible assumption) | assumption)) q18 hroom18; have hr18 := Kd.C_take (m := (x11_8 : Int).toNat) hC18 (by omega); have hy18 : y161.length = (x11_8 : Int).toNat := (by rw [Ny161.out, List.length_take]; omega); rw [← Ny161.out] at hr18; rw [← hy18] at hcut18; have HR164 := Aside0.mk hr18; have HC164 := Aside0.mk (show y161.length ≤ c0 from by omega); clear hr18 hC18 hroom18 hi018 hsz18; have KY18 := Aside0.mk hy18; clear hy18; replace q18 := eq_true q18) | ((with_reducible refine gate_builtin (b := .append) (xs := #[.tmp 38, .tmp 41]) rfl ?_); at_builtin; refine Kd.R_append_rows k29 (w0 := w) w.heap.size rfl (.tmp 38) (.tmp 41) 23 29 (.agg #[(.int .i64 0), (.int .i64 0), (.string ⟨#[]⟩)]) 32 rfl Tryd.underlying23 info29 rfl (by decide) (by omega) v159 y158 y161 _ _ _ (fun _ => True) (fun _ => False) rfl rfl ?aO ?aR (fun _ _ h => h) (fun _ h => h.elim) ?aF ?aB ?aS ?aL ?_; (case aR => exact CA (Kd.C_below HR164.out HB.out)); (case aB => exact belowA); (case aF => exact (fun _ _ => trivial)); (case aO => exact (RA HO160)); (case aS => exact (below_size belowA)); (case aL => have := LMc15.out; omega); intro v166 w19 ho hb hg hat; rw [← Ny165.out] at ho; have n0_ := Aside0.mk (hb); have n1_ := Aside0.mk (ho); clear HB; clear HO160; have HB := n0_; have HO167 := n1_; clear n0_ n1_; clear ho hb hg hat)))
                  go_loopg [12, 13] kj8 (fun kq v12 v13 w' => ∃ (x12_2 : List (S29)) (x13_2 : Int), v13 = .int .i64 x13_2 ∧ Aside0 (spec_l3Put.l0 kq l0 l1 (wrap64 ((wrap64 (((rd_T29 l0 t153).f1) + 1)) - ((rd_T29 l1 0).f1))) x11_8 x12_2 x13_2 = some r) ∧ Aside0 (kq ≤ kj8) ∧ Aside0 (Kd.R k29 29 w' w.heap.size (fun _ => True) v12 x12_2) ∧ Aside0 (Below w.heap.size w w'))
                  case atStart => exact ⟨(y165), (0), (by first | rfl | (simp; done) | (simp [*]; done)), H', ⟨Nat.le_refl _⟩, ⟨RA HO167⟩, ⟨belowA⟩⟩
                  case round =>
                    clear H'
                    try clear c1
                    try clear p1
                    try clear q1
                    try clear hx1
                    try clear qi1
                    try clear p2
                    try clear c6
                    try clear c6b0
                    try clear p6
                    try clear c7
                    try clear c7b0
                    try clear c8
                    try clear c8b0
                    try clear c8b1
                    try clear c10
                    try clear c10b0
                    try clear c13
                    try clear c13b0
                    try clear c13b1
                    try clear c14
                    try clear c14b0
                    try clear c14b1
                    try clear c15
                    try clear p15
                    try clear q15
                    try clear hx15
                    try clear qi15
                    try clear q18
                    try clear hx154_0
                    try clear hx154_1
                    try clear hx154_2
                    try clear hx155_0
                    try clear hx155_1
                    try clear hx155_2
                    try clear p1
                    try clear p154
                    try clear p155
                    try clear p2
                    try clear p6
                    try clear q1
                    try clear q154
                    try clear q155
                    try clear q18
                    obtain ⟨x12_2, x13_2, rfl, HA, HK2, HO_12, HB⟩ := hrel
                    cases gk with
                    | zero => exact absurd HA.out (by simp [spec_l3Put.l0])
                    | succ k2 =>
                      have H := HA.out
                      clear HA
                      simp only [spec_l3Put.l0] at H
                      by_cases c20 : x13_2 < (l1.length : Int)
                      · rw [if_pos c20] at H
                        have c20b0 : decide (x13_2 < (l1.length : Int)) = true := decide_eq_true c20
                        clear c20
                        by_cases c21 : 0 ≤ x13_2
                        · rw [if_pos c21] at H
                          have c21b0 : decide (0 ≤ x13_2) = true := decide_eq_true c21
                          clear c21
                          by_cases c22 : x12_2.length < 4398046511104
                          · rw [if_pos c22] at H
                            have LMc22 := Aside0.mk c22
                            clear c22
                            obtain ⟨y170, hy170⟩ : ∃ y_ : List (S29), y_ = (x12_2 ++ [(⟨(rd_T29 l1 x13_2).f0, wrap64 (((rd_T29 l1 x13_2).f1) + (wrap64 ((wrap64 (((rd_T29 l0 t153).f1) + 1)) - ((rd_T29 l1 0).f1)))), (rd_T29 l1 x13_2).f2⟩ : S29)]) := ⟨_, rfl⟩
                            replace H : (spec_l3Put.l0 k2 l0 l1 (wrap64 ((wrap64 (((rd_T29 l0 t153).f1) + 1)) - ((rd_T29 l1 0).f1))) x11_8 y170 (wrap64 (x13_2 + 1))) = some r := by first | (rw [hy170]; with_reducible exact H) | (have H2_ := (Option.bind_some _ _).symm.trans H; rw [hy170]; with_reducible exact H2_) | (have H2_ := (Option.bind_some _ _).symm.trans H; with_reducible exact H2_) | with_reducible exact H | (rw [hy170]; exact H) | exact H
                            have Ny170 := Aside0.mk hy170
                            clear hy170
                            have H' := Aside0.mk H
                            clear H
                            have p168 : 0 ≤ (x13_2 : Int) := of_decide_eq_true (by first | (with_reducible assumption) | assumption)
                            have q168 : x13_2 < (l1.length : Int) := of_decide_eq_true (by first | (with_reducible assumption) | assumption)
                            obtain ⟨ad168, e168, hx168_0, hx168_1, hx168_2⟩ := at_T29 HR1.out x13_2 p168 q168
                            obtain rfl : ad155 = ad168 := (by injection e168)
                            replace hx168_0 := bcell HB hx168_0
                            replace hx168_1 := bcell HB hx168_1
                            replace hx168_2 := bcell HB hx168_2
                            replace p168 := eq_true p168
                            replace q168 := eq_true q168
                            go_wp2_with (first | ((with_reducible refine gate_dst (N := 14) rfl ?_); refine box_event ?hg (N := 14) ?hd (cs := #[.int .i64 0, .int .i64 0, .string (⟨#[]⟩ : ByteArray)]) (t := 29) ?hr ?_; (case hd => rfl); (case hg => rfl); (case hr => first | (go_simp; done) | (go_simp; rfl)); intro gb169 hg w23 hbox hb; have n0_ := Aside0.mk (Kd.R_below (Kd.R_elderB (RA HO_12) gb169 (Nat.le_of_eq hg.symm)) hb); have n1_ := Aside0.mk (below_step belowA hb); have n2_ := Aside0.mk (hbox); have n3_ := Aside0.mk ((by rw [hg]; exact (below_size belowA) : w.heap.size ≤ gb169)); have n4_ := Aside0.mk ((by rw [hg]; exact (below_size belowA) : w.heap.size ≤ gb169)); clear HO_12; clear HB; have HO_12 := n0_; have HB := n1_; have BK169 := n2_; have GW169 := n3_; have GE169 := n4_; clear n0_ n1_ n2_ n3_ n4_; clear hb hbox hg; obtain ⟨hcz24_0, hcz24_1, hcz24_2, hfz24_0, hfz24_1, hfz24_2⟩ := blk_facts3 BK169.out) | ((with_reducible refine gate_builtin (b := .append) (xs := #[.tmp 58, .tmp 60]) rfl ?_); at_builtin; refine Kd.R_append k29 (w0 := w) w.heap.size rfl (.tmp 58) (.tmp 60) 23 29 (.agg #[(.int .i64 0), (.int .i64 0), (.string ⟨#[]⟩)]) 32 rfl Tryd.underlying23 info29 rfl (by decide) (by omega) u12 x12_2 (⟨(rd_T29 l1 x13_2).f0, wrap64 (((rd_T29 l1 x13_2).f1) + (wrap64 ((wrap64 (((rd_T29 l0 t153).f1) + 1)) - ((rd_T29 l1 0).f1)))), (rd_T29 l1 x13_2).f2⟩ : S29) [.int .i64 ((rd_T29 l1 x13_2).f0), .int .i64 (wrap64 (((rd_T29 l1 x13_2).f1) + (wrap64 ((wrap64 (((rd_T29 l0 t153).f1) + 1)) - ((rd_T29 l1 0).f1))))), .string ((rd_T29 l1 x13_2).f2)] (fun k_ => k_ ≠ gb169) (fun _ => False) rfl (by first | (go_simp; done) | (go_simp; rfl)) ?aP (fun _ hk => hk.elim) ?aF ?aO ?aB ?aS ?aL ?_; (case aP => exact k29_mkM _ _ _ (⟨(rd_T29 l1 x13_2).f0, wrap64 (((rd_T29 l1 x13_2).f1) + (wrap64 ((wrap64 (((rd_T29 l0 t153).f1) + 1)) - ((rd_T29 l1 0).f1)))), (rd_T29 l1 x13_2).f2⟩ : S29)); (case aB => exact belowA); (case aF => exact (fun k_ hk => Kd.freshB (g := gb169) (o := .cells #[.int .i64 ((rd_T29 l1 x13_2).f0), .int .i64 (wrap64 (((rd_T29 l1 x13_2).f1) + (wrap64 ((wrap64 (((rd_T29 l0 t153).f1) + 1)) - ((rd_T29 l1 0).f1))))), .string ((rd_T29 l1 x13_2).f2)] 29 (0, 0)) (blk_put (blk_put (blk_put (blk_put (blkC #[.int .i64 0, .int .i64 0, .string (⟨#[]⟩ : ByteArray)]) 0 _ rfl) 1 _ rfl) 2 _ rfl) 1 _ rfl) k_ hk)); (case aO => exact (by (with_reducible repeat (first | apply Kd.R_alloc | apply Kd.R_drewN | apply Kd.R_drew)); exact Kd.R_mono (Kd.R_far (p := ⟨gb169, 1, none⟩) (Kd.R_far (p := ⟨gb169, 2, none⟩) (Kd.R_far (p := ⟨gb169, 1, none⟩) (Kd.R_far (p := ⟨gb169, 0, none⟩) (Kd.R_mono HO_12.out (fun k_ hk => (⟨hk, hk.2⟩ : _ ∧ k_ ≠ gb169))) (fun _ hk => hk.2) (.int .i64 ((rd_T29 l1 x13_2).f0))) (fun _ hk => hk.2) (.int .i64 ((rd_T29 l1 x13_2).f1))) (fun _ hk => hk.2) (.string ((rd_T29 l1 x13_2).f2))) (fun _ hk => hk.2) (.int .i64 (wrap64 (((rd_T29 l1 x13_2).f1) + (wrap64 ((wrap64 (((rd_T29 l0 t153).f1) + 1)) - ((rd_T29 l1 0).f1))))))) (fun _ hk => hk.1.2))); (case aS => exact (below_size belowA)); (case aL => have := LMc22.out; omega); intro v171 w25 ho hb hg hat; rw [← Ny170.out] at ho; have n0_ := Aside0.mk (blk_grown (g := gb169) (o := .cells #[.int .i64 ((rd_T29 l1 x13_2).f0), .int .i64 (wrap64 (((rd_T29 l1 x13_2).f1) + (wrap64 ((wrap64 (((rd_T29 l0 t153).f1) + 1)) - ((rd_T29 l1 0).f1))))), .string ((rd_T29 l1 x13_2).f2)] 29 (0, 0)) (blk_put (blk_put (blk_put (blk_put (blkC #[.int .i64 0, .int .i64 0, .string (⟨#[]⟩ : ByteArray)]) 0 _ rfl) 1 _ rfl) 2 _ rfl) 1 _ rfl) hg (Kd.R_away HO_12.out (fun _ hk => hk.2))); have n1_ := Aside0.mk (hb); have n2_ := Aside0.mk (ho); clear BK169; clear HB; clear HO_12; have BK169 := n0_; have HB := n1_; have HO172 := n2_; clear n0_ n1_ n2_; clear ho hb hg hat))
                            repeat (go_quiet (first | ((with_reducible refine gate_dst (N := 14) rfl ?_); refine box_event ?hg (N := 14) ?hd (cs := #[.int .i64 0, .int .i64 0, .string (⟨#[]⟩ : ByteArray)]) (t := 29) ?hr ?_; (case hd => rfl); (case hg => rfl); (case hr => first | (go_simp; done) | (go_simp; rfl)); intro gb169 hg w23 hbox hb; have n0_ := Aside0.mk (Kd.R_below (Kd.R_elderB (RA HO_12) gb169 (Nat.le_of_eq hg.symm)) hb); have n1_ := Aside0.mk (below_step belowA hb); have n2_ := Aside0.mk (hbox); have n3_ := Aside0.mk ((by rw [hg]; exact (below_size belowA) : w.heap.size ≤ gb169)); have n4_ := Aside0.mk ((by rw [hg]; exact (below_size belowA) : w.heap.size ≤ gb169)); clear HO_12; clear HB; have HO_12 := n0_; have HB := n1_; have BK169 := n2_; have GW169 := n3_; have GE169 := n4_; clear n0_ n1_ n2_ n3_ n4_; clear hb hbox hg; obtain ⟨hcz24_0, hcz24_1, hcz24_2, hfz24_0, hfz24_1, hfz24_2⟩ := blk_facts3 BK169.out) | ((with_reducible refine gate_builtin (b := .append) (xs := #[.tmp 58, .tmp 60]) rfl ?_); at_builtin; refine Kd.R_append k29 (w0 := w) w.heap.size rfl (.tmp 58) (.tmp 60) 23 29 (.agg #[(.int .i64 0), (.int .i64 0), (.string ⟨#[]⟩)]) 32 rfl Tryd.underlying23 info29 rfl (by decide) (by omega) u12 x12_2 (⟨(rd_T29 l1 x13_2).f0, wrap64 (((rd_T29 l1 x13_2).f1) + (wrap64 ((wrap64 (((rd_T29 l0 t153).f1) + 1)) - ((rd_T29 l1 0).f1)))), (rd_T29 l1 x13_2).f2⟩ : S29) [.int .i64 ((rd_T29 l1 x13_2).f0), .int .i64 (wrap64 (((rd_T29 l1 x13_2).f1) + (wrap64 ((wrap64 (((rd_T29 l0 t153).f1) + 1)) - ((rd_T29 l1 0).f1))))), .string ((rd_T29 l1 x13_2).f2)] (fun k_ => k_ ≠ gb169) (fun _ => False) rfl (by first | (go_simp; done) | (go_simp; rfl)) ?aP (fun _ hk => hk.elim) ?aF ?aO ?aB ?aS ?aL ?_; (case aP => exact k29_mkM _ _ _ (⟨(rd_T29 l1 x13_2).f0, wrap64 (((rd_T29 l1 x13_2).f1) + (wrap64 ((wrap64 (((rd_T29 l0 t153).f1) + 1)) - ((rd_T29 l1 0).f1)))), (rd_T29 l1 x13_2).f2⟩ : S29)); (case aB => exact belowA); (case aF => exact (fun k_ hk => Kd.freshB (g := gb169) (o := .cells #[.int .i64 ((rd_T29 l1 x13_2).f0), .int .i64 (wrap64 (((rd_T29 l1 x13_2).f1) + (wrap64 ((wrap64 (((rd_T29 l0 t153).f1) + 1)) - ((rd_T29 l1 0).f1))))), .string ((rd_T29 l1 x13_2).f2)] 29 (0, 0)) (blk_put (blk_put (blk_put (blk_put (blkC #[.int .i64 0, .int .i64 0, .string (⟨#[]⟩ : ByteArray)]) 0 _ rfl) 1 _ rfl) 2 _ rfl) 1 _ rfl) k_ hk)); (case aO => exact (by (with_reducible repeat (first | apply Kd.R_alloc | apply Kd.R_drewN | apply Kd.R_drew)); exact Kd.R_mono (Kd.R_far (p := ⟨gb169, 1, none⟩) (Kd.R_far (p := ⟨gb169, 2, none⟩) (Kd.R_far (p := ⟨gb169, 1, none⟩) (Kd.R_far (p := ⟨gb169, 0, none⟩) (Kd.R_mono HO_12.out (fun k_ hk => (⟨hk, hk.2⟩ : _ ∧ k_ ≠ gb169))) (fun _ hk => hk.2) (.int .i64 ((rd_T29 l1 x13_2).f0))) (fun _ hk => hk.2) (.int .i64 ((rd_T29 l1 x13_2).f1))) (fun _ hk => hk.2) (.string ((rd_T29 l1 x13_2).f2))) (fun _ hk => hk.2) (.int .i64 (wrap64 (((rd_T29 l1 x13_2).f1) + (wrap64 ((wrap64 (((rd_T29 l0 t153).f1) + 1)) - ((rd_T29 l1 0).f1))))))) (fun _ hk => hk.1.2))); (case aS => exact (below_size belowA)); (case aL => have := LMc22.out; omega); intro v171 w25 ho hb hg hat; rw [← Ny170.out] at ho; have n0_ := Aside0.mk (blk_grown (g := gb169) (o := .cells #[.int .i64 ((rd_T29 l1 x13_2).f0), .int .i64 (wrap64 (((rd_T29 l1 x13_2).f1) + (wrap64 ((wrap64 (((rd_T29 l0 t153).f1) + 1)) - ((rd_T29 l1 0).f1))))), .string ((rd_T29 l1 x13_2).f2)] 29 (0, 0)) (blk_put (blk_put (blk_put (blk_put (blkC #[.int .i64 0, .int .i64 0, .string (⟨#[]⟩ : ByteArray)]) 0 _ rfl) 1 _ rfl) 2 _ rfl) 1 _ rfl) hg (Kd.R_away HO_12.out (fun _ hk => hk.2))); have n1_ := Aside0.mk (hb); have n2_ := Aside0.mk (ho); clear BK169; clear HB; clear HO_12; have BK169 := n0_; have HB := n1_; have HO172 := n2_; clear n0_ n1_ n2_; clear ho hb hg hat)); try go_wp2_with (first | ((with_reducible refine gate_dst (N := 14) rfl ?_); refine box_event ?hg (N := 14) ?hd (cs := #[.int .i64 0, .int .i64 0, .string (⟨#[]⟩ : ByteArray)]) (t := 29) ?hr ?_; (case hd => rfl); (case hg => rfl); (case hr => first | (go_simp; done) | (go_simp; rfl)); intro gb169 hg w23 hbox hb; have n0_ := Aside0.mk (Kd.R_below (Kd.R_elderB (RA HO_12) gb169 (Nat.le_of_eq hg.symm)) hb); have n1_ := Aside0.mk (below_step belowA hb); have n2_ := Aside0.mk (hbox); have n3_ := Aside0.mk ((by rw [hg]; exact (below_size belowA) : w.heap.size ≤ gb169)); have n4_ := Aside0.mk ((by rw [hg]; exact (below_size belowA) : w.heap.size ≤ gb169)); clear HO_12; clear HB; have HO_12 := n0_; have HB := n1_; have BK169 := n2_; have GW169 := n3_; have GE169 := n4_; clear n0_ n1_ n2_ n3_ n4_; clear hb hbox hg; obtain ⟨hcz24_0, hcz24_1, hcz24_2, hfz24_0, hfz24_1, hfz24_2⟩ := blk_facts3 BK169.out) | ((with_reducible refine gate_builtin (b := .append) (xs := #[.tmp 58, .tmp 60]) rfl ?_); at_builtin; refine Kd.R_append k29 (w0 := w) w.heap.size rfl (.tmp 58) (.tmp 60) 23 29 (.agg #[(.int .i64 0), (.int .i64 0), (.string ⟨#[]⟩)]) 32 rfl Tryd.underlying23 info29 rfl (by decide) (by omega) u12 x12_2 (⟨(rd_T29 l1 x13_2).f0, wrap64 (((rd_T29 l1 x13_2).f1) + (wrap64 ((wrap64 (((rd_T29 l0 t153).f1) + 1)) - ((rd_T29 l1 0).f1)))), (rd_T29 l1 x13_2).f2⟩ : S29) [.int .i64 ((rd_T29 l1 x13_2).f0), .int .i64 (wrap64 (((rd_T29 l1 x13_2).f1) + (wrap64 ((wrap64 (((rd_T29 l0 t153).f1) + 1)) - ((rd_T29 l1 0).f1))))), .string ((rd_T29 l1 x13_2).f2)] (fun k_ => k_ ≠ gb169) (fun _ => False) rfl (by first | (go_simp; done) | (go_simp; rfl)) ?aP (fun _ hk => hk.elim) ?aF ?aO ?aB ?aS ?aL ?_; (case aP => exact k29_mkM _ _ _ (⟨(rd_T29 l1 x13_2).f0, wrap64 (((rd_T29 l1 x13_2).f1) + (wrap64 ((wrap64 (((rd_T29 l0 t153).f1) + 1)) - ((rd_T29 l1 0).f1)))), (rd_T29 l1 x13_2).f2⟩ : S29)); (case aB => exact belowA); (case aF => exact (fun k_ hk => Kd.freshB (g := gb169) (o := .cells #[.int .i64 ((rd_T29 l1 x13_2).f0), .int .i64 (wrap64 (((rd_T29 l1 x13_2).f1) + (wrap64 ((wrap64 (((rd_T29 l0 t153).f1) + 1)) - ((rd_T29 l1 0).f1))))), .string ((rd_T29 l1 x13_2).f2)] 29 (0, 0)) (blk_put (blk_put (blk_put (blk_put (blkC #[.int .i64 0, .int .i64 0, .string (⟨#[]⟩ : ByteArray)]) 0 _ rfl) 1 _ rfl) 2 _ rfl) 1 _ rfl) k_ hk)); (case aO => exact (by (with_reducible repeat (first | apply Kd.R_alloc | apply Kd.R_drewN | apply Kd.R_drew)); exact Kd.R_mono (Kd.R_far (p := ⟨gb169, 1, none⟩) (Kd.R_far (p := ⟨gb169, 2, none⟩) (Kd.R_far (p := ⟨gb169, 1, none⟩) (Kd.R_far (p := ⟨gb169, 0, none⟩) (Kd.R_mono HO_12.out (fun k_ hk => (⟨hk, hk.2⟩ : _ ∧ k_ ≠ gb169))) (fun _ hk => hk.2) (.int .i64 ((rd_T29 l1 x13_2).f0))) (fun _ hk => hk.2) (.int .i64 ((rd_T29 l1 x13_2).f1))) (fun _ hk => hk.2) (.string ((rd_T29 l1 x13_2).f2))) (fun _ hk => hk.2) (.int .i64 (wrap64 (((rd_T29 l1 x13_2).f1) + (wrap64 ((wrap64 (((rd_T29 l0 t153).f1) + 1)) - ((rd_T29 l1 0).f1))))))) (fun _ hk => hk.1.2))); (case aS => exact (below_size belowA)); (case aL => have := LMc22.out; omega); intro v171 w25 ho hb hg hat; rw [← Ny170.out] at ho; have n0_ := Aside0.mk (blk_grown (g := gb169) (o := .cells #[.int .i64 ((rd_T29 l1 x13_2).f0), .int .i64 (wrap64 (((rd_T29 l1 x13_2).f1) + (wrap64 ((wrap64 (((rd_T29 l0 t153).f1) + 1)) - ((rd_T29 l1 0).f1))))), .string ((rd_T29 l1 x13_2).f2)] 29 (0, 0)) (blk_put (blk_put (blk_put (blk_put (blkC #[.int .i64 0, .int .i64 0, .string (⟨#[]⟩ : ByteArray)]) 0 _ rfl) 1 _ rfl) 2 _ rfl) 1 _ rfl) hg (Kd.R_away HO_12.out (fun _ hk => hk.2))); have n1_ := Aside0.mk (hb); have n2_ := Aside0.mk (ho); clear BK169; clear HB; clear HO_12; have BK169 := n0_; have HB := n1_; have HO172 := n2_; clear n0_ n1_ n2_; clear ho hb hg hat)))
                            go_roundg k2
                            case measure => have := HJ8.out; have := HK2.out; omega
                            case rel => exact ⟨(y170), (wrap64 (x13_2 + 1)), (by first | rfl | (simp; done) | (simp [*]; done)), H', ⟨by have := HJ8.out; have := HK2.out; omega⟩, ⟨by (with_reducible repeat (first | apply Kd.R_alloc | apply Kd.R_drewN | apply Kd.R_drew)); exact Kd.R_mono HO172.out (fun _ hk => trivial)⟩, ⟨belowA⟩⟩
                          · rw [if_neg c22] at H
                            exact absurd H (by simp)
                        · rw [if_neg c21] at H
                          exact absurd H (by simp)
                      · rw [if_neg c20] at H
                        have c20b0 : decide (x13_2 < (l1.length : Int)) = false := decide_eq_false c20
                        clear c20
                        by_cases c26 : 0 ≤ x11_8
                        · rw [if_pos c26] at H
                          have c26b0 := eq_true c26
                          have c26b1 : decide (0 ≤ x11_8) = true := decide_eq_true c26
                          clear c26
                          by_cases c27 : x11_8 ≤ (l0.length : Int)
                          · rw [if_pos c27] at H
                            have c27b0 := eq_true c27
                            have c27b1 : decide (x11_8 ≤ (l0.length : Int)) = true := decide_eq_true c27
                            clear c27
                            obtain ⟨y173, hy173⟩ : ∃ y_ : List (S29), y_ = (l0.drop (x11_8 : Int).toNat) := ⟨_, rfl⟩
                            replace H : (if x12_2.length + y173.length < 4398046511104 then (some (x12_2 ++ y173)) else (none)) = some r := by first | (rw [hy173]; with_reducible exact H) | (have H2_ := (Option.bind_some _ _).symm.trans H; rw [hy173]; with_reducible exact H2_) | (have H2_ := (Option.bind_some _ _).symm.trans H; with_reducible exact H2_) | with_reducible exact H | (rw [hy173]; exact H) | exact H
                            have Ny173 := Aside0.mk hy173
                            clear hy173
                            by_cases c28 : x12_2.length + y173.length < 4398046511104
                            · rw [if_pos c28] at H
                              have LMc28 := Aside0.mk c28
                              clear c28
                              obtain ⟨y177, hy177⟩ : ∃ y_ : List (S29), y_ = (x12_2 ++ y173) := ⟨_, rfl⟩
                              replace H : (some y177) = some r := by first | (rw [hy177]; with_reducible exact H) | (have H2_ := (Option.bind_some _ _).symm.trans H; rw [hy177]; with_reducible exact H2_) | (have H2_ := (Option.bind_some _ _).symm.trans H; with_reducible exact H2_) | with_reducible exact H | (rw [hy177]; exact H) | exact H
                              have Ny177 := Aside0.mk hy177
                              clear hy177
                              obtain rfl := Option.some.inj H
                              have q29 : (x11_8 : Int) ≤ ((l0.length : Int) : Int) := of_decide_eq_true (by first | (with_reducible assumption) | assumption)
                              obtain ⟨i029, hi029, _, hsz29, _⟩ := info_parts info29
                              have hroom29 : l0.length ≤ c0 := HC0.out
                              have hC29 : Kd.C k29 _ (some ad154) l0.length l0 := HR0.out
                              have q029 : (0 : Int) ≤ (x11_8 : Int) := of_decide_eq_true (by first | (with_reducible assumption) | assumption)
                              have hcut29 := cut_from (P := Tryd.prog) 23 29 .i64 Tryd.underlying23 hi029 3 hsz29 (some ad154) l0.length c0 x11_8 q029 q29
                              have hr29 := Kd.C_drop (m := (x11_8 : Int).toNat) (c := c0) hC29 (by omega) hroom29
                              obtain ⟨A29, hA29⟩ : ∃ A1, A1 = (if c0 = (x11_8 : Int).toNat then (some ad154) else ((some ad154) : Option Addr).map (·.add ((x11_8 : Int).toNat * 3))) := ⟨_, rfl⟩
                              obtain ⟨c29, hc29⟩ : ∃ c1, c1 = c0 - (x11_8 : Int).toNat := ⟨_, rfl⟩
                              have hy29 : y173.length = l0.length - (x11_8 : Int).toNat := (by rw [Ny173.out, List.length_drop] <;> omega)
                              rw [show (l0).drop (x11_8 : Int).toNat = y173 from Ny173.out.symm] at hr29
                              replace hr29 : Kd.C k29 _ A29 y173.length y173 := (by rw [hA29]; exact hr29)
                              rw [← hy29, ← hA29, ← hc29] at hcut29
                              have HR176 := Aside0.mk hr29
                              have HC176 := Aside0.mk (show y173.length ≤ c29 from by rw [hy29, hc29]; exact Nat.sub_le_sub_right hroom29 _)
                              clear hr29 hC29 hroom29 hi029 hsz29 hc29
                              have KY29 := Aside0.mk hy29
                              have KA29 := Aside0.mk hA29
                              clear hy29 hA29
                              replace q29 := eq_true q29
                              go_wp2_with (first | ((with_reducible refine gate_builtin (b := .append) (xs := #[.tmp 62, .tmp 65]) rfl ?_); at_builtin; refine Kd.R_append_rows k29 (w0 := w) w.heap.size rfl (.tmp 62) (.tmp 65) 23 29 (.agg #[(.int .i64 0), (.int .i64 0), (.string ⟨#[]⟩)]) 32 rfl Tryd.underlying23 info29 rfl (by decide) (by omega) u12 x12_2 y173 _ _ _ (fun _ => True) (fun _ => False) rfl rfl ?aO ?aR (fun _ _ h => h) (fun _ h => h.elim) ?aF ?aB ?aS ?aL ?_; (case aR => exact CA (Kd.C_below HR176.out HB.out)); (case aB => exact belowA); (case aF => exact (fun _ _ => trivial)); (case aO => exact (RA HO_12)); (case aS => exact (below_size belowA)); (case aL => have := LMc28.out; omega); intro v178 w30 ho hb hg hat; rw [← Ny177.out] at ho; have n0_ := Aside0.mk (hb); have n1_ := Aside0.mk (ho); clear HB; clear HO_12; have HB := n0_; have HO179 := n1_; clear n0_ n1_; clear ho hb hg hat))
                              repeat (go_quiet (first | ((with_reducible refine gate_builtin (b := .append) (xs := #[.tmp 62, .tmp 65]) rfl ?_); at_builtin; refine Kd.R_append_rows k29 (w0 := w) w.heap.size rfl (.tmp 62) (.tmp 65) 23 29 (.agg #[(.int .i64 0), (.int .i64 0), (.string ⟨#[]⟩)]) 32 rfl Tryd.underlying23 info29 rfl (by decide) (by omega) u12 x12_2 y173 _ _ _ (fun _ => True) (fun _ => False) rfl rfl ?aO ?aR (fun _ _ h => h) (fun _ h => h.elim) ?aF ?aB ?aS ?aL ?_; (case aR => exact CA (Kd.C_below HR176.out HB.out)); (case aB => exact belowA); (case aF => exact (fun _ _ => trivial)); (case aO => exact (RA HO_12)); (case aS => exact (below_size belowA)); (case aL => have := LMc28.out; omega); intro v178 w30 ho hb hg hat; rw [← Ny177.out] at ho; have n0_ := Aside0.mk (hb); have n1_ := Aside0.mk (ho); clear HB; clear HO_12; have HB := n0_; have HO179 := n1_; clear n0_ n1_; clear ho hb hg hat)); try go_wp2_with (first | ((with_reducible refine gate_builtin (b := .append) (xs := #[.tmp 62, .tmp 65]) rfl ?_); at_builtin; refine Kd.R_append_rows k29 (w0 := w) w.heap.size rfl (.tmp 62) (.tmp 65) 23 29 (.agg #[(.int .i64 0), (.int .i64 0), (.string ⟨#[]⟩)]) 32 rfl Tryd.underlying23 info29 rfl (by decide) (by omega) u12 x12_2 y173 _ _ _ (fun _ => True) (fun _ => False) rfl rfl ?aO ?aR (fun _ _ h => h) (fun _ h => h.elim) ?aF ?aB ?aS ?aL ?_; (case aR => exact CA (Kd.C_below HR176.out HB.out)); (case aB => exact belowA); (case aF => exact (fun _ _ => trivial)); (case aO => exact (RA HO_12)); (case aS => exact (below_size belowA)); (case aL => have := LMc28.out; omega); intro v178 w30 ho hb hg hat; rw [← Ny177.out] at ho; have n0_ := Aside0.mk (hb); have n1_ := Aside0.mk (ho); clear HB; clear HO_12; have HB := n0_; have HO179 := n1_; clear n0_ n1_; clear ho hb hg hat)))
                              go_ret
                              exact ⟨_, endA, RA HO179, belowA⟩
                            · rw [if_neg c28] at H
                              exact absurd H (by simp)
                          · rw [if_neg c27] at H
                            exact absurd H (by simp)
                        · rw [if_neg c26] at H
                          exact absurd H (by simp)
                · rw [if_neg c15] at H
                  exact absurd H (by simp)
              · rw [if_neg c14] at H
                exact absurd H (by simp)
            · rw [if_neg c13] at H
              exact absurd H (by simp)
      · rw [if_neg c8] at H
        exact absurd H (by simp)
    · rw [if_neg c7] at H
      exact absurd H (by simp)
  · rw [if_neg c6] at H
    exact absurd H (by simp)

/-! ### spec_l3Do: function 58 -/
def spec_l3Do.f (k : Nat) (l0 : List (S29)) (a1_0 : Int) (a1_1 : Int) (a1_2 : Int) (a1_3 : Int) (a1_4 : ByteArray) : Option ((List (S29))) := (spec_l2At.f k l0 a1_1).bind fun t181 => (if a1_0 = 2 then ((some (([] : List (S29)) : List (S29))).bind fun y182 => (if y182.length + l0.length < 4398046511104 then ((some (y182 ++ l0 : List (S29))).bind fun y185 => (if t181 ≥ 0 then (if 0 ≤ t181 then (if t181 < (y185.length : Int) then (some (y185.set (t181 : Int).toNat (⟨(rd_T29 y185 t181).f0, (rd_T29 y185 t181).f1, a1_4⟩ : S29))) else (none)) else (none)) else (some y185))) else (none))) else ((spec_l3Where.f k l0 a1_0 a1_1 a1_2 a1_3 a1_4).bind fun bt189 => (if bt189.2.2 = true then (if a1_0 = 1 then ((spec_l3Put.f k l0 (([(⟨a1_1, 0, a1_4⟩ : S29)] : List (S29))) bt189.1 bt189.2.1).bind fun t201 => (some t201)) else ((spec_l2End.f k l0 t181).bind fun t204 => ((some (([] : List (S29)) : List (S29))).bind fun y205 => (if 0 ≤ t181 then (if t181 ≤ t204 then (if t204 ≤ (l0.length : Int) then ((some ((l0.take (t204 : Int).toNat).drop (t181 : Int).toNat : List (S29))).bind fun y208 => (if y205.length + y208.length < 4398046511104 then ((some (([] : List (S29)) : List (S29))).bind fun y215 => (if t181 ≤ (l0.length : Int) then ((some (l0.take (t181 : Int).toNat : List (S29))).bind fun y218 => (if y215.length + y218.length < 4398046511104 then ((some (y215 ++ y218 : List (S29))).bind fun y222 => (if 0 ≤ t204 then ((some (l0.drop (t204 : Int).toNat : List (S29))).bind fun y225 => (if y222.length + y225.length < 4398046511104 then ((spec_l3Put.f k (y222 ++ y225) (y205 ++ y208) bt189.1 bt189.2.1).bind fun t232 => (some t232)) else (none))) else (none))) else (none))) else (none))) else (none))) else (none)) else (none)) else (none))))) else ((some (([] : List (S29)) : List (S29))).bind fun y192 => (if y192.length + l0.length < 4398046511104 then (some (y192 ++ l0)) else (none))))))
theorem spec_l3Do.mono : ∀ a0 a1 a2 a3 a4 a5 k, LeO (spec_l3Do.f k a0 a1 a2 a3 a4 a5) (spec_l3Do.f (k + 1) a0 a1 a2 a3 a4 a5) := by
  intro a0 a1 a2 a3 a4 a5 k
  unfold spec_l3Do.f
  repeat' first
      | (with_reducible exact spec_l2At.mono _ _ _)
      | (with_reducible exact spec_l2End.mono _ _ _)
      | (with_reducible exact spec_l3Put.mono _ _ _ _ _)
      | (with_reducible exact spec_l3Where.mono _ _ _ _ _ _ _)
      | (with_reducible exact LeO.refl _)
      | (with_reducible exact LeO.none _)
      | (with_reducible refine LeO.ite ?_ ?_)
      | (with_reducible refine LeO.bind ?_ (fun _ => ?_))
      | exact spec_l2At.mono _ _ _
      | exact spec_l2End.mono _ _ _
      | exact spec_l3Put.mono _ _ _ _ _
      | exact spec_l3Where.mono _ _ _ _ _ _ _
      | exact LeO.none _
      | refine LeO.ite ?_ ?_
      | refine LeO.bind ?_ (fun _ => ?_)
def spec_l3Do.T14 : Bool × List (List Nat × List Nat) := (true, [([], []), ([], []), ([], []), ([1, 2], [1, 2]), ([0, 3], [0, 3]), ([], []), ([], []), ([5, 6], [5, 6]), ([4, 7, 4], [4, 7]), ([8, 8, 0, 1, 2, 3, 4, 5, 6, 7, 8], [8])])
def spec_l3Do.B14 : List Nat := [0, 0, 0, 6, 15, 0, 0, 96, 255, 511]
theorem spec_l3Do.tab14 : rtab .any (opsOf Tryd.f58 14) = spec_l3Do.T14 := by kernel_rfl
theorem spec_l3Do.bits14 : waitsOk spec_l3Do.T14.2 spec_l3Do.B14 = true := by kernel_rfl
set_option maxHeartbeats 8000000 in
set_option maxRecDepth 100000 in
theorem spec_l3Do.calls (k : Nat) (A0 : Option Addr) (c0 : Nat) (l0 : List (S29)) (a1_0 : Int) (a1_1 : Int) (a1_2 : Int) (a1_3 : Int) (a1_4 : ByteArray) (r : List (S29)) (w : World) (hr0 : Kd.C k29 w A0 l0.length l0) (hc0 : l0.length ≤ c0) (h : spec_l3Do.f k l0 a1_0 a1_1 a1_2 a1_3 a1_4 = some r) :
    Calls Tryd.prog 58 #[.slice A0 l0.length c0, .agg #[.int .i64 a1_0, .int .i64 a1_1, .int .i64 a1_2, .int .i64 a1_3, .string a1_4]] w fun e w' => ∃ v0_ : Value, e = .returned (v0_) ∧ Kd.R k29 29 w' w.heap.size (fun _ => True) v0_ r ∧ Below w.heap.size w w' := by
  have hu37 := Tryd.underlying37
  have hu29 := Tryd.underlying29
  have HR0 := Aside0.mk hr0
  have HC0 := Aside0.mk hc0
  clear hr0 hc0
  have HB := Aside0.mk (Below.refl w.heap.size w)
  have H : ((spec_l2At.f k l0 a1_1).bind fun t181 => (if a1_0 = 2 then ((some (([] : List (S29)) : List (S29))).bind fun y182 => (if y182.length + l0.length < 4398046511104 then ((some (y182 ++ l0 : List (S29))).bind fun y185 => (if t181 ≥ 0 then (if 0 ≤ t181 then (if t181 < (y185.length : Int) then (some (y185.set (t181 : Int).toNat (⟨(rd_T29 y185 t181).f0, (rd_T29 y185 t181).f1, a1_4⟩ : S29))) else (none)) else (none)) else (some y185))) else (none))) else ((spec_l3Where.f k l0 a1_0 a1_1 a1_2 a1_3 a1_4).bind fun bt189 => (if bt189.2.2 = true then (if a1_0 = 1 then ((spec_l3Put.f k l0 (([(⟨a1_1, 0, a1_4⟩ : S29)] : List (S29))) bt189.1 bt189.2.1).bind fun t201 => (some t201)) else ((spec_l2End.f k l0 t181).bind fun t204 => ((some (([] : List (S29)) : List (S29))).bind fun y205 => (if 0 ≤ t181 then (if t181 ≤ t204 then (if t204 ≤ (l0.length : Int) then ((some ((l0.take (t204 : Int).toNat).drop (t181 : Int).toNat : List (S29))).bind fun y208 => (if y205.length + y208.length < 4398046511104 then ((some (([] : List (S29)) : List (S29))).bind fun y215 => (if t181 ≤ (l0.length : Int) then ((some (l0.take (t181 : Int).toNat : List (S29))).bind fun y218 => (if y215.length + y218.length < 4398046511104 then ((some (y215 ++ y218 : List (S29))).bind fun y222 => (if 0 ≤ t204 then ((some (l0.drop (t204 : Int).toNat : List (S29))).bind fun y225 => (if y222.length + y225.length < 4398046511104 then ((spec_l3Put.f k (y222 ++ y225) (y205 ++ y208) bt189.1 bt189.2.1).bind fun t232 => (some t232)) else (none))) else (none))) else (none))) else (none))) else (none))) else (none)) else (none)) else (none))))) else ((some (([] : List (S29)) : List (S29))).bind fun y192 => (if y192.length + l0.length < 4398046511104 then (some (y192 ++ l0)) else (none))))))) = some r := h
  clear h
  replace H := Option.bind_eq_some_iff.mp H
  obtain ⟨t181, A30, H⟩ := H
  (try dsimp only at H)
  have A3 := Aside0.mk A30
  clear A30
  by_cases c4 : a1_0 = 2
  · rw [if_pos c4] at H
    have c4b0 : (a1_0 == 2) = true := beq_iff_eq.mpr c4
    have c4b1 : (a1_0 != 2) = false := bne_eq_false_iff_eq.mpr c4
    clear c4
    obtain ⟨y182, hy182⟩ : ∃ y_ : List (S29), y_ = (([] : List (S29))) := ⟨_, rfl⟩
    replace H : (if y182.length + l0.length < 4398046511104 then ((some (y182 ++ l0 : List (S29))).bind fun y185 => (if t181 ≥ 0 then (if 0 ≤ t181 then (if t181 < (y185.length : Int) then (some (y185.set (t181 : Int).toNat (⟨(rd_T29 y185 t181).f0, (rd_T29 y185 t181).f1, a1_4⟩ : S29))) else (none)) else (none)) else (some y185))) else (none)) = some r := by first | (rw [hy182]; with_reducible exact H) | (have H2_ := (Option.bind_some _ _).symm.trans H; rw [hy182]; with_reducible exact H2_) | (have H2_ := (Option.bind_some _ _).symm.trans H; with_reducible exact H2_) | with_reducible exact H | (rw [hy182]; exact H) | exact H
    have Ny182 := Aside0.mk hy182
    clear hy182
    by_cases c5 : y182.length + l0.length < 4398046511104
    · rw [if_pos c5] at H
      have LMc5 := Aside0.mk c5
      clear c5
      obtain ⟨y185, hy185⟩ : ∃ y_ : List (S29), y_ = (y182 ++ l0) := ⟨_, rfl⟩
      replace H : (if t181 ≥ 0 then (if 0 ≤ t181 then (if t181 < (y185.length : Int) then (some (y185.set (t181 : Int).toNat (⟨(rd_T29 y185 t181).f0, (rd_T29 y185 t181).f1, a1_4⟩ : S29))) else (none)) else (none)) else (some y185)) = some r := by first | (rw [hy185]; with_reducible exact H) | (have H2_ := (Option.bind_some _ _).symm.trans H; rw [hy185]; with_reducible exact H2_) | (have H2_ := (Option.bind_some _ _).symm.trans H; with_reducible exact H2_) | with_reducible exact H | (rw [hy185]; exact H) | exact H
      have Ny185 := Aside0.mk hy185
      clear hy185
      by_cases c6 : t181 ≥ 0
      · rw [if_pos c6] at H
        have c6b0 : decide (0 ≤ t181) = true := decide_eq_true c6
        clear c6
        by_cases c7 : 0 ≤ t181
        · rw [if_pos c7] at H
          have c7b0 : decide (0 ≤ t181) = true := decide_eq_true c7
          clear c7
          by_cases c8 : t181 < (y185.length : Int)
          · rw [if_pos c8] at H
            have c8b0 : decide (t181 < (y185.length : Int)) = true := decide_eq_true c8
            clear c8
            obtain ⟨y188, hy188⟩ : ∃ y_ : List (S29), y_ = (y185.set (t181 : Int).toNat (⟨(rd_T29 y185 t181).f0, (rd_T29 y185 t181).f1, a1_4⟩ : S29)) := ⟨_, rfl⟩
            replace H : (some y188) = some r := by first | (rw [hy188]; with_reducible exact H) | (have H2_ := (Option.bind_some _ _).symm.trans H; rw [hy188]; with_reducible exact H2_) | (have H2_ := (Option.bind_some _ _).symm.trans H; with_reducible exact H2_) | with_reducible exact H | (rw [hy188]; exact H) | exact H
            have Ny188 := Aside0.mk hy188
            clear hy188
            obtain rfl := Option.some.inj H
            go_enter Tryd.func58, Tryd.ntmps58
            go_wp2_with (first | ((with_reducible refine gate_dst (N := 3) rfl ?_); refine box_event ?hg (N := 3) ?hd (cs := #[.int .i64 a1_0, .int .i64 a1_1, .int .i64 a1_2, .int .i64 a1_3, .string a1_4]) (t := 37) ?hr ?_; (case hd => rfl); (case hg => rfl); (case hr => first | (go_simp; done) | (go_simp; rfl)); intro gb180 hg w10 hbox hb; have n0_ := Aside0.mk (below_step belowA hb); have n1_ := Aside0.mk (hbox); have n2_ := Aside0.mk ((by rw [hg]; exact (below_size belowA) : w.heap.size ≤ gb180)); have n3_ := Aside0.mk ((by rw [hg]; exact (below_size belowA) : w.heap.size ≤ gb180)); clear HB; have HB := n0_; have BK180 := n1_; obtain ⟨hcq_0, hcq_1, hcq_2, hcq_3, hcq_4, hfq_0, hfq_1, hfq_2, hfq_3, hfq_4⟩ := blk_facts5 BK180.out; have GW180 := n2_; have GE180 := n3_; clear n0_ n1_ n2_ n3_; clear hb hbox hg; obtain ⟨hcz11_0, hcz11_1, hcz11_2, hcz11_3, hcz11_4, hfz11_0, hfz11_1, hfz11_2, hfz11_3, hfz11_4⟩ := blk_facts5 BK180.out) | ((with_reducible refine gate_callee (f := 80) rfl ?_); refine goesL_ (some 16) rfl rfl Tryd.func80 (by kernel_rfl) rfl #[.slice A0 l0.length c0, .int .i64 a1_1] rfl argsA ?_; (with_reducible refine (spec_l2At.calls k _ _ l0 a1_1 t181 _ ?side1 ?side2 A3.out).mono ?_); (case side1 => exact CA (Kd.C_below HR0.out HB.out)); (case side2 => exact HC0.out); rintro e w' ⟨rfl, ⟨nd, rfl⟩⟩; refine ⟨_, rfl, ?_⟩; (try (rw [drewN_self w10]; generalize hq_ : World.drewN w10 _ = w10; have n0_ : Aside0 (w10.heap[gb180]? = some (.cells #[.int .i64 a1_0, .int .i64 a1_1, .int .i64 a1_2, .int .i64 a1_3, .string a1_4] 37 (0, 0))) := ⟨by rw [← hq_]; exact blkA⟩; have n1_ : Aside0 (Below w.heap.size w w10) := ⟨by rw [← hq_]; exact belowA⟩; clear BK180 HB hq_; have BK180 := n0_; obtain ⟨hcq_0, hcq_1, hcq_2, hcq_3, hcq_4, hfq_0, hfq_1, hfq_2, hfq_3, hfq_4⟩ := blk_facts5 BK180.out; have HB := n1_; clear n0_ n1_))) | ((with_reducible refine gate_dst (N := 20) rfl ?_); refine Kd.R_lit k29 _ 29 ?hg (N := 20) ?hd (xs := ([] : List (S29))) (inner := []) (ok := fun _ => True) (okp := fun _ => True) ?hr ?hp (fun _ hk => hk) trivial (Below.refl _ _) (Nat.le_refl _) (by simp) ?_; (case hd => rfl); (case hg => rfl); (case hr => first | (go_simp; done) | (go_simp; rfl)); (case hp => exact (Reps.none _ _)); intro v183 w12 ho13 hb hg_ hnew_; clear hg_ hnew_; (first | rw [← Ny182.out] at ho13 | (simp only [Int.reduceToNat] at ho13; rw [← Ny182.out] at ho13)); have n0_ := Aside0.mk (Kd.R_lower ho13 (below_size belowA)); have n1_ := Aside0.mk (blk_below (g := gb180) (o := .cells #[.int .i64 a1_0, .int .i64 a1_1, .int .i64 a1_2, .int .i64 a1_3, .string a1_4] 37 (0, 0)) blkA hb); have n2_ := Aside0.mk (below_step belowA hb); clear BK180; clear HB; have HO184 := n0_; have BK180 := n1_; obtain ⟨hcq_0, hcq_1, hcq_2, hcq_3, hcq_4, hfq_0, hfq_1, hfq_2, hfq_3, hfq_4⟩ := blk_facts5 BK180.out; have HB := n2_; clear n0_ n1_ n2_; clear hb ho13) | ((with_reducible refine gate_builtin (b := .append) (xs := #[.tmp 20, .tmp 21]) rfl ?_); at_builtin; refine Kd.R_append_rows k29 (w0 := w) w.heap.size rfl (.tmp 20) (.tmp 21) 23 29 (.agg #[(.int .i64 0), (.int .i64 0), (.string ⟨#[]⟩)]) 32 rfl Tryd.underlying23 info29 rfl (by decide) (by omega) v183 y182 l0 _ _ _ (fun _ => True) (fun _ => False) rfl rfl ?aO ?aR (fun _ _ h => h) (fun _ h => h.elim) ?aF ?aB ?aS ?aL ?_; (case aR => exact CA (Kd.C_below HR0.out HB.out)); (case aB => exact belowA); (case aF => exact (fun _ _ => trivial)); (case aO => exact (RA HO184)); (case aS => exact (below_size belowA)); (case aL => have := LMc5.out; omega); intro v186 w14 ho hb hg hat; rw [← Ny185.out] at ho; have n0_ := Aside0.mk (blk_grown (g := gb180) (o := .cells #[.int .i64 a1_0, .int .i64 a1_1, .int .i64 a1_2, .int .i64 a1_3, .string a1_4] 37 (0, 0)) blkA hg (Kd.R_ne HO184.out BK180.out (by decide))); have n1_ := Aside0.mk (hb); have n2_ := Aside0.mk (ho); clear BK180; clear HB; clear HO184; have BK180 := n0_; obtain ⟨hcq_0, hcq_1, hcq_2, hcq_3, hcq_4, hfq_0, hfq_1, hfq_2, hfq_3, hfq_4⟩ := blk_facts5 BK180.out; have HB := n1_; have HO187 := n2_; clear n0_ n1_ n2_; clear ho hb hg hat; obtain ⟨hcz15_0, hcz15_1, hcz15_2, hcz15_3, hcz15_4, hfz15_0, hfz15_1, hfz15_2, hfz15_3, hfz15_4⟩ := blk_facts5 BK180.out; have p9 : 0 ≤ (t181 : Int) := of_decide_eq_true (by first | (with_reducible assumption) | assumption); have q9 : (t181 : Int) < ((y185.length : Int) : Int) := of_decide_eq_true (by first | (with_reducible assumption) | assumption); obtain ⟨go9, co9, eo9, gb9, gl9, cl9, HG9⟩ := Kd.R_form HO187.out (by omega); (first | cases eo9 | (injection eo9 with ea_ en_ ec_; (first | subst ea_ | (injection ea_ with ea_; subst ea_)); subst ec_; clear en_)); have GB9 := Aside0.mk gb9; have GG9 := Aside0.mk HG9; clear gb9 gl9 HG9; obtain ⟨ce9, hcl9, hM9, hcc9, hfr9⟩ := Kd.R_elem HO187.out z29 (t181 : Int) p9 q9; obtain rfl := k29_openM hM9; have hx9_0 : w14.cell? ⟨go9, (t181 : Int).toNat * 3, none⟩ = some (.int .i64 ((rd_T29 y185 t181).f0)) := hcc9 0 _ rfl; have hx9_1 : w14.cell? ⟨go9, (t181 : Int).toNat * 3 + 1, none⟩ = some (.int .i64 ((rd_T29 y185 t181).f1)) := hcc9 1 _ rfl; have hx9_2 : w14.cell? ⟨go9, (t181 : Int).toNat * 3 + 2, none⟩ = some (.string ((rd_T29 y185 t181).f2)) := hcc9 2 _ rfl; have hf9_0 : w14.frozen? ⟨go9, (t181 : Int).toNat * 3, none⟩ = false := hfr9 0; have hf9_1 : w14.frozen? ⟨go9, (t181 : Int).toNat * 3 + 1, none⟩ = false := hfr9 1; have hf9_2 : w14.frozen? ⟨go9, (t181 : Int).toNat * 3 + 2, none⟩ = false := hfr9 2; clear hcl9 hcc9 hfr9 hM9; replace p9 := eq_true p9; replace q9 := eq_true q9; have HX16 := Aside0.mk (show Kd.R k29 29 w14 w.heap.size (fun _ => True) (.slice (some ⟨go9, 0, none⟩) y185.length co9) y185 from (RA HO187)); obtain ⟨ce16, hcl16, hM16, hcc16, hfr16⟩ := Kd.R_elem HX16.out z29 (t181 : Int) (of_decide_eq_true (by first | (with_reducible assumption) | assumption)) (by have h_ : (t181 : Int) < ((y185.length : Int) : Int) := of_decide_eq_true (by first | (with_reducible assumption) | assumption); first | exact h_ | (have e_ := (Kd.R_reads' HO187.out).1; omega) | simpa using h_); obtain rfl := k29_openM hM16; have HP16 := Kd.R_seg HX16.out (t181 : Int) (of_decide_eq_true (by first | (with_reducible assumption) | assumption)) (by have h_ : (t181 : Int) < ((y185.length : Int) : Int) := of_decide_eq_true (by first | (with_reducible assumption) | assumption); first | exact h_ | (have e_ := (Kd.R_reads' HO187.out).1; omega) | simpa using h_) (seg := [.string a1_4]) (j := 2) hcl16 hcc16 (show 3 ≤ 3 from by decide) (x' := (⟨(rd_T29 y185 t181).f0, (rd_T29 y185 t181).f1, a1_4⟩ : S29)) (k29_mkM _ _ _ (⟨(rd_T29 y185 t181).f0, (rd_T29 y185 t181).f1, a1_4⟩ : S29) ) (fun _ hk => hk); have hx16_2 := hcc16 2 _ rfl; (try simp only [show (k29).sz = 3 from rfl, Nat.mul_one, Nat.add_zero] at hx16_2); have hf16_2 := hfr16 2; (try simp only [show (k29).sz = 3 from rfl, Nat.mul_one, Nat.add_zero] at hf16_2); clear hcl16 hcc16 hfr16 hM16) | ((with_reducible refine gate_store (t := 9) (p := 30) rfl ?_); refine store_event (t := 9) (p := 30) (v := ?vo_w17) (w1 := (w14.setCell ⟨go9, (t181 : Int).toNat * 3 + 2, none⟩ (.string a1_4))) ?hg ?ho ?hn ?hr ?_; (case ho => rfl); (case hg => rfl); (case hn => rfl); (case hr => first | (go_simp; done) | (go_simp; rfl)); intro w17 hw; have hg : w14.grownBy w17 (some go9) := (by rw [hw]; exact HP16.2); have hp_ : Kd.R k29 29 w17 w.heap.size (fun _ => True) (.slice (some ⟨go9, 0, none⟩) y185.length co9) y188 := (by rw [hw, Ny188.out]; exact HP16.1); clear HP16; have n0_ := Aside0.mk (blk_grown (g := gb180) (o := .cells #[.int .i64 a1_0, .int .i64 a1_1, .int .i64 a1_2, .int .i64 a1_3, .string a1_4] 37 (0, 0)) blkA hg (Kd.R_ne HO187.out BK180.out (by decide))); have n1_ := Aside0.mk (hp_); have n2_ := Aside0.mk ((by rw [hw]; exact below_set (HB.out) GB9.out : Below w.heap.size w w17)); clear BK180; clear HO187; clear HB; have BK180 := n0_; obtain ⟨hcq_0, hcq_1, hcq_2, hcq_3, hcq_4, hfq_0, hfq_1, hfq_2, hfq_3, hfq_4⟩ := blk_facts5 BK180.out; have HO187 := n1_; have HB := n2_; clear n0_ n1_ n2_; clear hg hw hp_))
            go_ret
            exact ⟨_, endA, RA HO187, belowA⟩
          · rw [if_neg c8] at H
            exact absurd H (by simp)
        · rw [if_neg c7] at H
          exact absurd H (by simp)
      · rw [if_neg c6] at H
        have c6b0 : decide (0 ≤ t181) = false := decide_eq_false c6
        clear c6
        obtain rfl := Option.some.inj H
        go_enter Tryd.func58, Tryd.ntmps58
        go_wp2_with (first | ((with_reducible refine gate_dst (N := 3) rfl ?_); refine box_event ?hg (N := 3) ?hd (cs := #[.int .i64 a1_0, .int .i64 a1_1, .int .i64 a1_2, .int .i64 a1_3, .string a1_4]) (t := 37) ?hr ?_; (case hd => rfl); (case hg => rfl); (case hr => first | (go_simp; done) | (go_simp; rfl)); intro gb180 hg w18 hbox hb; have n0_ := Aside0.mk (below_step belowA hb); have n1_ := Aside0.mk (hbox); have n2_ := Aside0.mk ((by rw [hg]; exact (below_size belowA) : w.heap.size ≤ gb180)); have n3_ := Aside0.mk ((by rw [hg]; exact (below_size belowA) : w.heap.size ≤ gb180)); clear HB; have HB := n0_; have BK180 := n1_; obtain ⟨hcq_0, hcq_1, hcq_2, hcq_3, hcq_4, hfq_0, hfq_1, hfq_2, hfq_3, hfq_4⟩ := blk_facts5 BK180.out; have GW180 := n2_; have GE180 := n3_; clear n0_ n1_ n2_ n3_; clear hb hbox hg; obtain ⟨hcz19_0, hcz19_1, hcz19_2, hcz19_3, hcz19_4, hfz19_0, hfz19_1, hfz19_2, hfz19_3, hfz19_4⟩ := blk_facts5 BK180.out) | ((with_reducible refine gate_callee (f := 80) rfl ?_); refine goesL_ (some 16) rfl rfl Tryd.func80 (by kernel_rfl) rfl #[.slice A0 l0.length c0, .int .i64 a1_1] rfl argsA ?_; (with_reducible refine (spec_l2At.calls k _ _ l0 a1_1 t181 _ ?side1 ?side2 A3.out).mono ?_); (case side1 => exact CA (Kd.C_below HR0.out HB.out)); (case side2 => exact HC0.out); rintro e w' ⟨rfl, ⟨nd, rfl⟩⟩; refine ⟨_, rfl, ?_⟩) | ((with_reducible refine gate_dst (N := 20) rfl ?_); refine Kd.R_lit k29 _ 29 ?hg (N := 20) ?hd (xs := ([] : List (S29))) (inner := []) (ok := fun _ => True) (okp := fun _ => True) ?hr ?hp (fun _ hk => hk) trivial (Below.refl _ _) (Nat.le_refl _) (by simp) ?_; (case hd => rfl); (case hg => rfl); (case hr => first | (go_simp; done) | (go_simp; rfl)); (case hp => exact (Reps.none _ _)); intro v183 w20 ho21 hb hg_ hnew_; clear hg_ hnew_; (first | rw [← Ny182.out] at ho21 | (simp only [Int.reduceToNat] at ho21; rw [← Ny182.out] at ho21)); have n0_ := Aside0.mk (Kd.R_lower ho21 (below_size belowA)); have n1_ := Aside0.mk (blk_below (g := gb180) (o := .cells #[.int .i64 a1_0, .int .i64 a1_1, .int .i64 a1_2, .int .i64 a1_3, .string a1_4] 37 (0, 0)) blkA hb); have n2_ := Aside0.mk (below_step belowA hb); clear BK180; clear HB; have HO184 := n0_; have BK180 := n1_; obtain ⟨hcq_0, hcq_1, hcq_2, hcq_3, hcq_4, hfq_0, hfq_1, hfq_2, hfq_3, hfq_4⟩ := blk_facts5 BK180.out; have HB := n2_; clear n0_ n1_ n2_; clear hb ho21) | ((with_reducible refine gate_builtin (b := .append) (xs := #[.tmp 20, .tmp 21]) rfl ?_); at_builtin; refine Kd.R_append_rows k29 (w0 := w) w.heap.size rfl (.tmp 20) (.tmp 21) 23 29 (.agg #[(.int .i64 0), (.int .i64 0), (.string ⟨#[]⟩)]) 32 rfl Tryd.underlying23 info29 rfl (by decide) (by omega) v183 y182 l0 _ _ _ (fun _ => True) (fun _ => False) rfl rfl ?aO ?aR (fun _ _ h => h) (fun _ h => h.elim) ?aF ?aB ?aS ?aL ?_; (case aR => exact CA (Kd.C_below HR0.out HB.out)); (case aB => exact belowA); (case aF => exact (fun _ _ => trivial)); (case aO => exact (RA HO184)); (case aS => exact (below_size belowA)); (case aL => have := LMc5.out; omega); intro v186 w22 ho hb hg hat; rw [← Ny185.out] at ho; have n0_ := Aside0.mk (blk_grown (g := gb180) (o := .cells #[.int .i64 a1_0, .int .i64 a1_1, .int .i64 a1_2, .int .i64 a1_3, .string a1_4] 37 (0, 0)) blkA hg (Kd.R_ne HO184.out BK180.out (by decide))); have n1_ := Aside0.mk (hb); have n2_ := Aside0.mk (ho); clear BK180; clear HB; clear HO184; have BK180 := n0_; obtain ⟨hcq_0, hcq_1, hcq_2, hcq_3, hcq_4, hfq_0, hfq_1, hfq_2, hfq_3, hfq_4⟩ := blk_facts5 BK180.out; have HB := n1_; have HO187 := n2_; clear n0_ n1_ n2_; clear ho hb hg hat))
        go_ret
        exact ⟨_, endA, RA HO187, belowA⟩
    · rw [if_neg c5] at H
      exact absurd H (by simp)
  · rw [if_neg c4] at H
    have c4b0 : (a1_0 == 2) = false := beq_eq_false_iff_ne.mpr c4
    have c4b1 : (a1_0 != 2) = true := bne_iff_ne.mpr c4
    replace H := Option.bind_eq_some_iff.mp H
    obtain ⟨⟨t189, t190, t191⟩, A230, H⟩ := H
    (try dsimp only at H)
    have A23 := Aside0.mk A230
    clear A230
    by_cases c24 : t191 = true
    · subst c24
      have H1 : (if a1_0 = 1 then ((spec_l3Put.f k l0 (([(⟨a1_1, 0, a1_4⟩ : S29)] : List (S29))) t189 t190).bind fun t201 => (some t201)) else ((spec_l2End.f k l0 t181).bind fun t204 => ((some (([] : List (S29)) : List (S29))).bind fun y205 => (if 0 ≤ t181 then (if t181 ≤ t204 then (if t204 ≤ (l0.length : Int) then ((some ((l0.take (t204 : Int).toNat).drop (t181 : Int).toNat : List (S29))).bind fun y208 => (if y205.length + y208.length < 4398046511104 then ((some (([] : List (S29)) : List (S29))).bind fun y215 => (if t181 ≤ (l0.length : Int) then ((some (l0.take (t181 : Int).toNat : List (S29))).bind fun y218 => (if y215.length + y218.length < 4398046511104 then ((some (y215 ++ y218 : List (S29))).bind fun y222 => (if 0 ≤ t204 then ((some (l0.drop (t204 : Int).toNat : List (S29))).bind fun y225 => (if y222.length + y225.length < 4398046511104 then ((spec_l3Put.f k (y222 ++ y225) (y205 ++ y208) t189 t190).bind fun t232 => (some t232)) else (none))) else (none))) else (none))) else (none))) else (none))) else (none)) else (none)) else (none))))) = some r := by rw [if_pos rfl] at H; exact H
      clear H
      have H := H1
      clear H1
      by_cases c25 : a1_0 = 1
      · rw [if_pos c25] at H
        have c25b0 : (a1_0 == 1) = true := beq_iff_eq.mpr c25
        have c25b1 : (a1_0 != 1) = false := bne_eq_false_iff_eq.mpr c25
        clear c25
        obtain ⟨y198, hy198⟩ : ∃ y_ : List (S29), y_ = (([(⟨a1_1, 0, a1_4⟩ : S29)] : List (S29))) := ⟨_, rfl⟩
        replace H : ((spec_l3Put.f k l0 y198 t189 t190).bind fun t201 => (some t201)) = some r := by first | (rw [hy198]; with_reducible exact H) | (have H2_ := (Option.bind_some _ _).symm.trans H; rw [hy198]; with_reducible exact H2_) | (have H2_ := (Option.bind_some _ _).symm.trans H; with_reducible exact H2_) | with_reducible exact H | (rw [hy198]; exact H) | exact H
        have Ny198 := Aside0.mk hy198
        clear hy198
        replace H := Option.bind_eq_some_iff.mp H
        obtain ⟨t201, A260, H⟩ := H
        (try dsimp only at H)
        have A26 := Aside0.mk A260
        clear A260
        obtain rfl := Option.some.inj H
        go_enter Tryd.func58, Tryd.ntmps58
        go_wp2_with (first | ((with_reducible refine gate_dst (N := 3) rfl ?_); refine box_event ?hg (N := 3) ?hd (cs := #[.int .i64 a1_0, .int .i64 a1_1, .int .i64 a1_2, .int .i64 a1_3, .string a1_4]) (t := 37) ?hr ?_; (case hd => rfl); (case hg => rfl); (case hr => first | (go_simp; done) | (go_simp; rfl)); intro gb180 hg w27 hbox hb; have n0_ := Aside0.mk (below_step belowA hb); have n1_ := Aside0.mk (hbox); have n2_ := Aside0.mk ((by rw [hg]; exact (below_size belowA) : w.heap.size ≤ gb180)); have n3_ := Aside0.mk ((by rw [hg]; exact (below_size belowA) : w.heap.size ≤ gb180)); clear HB; have HB := n0_; have BK180 := n1_; obtain ⟨hcq_0, hcq_1, hcq_2, hcq_3, hcq_4, hfq_0, hfq_1, hfq_2, hfq_3, hfq_4⟩ := blk_facts5 BK180.out; have GW180 := n2_; have GE180 := n3_; clear n0_ n1_ n2_ n3_; clear hb hbox hg; obtain ⟨hcz28_0, hcz28_1, hcz28_2, hcz28_3, hcz28_4, hfz28_0, hfz28_1, hfz28_2, hfz28_3, hfz28_4⟩ := blk_facts5 BK180.out) | ((with_reducible refine gate_callee (f := 80) rfl ?_); refine goesL_ (some 16) rfl rfl Tryd.func80 (by kernel_rfl) rfl #[.slice A0 l0.length c0, .int .i64 a1_1] rfl argsA ?_; (with_reducible refine (spec_l2At.calls k _ _ l0 a1_1 t181 _ ?side1 ?side2 A3.out).mono ?_); (case side1 => exact CA (Kd.C_below HR0.out HB.out)); (case side2 => exact HC0.out); rintro e w' ⟨rfl, ⟨nd, rfl⟩⟩; refine ⟨_, rfl, ?_⟩) | ((with_reducible refine gate_callee (f := 82) rfl ?_); refine goesL_ (some 35) rfl rfl Tryd.func82 (by kernel_rfl) rfl #[.slice A0 l0.length c0, .agg #[.int .i64 a1_0, .int .i64 a1_1, .int .i64 a1_2, .int .i64 a1_3, .string a1_4]] rfl argsA ?_; (with_reducible refine (spec_l3Where.calls k _ _ l0 a1_0 a1_1 a1_2 a1_3 a1_4 t189 t190 true _ ?side1 ?side2 A23.out).mono ?_); (case side1 => exact CA (Kd.C_below HR0.out belowA)); (case side2 => exact HC0.out); rintro e w29 ⟨rfl, hb⟩; refine ⟨_, rfl, ?_⟩; have n0_ := Aside0.mk (blk_below (g := gb180) (o := .cells #[.int .i64 a1_0, .int .i64 a1_1, .int .i64 a1_2, .int .i64 a1_3, .string a1_4] 37 (0, 0)) blkA hb); have n1_ := Aside0.mk (below_step belowA hb); clear BK180; clear HB; have BK180 := n0_; obtain ⟨hcq_0, hcq_1, hcq_2, hcq_3, hcq_4, hfq_0, hfq_1, hfq_2, hfq_3, hfq_4⟩ := blk_facts5 BK180.out; have HB := n1_; clear n0_ n1_; (try clear hb); (try clear hb2); (try clear hk); (try clear hi); obtain ⟨hcz30_0, hcz30_1, hcz30_2, hcz30_3, hcz30_4, hfz30_0, hfz30_1, hfz30_2, hfz30_3, hfz30_4⟩ := blk_facts5 BK180.out) | ((with_reducible refine gate_dst (N := 53) rfl ?_); refine Kd.R_lit k29 _ 29 ?hg (N := 53) ?hd (xs := ([(⟨a1_1, 0, a1_4⟩ : S29)] : List (S29))) (inner := [.int .i64 a1_1, .int .i64 0, .string a1_4]) (ok := fun _ => True) (okp := fun _ => True) ?hr ?hp (fun _ hk => hk) trivial (Below.refl _ _) (Nat.le_refl _) (by simp) ?_; (case hd => rfl); (case hg => rfl); (case hr => first | (go_simp; done) | (go_simp; rfl)); (case hp => exact (Reps.c3 (show Kd.M k29 _ _ _ (⟨a1_1, 0, a1_4⟩ : S29) [.int .i64 a1_1, .int .i64 0, .string a1_4] from (k29_mkM _ _ _ (⟨a1_1, 0, a1_4⟩ : S29) )) (Reps.none _ _))); intro v199 w31 ho32 hb hg_ hnew_; clear hg_ hnew_; (first | rw [← Ny198.out] at ho32 | (simp only [Int.reduceToNat] at ho32; rw [← Ny198.out] at ho32)); have n0_ := Aside0.mk (Kd.R_lower ho32 (below_size belowA)); have n1_ := Aside0.mk (blk_below (g := gb180) (o := .cells #[.int .i64 a1_0, .int .i64 a1_1, .int .i64 a1_2, .int .i64 a1_3, .string a1_4] 37 (0, 0)) blkA hb); have n2_ := Aside0.mk (below_step belowA hb); clear BK180; clear HB; have HO200 := n0_; have BK180 := n1_; obtain ⟨hcq_0, hcq_1, hcq_2, hcq_3, hcq_4, hfq_0, hfq_1, hfq_2, hfq_3, hfq_4⟩ := blk_facts5 BK180.out; have HB := n2_; clear n0_ n1_ n2_; clear hb ho32; obtain ⟨Ao33, co33, eo33⟩ := Kd.R_slice HO200.out; subst eo33) | ((with_reducible refine gate_callee (f := 83) rfl ?_); refine goesL_ (some 56) rfl rfl Tryd.func83 (by kernel_rfl) rfl #[.slice A0 l0.length c0, .slice Ao33 y198.length co33, .int .i64 t189, .int .i64 t190] rfl argsA ?_; (with_reducible refine (spec_l3Put.calls k _ _ l0 _ _ y198 t189 t190 t201 _ ?side1 ?side2 ?side3 ?side4 A26.out).mono ?_); (case side1 => exact CA (Kd.C_below HR0.out HB.out)); (case side2 => exact HC0.out); (case side3 => repeat (first | exact (Kd.R_reads' HO200.out).2.2 | (with_reducible refine Kd.C_alloc ?_ _) | (with_reducible refine Kd.C_drewN ?_ _) | (with_reducible refine Kd.C_drew ?_))); (case side4 => exact (Kd.R_reads' HO200.out).2.1); rintro e w34 ⟨v202, rfl, ho0, hb⟩; refine ⟨_, rfl, ?_⟩; have n0_ := Aside0.mk (Kd.R_elder' (RA HO200) (Kd.R_base ho0) hb); have n1_ := Aside0.mk (Kd.R_lower (Kd.R_new' ho0 (Kd.R_lt (RA HO200))) (below_size belowA)); have n2_ := Aside0.mk (blk_below (g := gb180) (o := .cells #[.int .i64 a1_0, .int .i64 a1_1, .int .i64 a1_2, .int .i64 a1_3, .string a1_4] 37 (0, 0)) blkA hb); have n3_ := Aside0.mk (below_step belowA hb); clear HO200; clear BK180; clear HB; have HO200 := n0_; have HO203 := n1_; have BK180 := n2_; obtain ⟨hcq_0, hcq_1, hcq_2, hcq_3, hcq_4, hfq_0, hfq_1, hfq_2, hfq_3, hfq_4⟩ := blk_facts5 BK180.out; have HB := n3_; clear n0_ n1_ n2_ n3_; (try clear hb); (try clear hb2); (try clear hk); (try clear hi); (try clear ho0)))
        go_ret
        exact ⟨_, endA, by (with_reducible repeat (first | apply Kd.R_alloc | apply Kd.R_drewN | apply Kd.R_drew)); exact Kd.R_mono HO203.out (fun _ hk => trivial), belowA⟩
      · rw [if_neg c25] at H
        have c25b0 : (a1_0 == 1) = false := beq_eq_false_iff_ne.mpr c25
        have c25b1 : (a1_0 != 1) = true := bne_iff_ne.mpr c25
        replace H := Option.bind_eq_some_iff.mp H
        obtain ⟨t204, A350, H⟩ := H
        (try dsimp only at H)
        have A35 := Aside0.mk A350
        clear A350
        obtain ⟨y205, hy205⟩ : ∃ y_ : List (S29), y_ = (([] : List (S29))) := ⟨_, rfl⟩
        replace H : (if 0 ≤ t181 then (if t181 ≤ t204 then (if t204 ≤ (l0.length : Int) then ((some ((l0.take (t204 : Int).toNat).drop (t181 : Int).toNat : List (S29))).bind fun y208 => (if y205.length + y208.length < 4398046511104 then ((some (([] : List (S29)) : List (S29))).bind fun y215 => (if t181 ≤ (l0.length : Int) then ((some (l0.take (t181 : Int).toNat : List (S29))).bind fun y218 => (if y215.length + y218.length < 4398046511104 then ((some (y215 ++ y218 : List (S29))).bind fun y222 => (if 0 ≤ t204 then ((some (l0.drop (t204 : Int).toNat : List (S29))).bind fun y225 => (if y222.length + y225.length < 4398046511104 then ((spec_l3Put.f k (y222 ++ y225) (y205 ++ y208) t189 t190).bind fun t232 => (some t232)) else (none))) else (none))) else (none))) else (none))) else (none))) else (none)) else (none)) else (none)) = some r := by first | (rw [hy205]; with_reducible exact H) | (have H2_ := (Option.bind_some _ _).symm.trans H; rw [hy205]; with_reducible exact H2_) | (have H2_ := (Option.bind_some _ _).symm.trans H; with_reducible exact H2_) | with_reducible exact H | (rw [hy205]; exact H) | exact H
        have Ny205 := Aside0.mk hy205
        clear hy205
        by_cases c36 : 0 ≤ t181
        · rw [if_pos c36] at H
          have c36b0 := eq_true c36
          have c36b1 : decide (0 ≤ t181) = true := decide_eq_true c36
          clear c36
          by_cases c37 : t181 ≤ t204
          · rw [if_pos c37] at H
            have c37b0 := eq_true c37
            have c37b1 : decide (t181 ≤ t204) = true := decide_eq_true c37
            clear c37
            by_cases c38 : t204 ≤ (l0.length : Int)
            · rw [if_pos c38] at H
              have c38b0 := eq_true c38
              have c38b1 : decide (t204 ≤ (l0.length : Int)) = true := decide_eq_true c38
              clear c38
              obtain ⟨y208, hy208⟩ : ∃ y_ : List (S29), y_ = ((l0.take (t204 : Int).toNat).drop (t181 : Int).toNat) := ⟨_, rfl⟩
              replace H : (if y205.length + y208.length < 4398046511104 then ((some (([] : List (S29)) : List (S29))).bind fun y215 => (if t181 ≤ (l0.length : Int) then ((some (l0.take (t181 : Int).toNat : List (S29))).bind fun y218 => (if y215.length + y218.length < 4398046511104 then ((some (y215 ++ y218 : List (S29))).bind fun y222 => (if 0 ≤ t204 then ((some (l0.drop (t204 : Int).toNat : List (S29))).bind fun y225 => (if y222.length + y225.length < 4398046511104 then ((spec_l3Put.f k (y222 ++ y225) (y205 ++ y208) t189 t190).bind fun t232 => (some t232)) else (none))) else (none))) else (none))) else (none))) else (none)) = some r := by first | (rw [hy208]; with_reducible exact H) | (have H2_ := (Option.bind_some _ _).symm.trans H; rw [hy208]; with_reducible exact H2_) | (have H2_ := (Option.bind_some _ _).symm.trans H; with_reducible exact H2_) | with_reducible exact H | (rw [hy208]; exact H) | exact H
              have Ny208 := Aside0.mk hy208
              clear hy208
              by_cases c39 : y205.length + y208.length < 4398046511104
              · rw [if_pos c39] at H
                have LMc39 := Aside0.mk c39
                clear c39
                obtain ⟨y212, hy212⟩ : ∃ y_ : List (S29), y_ = (y205 ++ y208) := ⟨_, rfl⟩
                replace H : ((some (([] : List (S29)) : List (S29))).bind fun y215 => (if t181 ≤ (l0.length : Int) then ((some (l0.take (t181 : Int).toNat : List (S29))).bind fun y218 => (if y215.length + y218.length < 4398046511104 then ((some (y215 ++ y218 : List (S29))).bind fun y222 => (if 0 ≤ t204 then ((some (l0.drop (t204 : Int).toNat : List (S29))).bind fun y225 => (if y222.length + y225.length < 4398046511104 then ((spec_l3Put.f k (y222 ++ y225) y212 t189 t190).bind fun t232 => (some t232)) else (none))) else (none))) else (none))) else (none))) = some r := by first | (rw [hy212]; with_reducible exact H) | (have H2_ := (Option.bind_some _ _).symm.trans H; rw [hy212]; with_reducible exact H2_) | (have H2_ := (Option.bind_some _ _).symm.trans H; with_reducible exact H2_) | with_reducible exact H | (rw [hy212]; exact H) | exact H
                have Ny212 := Aside0.mk hy212
                clear hy212
                obtain ⟨y215, hy215⟩ : ∃ y_ : List (S29), y_ = (([] : List (S29))) := ⟨_, rfl⟩
                replace H : (if t181 ≤ (l0.length : Int) then ((some (l0.take (t181 : Int).toNat : List (S29))).bind fun y218 => (if y215.length + y218.length < 4398046511104 then ((some (y215 ++ y218 : List (S29))).bind fun y222 => (if 0 ≤ t204 then ((some (l0.drop (t204 : Int).toNat : List (S29))).bind fun y225 => (if y222.length + y225.length < 4398046511104 then ((spec_l3Put.f k (y222 ++ y225) y212 t189 t190).bind fun t232 => (some t232)) else (none))) else (none))) else (none))) else (none)) = some r := by first | (rw [hy215]; with_reducible exact H) | (have H2_ := (Option.bind_some _ _).symm.trans H; rw [hy215]; with_reducible exact H2_) | (have H2_ := (Option.bind_some _ _).symm.trans H; with_reducible exact H2_) | with_reducible exact H | (rw [hy215]; exact H) | exact H
                have Ny215 := Aside0.mk hy215
                clear hy215
                have c40b0 := eq_true (of_decide_eq_true (by first | (with_reducible assumption) | assumption) : 0 ≤ t181)
                by_cases c41 : t181 ≤ (l0.length : Int)
                · rw [if_pos c41] at H
                  have c41b0 := eq_true c41
                  have c41b1 : decide (t181 ≤ (l0.length : Int)) = true := decide_eq_true c41
                  clear c41
                  obtain ⟨y218, hy218⟩ : ∃ y_ : List (S29), y_ = (l0.take (t181 : Int).toNat) := ⟨_, rfl⟩
                  replace H : (if y215.length + y218.length < 4398046511104 then ((some (y215 ++ y218 : List (S29))).bind fun y222 => (if 0 ≤ t204 then ((some (l0.drop (t204 : Int).toNat : List (S29))).bind fun y225 => (if y222.length + y225.length < 4398046511104 then ((spec_l3Put.f k (y222 ++ y225) y212 t189 t190).bind fun t232 => (some t232)) else (none))) else (none))) else (none)) = some r := by first | (rw [hy218]; with_reducible exact H) | (have H2_ := (Option.bind_some _ _).symm.trans H; rw [hy218]; with_reducible exact H2_) | (have H2_ := (Option.bind_some _ _).symm.trans H; with_reducible exact H2_) | with_reducible exact H | (rw [hy218]; exact H) | exact H
                  have Ny218 := Aside0.mk hy218
                  clear hy218
                  by_cases c42 : y215.length + y218.length < 4398046511104
                  · rw [if_pos c42] at H
                    have LMc42 := Aside0.mk c42
                    clear c42
                    obtain ⟨y222, hy222⟩ : ∃ y_ : List (S29), y_ = (y215 ++ y218) := ⟨_, rfl⟩
                    replace H : (if 0 ≤ t204 then ((some (l0.drop (t204 : Int).toNat : List (S29))).bind fun y225 => (if y222.length + y225.length < 4398046511104 then ((spec_l3Put.f k (y222 ++ y225) y212 t189 t190).bind fun t232 => (some t232)) else (none))) else (none)) = some r := by first | (rw [hy222]; with_reducible exact H) | (have H2_ := (Option.bind_some _ _).symm.trans H; rw [hy222]; with_reducible exact H2_) | (have H2_ := (Option.bind_some _ _).symm.trans H; with_reducible exact H2_) | with_reducible exact H | (rw [hy222]; exact H) | exact H
                    have Ny222 := Aside0.mk hy222
                    clear hy222
                    by_cases c43 : 0 ≤ t204
                    · rw [if_pos c43] at H
                      have c43b0 := eq_true c43
                      have c43b1 : decide (0 ≤ t204) = true := decide_eq_true c43
                      clear c43
                      have c44b0 := eq_true (of_decide_eq_true (by first | (with_reducible assumption) | assumption) : t204 ≤ (l0.length : Int))
                      obtain ⟨y225, hy225⟩ : ∃ y_ : List (S29), y_ = (l0.drop (t204 : Int).toNat) := ⟨_, rfl⟩
                      replace H : (if y222.length + y225.length < 4398046511104 then ((spec_l3Put.f k (y222 ++ y225) y212 t189 t190).bind fun t232 => (some t232)) else (none)) = some r := by first | (rw [hy225]; with_reducible exact H) | (have H2_ := (Option.bind_some _ _).symm.trans H; rw [hy225]; with_reducible exact H2_) | (have H2_ := (Option.bind_some _ _).symm.trans H; with_reducible exact H2_) | with_reducible exact H | (rw [hy225]; exact H) | exact H
                      have Ny225 := Aside0.mk hy225
                      clear hy225
                      by_cases c45 : y222.length + y225.length < 4398046511104
                      · rw [if_pos c45] at H
                        have LMc45 := Aside0.mk c45
                        clear c45
                        obtain ⟨y229, hy229⟩ : ∃ y_ : List (S29), y_ = (y222 ++ y225) := ⟨_, rfl⟩
                        replace H : ((spec_l3Put.f k y229 y212 t189 t190).bind fun t232 => (some t232)) = some r := by first | (rw [hy229]; with_reducible exact H) | (have H2_ := (Option.bind_some _ _).symm.trans H; rw [hy229]; with_reducible exact H2_) | (have H2_ := (Option.bind_some _ _).symm.trans H; with_reducible exact H2_) | with_reducible exact H | (rw [hy229]; exact H) | exact H
                        have Ny229 := Aside0.mk hy229
                        clear hy229
                        replace H := Option.bind_eq_some_iff.mp H
                        obtain ⟨t232, A460, H⟩ := H
                        (try dsimp only at H)
                        have A46 := Aside0.mk A460
                        clear A460
                        obtain rfl := Option.some.inj H
                        go_enter Tryd.func58, Tryd.ntmps58
                        try go_wp2_with (first | ((with_reducible refine gate_dst (N := 3) rfl ?_); refine box_event ?hg (N := 3) ?hd (cs := #[.int .i64 a1_0, .int .i64 a1_1, .int .i64 a1_2, .int .i64 a1_3, .string a1_4]) (t := 37) ?hr ?_; (case hd => rfl); (case hg => rfl); (case hr => first | (go_simp; done) | (go_simp; rfl)); intro gb180 hg w47 hbox hb; have n0_ := Aside0.mk (below_step belowA hb); have n1_ := Aside0.mk (hbox); have n2_ := Aside0.mk ((by rw [hg]; exact (below_size belowA) : w.heap.size ≤ gb180)); have n3_ := Aside0.mk ((by rw [hg]; exact (below_size belowA) : w.heap.size ≤ gb180)); clear HB; have HB := n0_; have BK180 := n1_; obtain ⟨hcq_0, hcq_1, hcq_2, hcq_3, hcq_4, hfq_0, hfq_1, hfq_2, hfq_3, hfq_4⟩ := blk_facts5 BK180.out; have GW180 := n2_; have GE180 := n3_; clear n0_ n1_ n2_ n3_; clear hb hbox hg; obtain ⟨hcz48_0, hcz48_1, hcz48_2, hcz48_3, hcz48_4, hfz48_0, hfz48_1, hfz48_2, hfz48_3, hfz48_4⟩ := blk_facts5 BK180.out) | ((with_reducible refine gate_callee (f := 80) rfl ?_); refine goesL_ (some 16) rfl rfl Tryd.func80 (by kernel_rfl) rfl #[.slice A0 l0.length c0, .int .i64 a1_1] rfl argsA ?_; (with_reducible refine (spec_l2At.calls k _ _ l0 a1_1 t181 _ ?side1 ?side2 A3.out).mono ?_); (case side1 => exact CA (Kd.C_below HR0.out HB.out)); (case side2 => exact HC0.out); rintro e w' ⟨rfl, ⟨nd, rfl⟩⟩; refine ⟨_, rfl, ?_⟩) | ((with_reducible refine gate_callee (f := 82) rfl ?_); refine goesL_ (some 35) rfl rfl Tryd.func82 (by kernel_rfl) rfl #[.slice A0 l0.length c0, .agg #[.int .i64 a1_0, .int .i64 a1_1, .int .i64 a1_2, .int .i64 a1_3, .string a1_4]] rfl argsA ?_; (with_reducible refine (spec_l3Where.calls k _ _ l0 a1_0 a1_1 a1_2 a1_3 a1_4 t189 t190 true _ ?side1 ?side2 A23.out).mono ?_); (case side1 => exact CA (Kd.C_below HR0.out belowA)); (case side2 => exact HC0.out); rintro e w49 ⟨rfl, hb⟩; refine ⟨_, rfl, ?_⟩; have n0_ := Aside0.mk (blk_below (g := gb180) (o := .cells #[.int .i64 a1_0, .int .i64 a1_1, .int .i64 a1_2, .int .i64 a1_3, .string a1_4] 37 (0, 0)) blkA hb); have n1_ := Aside0.mk (below_step belowA hb); clear BK180; clear HB; have BK180 := n0_; obtain ⟨hcq_0, hcq_1, hcq_2, hcq_3, hcq_4, hfq_0, hfq_1, hfq_2, hfq_3, hfq_4⟩ := blk_facts5 BK180.out; have HB := n1_; clear n0_ n1_; (try clear hb); (try clear hb2); (try clear hk); (try clear hi); obtain ⟨hcz50_0, hcz50_1, hcz50_2, hcz50_3, hcz50_4, hfz50_0, hfz50_1, hfz50_2, hfz50_3, hfz50_4⟩ := blk_facts5 BK180.out) | ((with_reducible refine gate_callee (f := 81) rfl ?_); refine goesL_ (some 59) rfl rfl Tryd.func81 (by kernel_rfl) rfl #[.slice A0 l0.length c0, .int .i64 t181] rfl argsA ?_; (with_reducible refine (spec_l2End.calls k _ _ l0 t181 t204 _ ?side1 ?side2 A35.out).mono ?_); (case side1 => exact CA (Kd.C_below HR0.out HB.out)); (case side2 => exact HC0.out); rintro e w' ⟨rfl, ⟨nd, rfl⟩⟩; refine ⟨_, rfl, ?_⟩) | ((with_reducible refine gate_dst (N := 60) rfl ?_); refine Kd.R_lit k29 _ 29 ?hg (N := 60) ?hd (xs := ([] : List (S29))) (inner := []) (ok := fun _ => True) (okp := fun _ => True) ?hr ?hp (fun _ hk => hk) trivial (Below.refl _ _) (Nat.le_refl _) (by simp) ?_; (case hd => rfl); (case hg => rfl); (case hr => first | (go_simp; done) | (go_simp; rfl)); (case hp => exact (Reps.none _ _)); intro v206 w51 ho52 hb hg_ hnew_; clear hg_ hnew_; (first | rw [← Ny205.out] at ho52 | (simp only [Int.reduceToNat] at ho52; rw [← Ny205.out] at ho52)); have n0_ := Aside0.mk (Kd.R_lower ho52 (below_size belowA)); have n1_ := Aside0.mk (blk_below (g := gb180) (o := .cells #[.int .i64 a1_0, .int .i64 a1_1, .int .i64 a1_2, .int .i64 a1_3, .string a1_4] 37 (0, 0)) blkA hb); have n2_ := Aside0.mk (below_step belowA hb); clear BK180; clear HB; have HO207 := n0_; have BK180 := n1_; obtain ⟨hcq_0, hcq_1, hcq_2, hcq_3, hcq_4, hfq_0, hfq_1, hfq_2, hfq_3, hfq_4⟩ := blk_facts5 BK180.out; have HB := n2_; clear n0_ n1_ n2_; clear hb ho52; have q53 : (t204 : Int) ≤ ((l0.length : Int) : Int) := of_decide_eq_true (by first | (with_reducible assumption) | assumption); obtain ⟨i053, hi053, _, hsz53, _⟩ := info_parts info29; have hroom53 : l0.length ≤ c0 := HC0.out; have hC53 : Kd.C k29 _ A0 l0.length l0 := HR0.out; have ql53 : (t181 : Int) ≤ (t204 : Int) := of_decide_eq_true (by first | (with_reducible assumption) | assumption); have q053 : (0 : Int) ≤ (t181 : Int) := of_decide_eq_true (by first | (with_reducible assumption) | assumption); have hcut53 := cut_mid (P := Tryd.prog) 23 29 .i64 .i64 Tryd.underlying23 hi053 3 hsz53 A0 l0.length c0 t181 t204 q053 ql53 q53 hroom53; have hr53 := Kd.C_mid (lo := (t181 : Int).toNat) (hi := (t204 : Int).toNat) (c := c0) hC53 (by omega) (by omega) hroom53; obtain ⟨A53, hA53⟩ : ∃ A1, A1 = (if c0 = (t181 : Int).toNat then A0 else (A0 : Option Addr).map (·.add ((t181 : Int).toNat * 3))) := ⟨_, rfl⟩; obtain ⟨c53, hc53⟩ : ∃ c1, c1 = c0 - (t181 : Int).toNat := ⟨_, rfl⟩; have hy53 : y208.length = (t204 : Int).toNat - (t181 : Int).toNat := (by rw [Ny208.out, List.length_drop, List.length_take] <;> omega); rw [show ((l0).take (t204 : Int).toNat).drop (t181 : Int).toNat = y208 from Ny208.out.symm] at hr53; replace hr53 : Kd.C k29 _ A53 y208.length y208 := (by rw [hA53]; exact hr53); rw [← hy53, ← hA53, ← hc53] at hcut53; have HR211 := Aside0.mk hr53; have HC211 := Aside0.mk (show y208.length ≤ c53 from by rw [hy53, hc53]; exact Nat.sub_le_sub_right (Nat.le_trans (by omega) hroom53) _); clear hr53 hC53 hroom53 hi053 hsz53 hc53; have KY53 := Aside0.mk hy53; have KA53 := Aside0.mk hA53; clear hy53 hA53; replace q53 := eq_true q53) | ((with_reducible refine gate_builtin (b := .append) (xs := #[.tmp 60, .tmp 64]) rfl ?_); at_builtin; refine Kd.R_append_rows k29 (w0 := w) w.heap.size rfl (.tmp 60) (.tmp 64) 23 29 (.agg #[(.int .i64 0), (.int .i64 0), (.string ⟨#[]⟩)]) 32 rfl Tryd.underlying23 info29 rfl (by decide) (by omega) v206 y205 y208 _ _ _ (fun _ => True) (fun _ => False) rfl rfl ?aO ?aR (fun _ _ h => h) (fun _ h => h.elim) ?aF ?aB ?aS ?aL ?_; (case aR => exact CA (Kd.C_below HR211.out HB.out)); (case aB => exact belowA); (case aF => exact (fun _ _ => trivial)); (case aO => exact (RA HO207)); (case aS => exact (below_size belowA)); (case aL => have := LMc39.out; omega); intro v213 w54 ho hb hg hat; rw [← Ny212.out] at ho; have n0_ := Aside0.mk (blk_grown (g := gb180) (o := .cells #[.int .i64 a1_0, .int .i64 a1_1, .int .i64 a1_2, .int .i64 a1_3, .string a1_4] 37 (0, 0)) blkA hg (Kd.R_ne HO207.out BK180.out (by decide))); have n1_ := Aside0.mk (hb); have n2_ := Aside0.mk (ho); clear BK180; clear HB; clear HO207; have BK180 := n0_; obtain ⟨hcq_0, hcq_1, hcq_2, hcq_3, hcq_4, hfq_0, hfq_1, hfq_2, hfq_3, hfq_4⟩ := blk_facts5 BK180.out; have HB := n1_; have HO214 := n2_; clear n0_ n1_ n2_; clear ho hb hg hat))
                        have n0_ := Aside0.mk (Kd.R_drew HO214.out)
                        have n1_ := Aside0.mk (blk_drew BK180.out)
                        have n2_ := Aside0.mk (below_drew1 HB.out)
                        clear HO214
                        clear BK180
                        clear HB
                        have HO214 := n0_
                        have BK180 := n1_
                        have HB := n2_
                        clear n0_ n1_ n2_
                        have q56 : (t181 : Int) ≤ ((l0.length : Int) : Int) := of_decide_eq_true (by first | (with_reducible assumption) | assumption)
                        obtain ⟨i056, hi056, _, hsz56, _⟩ := info_parts info29
                        have hroom56 : l0.length ≤ c0 := HC0.out
                        have hC56 : Kd.C k29 _ A0 l0.length l0 := HR0.out
                        have hcut56 := cut_to (P := Tryd.prog) 23 29 .i64 Tryd.underlying23 hi056 A0 l0.length c0 t181 (of_decide_eq_true (by first | (with_reducible assumption) | assumption)) q56 hroom56
                        have hr56 := Kd.C_take (m := (t181 : Int).toNat) hC56 (by omega)
                        have hy56 : y218.length = (t181 : Int).toNat := (by rw [Ny218.out, List.length_take]; omega)
                        rw [← Ny218.out] at hr56
                        rw [← hy56] at hcut56
                        have HR221 := Aside0.mk hr56
                        have HC221 := Aside0.mk (show y218.length ≤ c0 from by omega)
                        clear hr56 hC56 hroom56 hi056 hsz56
                        have KY56 := Aside0.mk hy56
                        clear hy56
                        replace q56 := eq_true q56
                        have q57 : (t204 : Int) ≤ ((l0.length : Int) : Int) := of_decide_eq_true (by first | (with_reducible assumption) | assumption)
                        obtain ⟨i057, hi057, _, hsz57, _⟩ := info_parts info29
                        have hroom57 : l0.length ≤ c0 := HC0.out
                        have hC57 : Kd.C k29 _ A0 l0.length l0 := HR0.out
                        have q057 : (0 : Int) ≤ (t204 : Int) := of_decide_eq_true (by first | (with_reducible assumption) | assumption)
                        have hcut57 := cut_from (P := Tryd.prog) 23 29 .i64 Tryd.underlying23 hi057 3 hsz57 A0 l0.length c0 t204 q057 q57
                        have hr57 := Kd.C_drop (m := (t204 : Int).toNat) (c := c0) hC57 (by omega) hroom57
                        obtain ⟨A57, hA57⟩ : ∃ A1, A1 = (if c0 = (t204 : Int).toNat then A0 else (A0 : Option Addr).map (·.add ((t204 : Int).toNat * 3))) := ⟨_, rfl⟩
                        obtain ⟨c57, hc57⟩ : ∃ c1, c1 = c0 - (t204 : Int).toNat := ⟨_, rfl⟩
                        have hy57 : y225.length = l0.length - (t204 : Int).toNat := (by rw [Ny225.out, List.length_drop] <;> omega)
                        rw [show (l0).drop (t204 : Int).toNat = y225 from Ny225.out.symm] at hr57
                        replace hr57 : Kd.C k29 _ A57 y225.length y225 := (by rw [hA57]; exact hr57)
                        rw [← hy57, ← hA57, ← hc57] at hcut57
                        have HR228 := Aside0.mk hr57
                        have HC228 := Aside0.mk (show y225.length ≤ c57 from by rw [hy57, hc57]; exact Nat.sub_le_sub_right hroom57 _)
                        clear hr57 hC57 hroom57 hi057 hsz57 hc57
                        have KY57 := Aside0.mk hy57
                        have KA57 := Aside0.mk hA57
                        clear hy57 hA57
                        replace q57 := eq_true q57
                        refine start_ (n := 10) (S := fun w' => True) (ds := []) (tf 0 10) (by kernel_rfl) rfl rfl trivial (fun hHeld => ?_); refine with_tabW spec_l3Do.tab14 spec_l3Do.bits14 (fun HT_ HW_ => ?_)
                        generalize w54.drew = w55 at HO214 BK180 HB HR221 HR228 hHeld ⊢
                        refine pure_ (i := 1) (N := some 67) #[false, true, false, false, false, false, false, false, false, false] rfl rfl (anA HT_) (fun _ _ _ h => h) yldA putA ?_
                        refine pure_ (i := 2) (N := some 68) #[false, true, true, false, false, false, false, false, false, false] rfl rfl (anA HT_) (fun _ _ _ h => h) yldA putA ?_
                        refine pure_ (i := 3) (N := some 69) #[false, true, true, true, false, false, false, false, false, false] rfl rfl (anA HT_) (fun _ _ _ h => h) yldA putA ?_
                        refine pure_ (i := 5) (N := some 71) #[false, true, true, true, false, true, false, false, false, false] rfl rfl (anA HT_) (fun _ _ _ h => h) yldA putA ?_
                        refine pure_ (i := 6) (N := some 72) #[false, true, true, true, false, true, true, false, false, false] rfl rfl (anA HT_) (fun _ _ _ h => h) yldA putA ?_
                        refine pure_ (i := 7) (N := some 73) #[false, true, true, true, false, true, true, true, false, false] rfl rfl (anA HT_) (fun _ _ _ h => h) yldA putA ?_
                        refine one_ (i := 0) (N := some 66) #[true, true, true, true, false, true, true, true, false, false] rfl rfl (one_of HT_.out (by kernel_rfl)) (by decide) (fun K hK => ?_)
                        refine Kd.R_lit_step k29 _ 29 ?hg (N := 66) ?hd (xs := ([] : List (S29))) (inner := []) (ok := fun _ => True) (okp := fun _ => True) ?hr ?hp (fun _ hk => hk) trivial (Below.refl _ _) (Nat.le_refl _) (by simp) ?_; (case hd => rfl); (case hg => rfl); (case hr => first | (go_simp; done) | (go_simp; rfl)); (case hp => exact (Reps.none _ _))
                        intro v216 w58 ho59 hb hg_ hnew_
                        clear hg_ hnew_
                        (first | rw [← Ny215.out] at ho59 | (simp only [Int.reduceToNat] at ho59; rw [← Ny215.out] at ho59))
                        have n0_ := Aside0.mk (Kd.R_elder' (RA HO214) (Kd.R_base ho59) hb)
                        have n1_ := Aside0.mk (Kd.R_lower (Kd.R_new' ho59 (Kd.R_lt (RA HO214))) (below_size belowA))
                        have n2_ := Aside0.mk (blk_below (g := gb180) (o := .cells #[.int .i64 a1_0, .int .i64 a1_1, .int .i64 a1_2, .int .i64 a1_3, .string a1_4] 37 (0, 0)) blkA hb)
                        have n3_ := Aside0.mk (below_step belowA hb)
                        clear HO214
                        clear BK180
                        clear HB
                        have HO214 := n0_
                        have HO217 := n1_
                        have BK180 := n2_
                        have HB := n3_
                        clear n0_ n1_ n2_ n3_
                        clear hb ho59
                        refine hK.out _ _ trivial (fun hHeld => ?_)
                        clear hK K
                        refine norm_ (a' := ?_) ?_ ?_
                        rotate_left
                        · show Act.put _ (some 66) _ = _
                          simp only [Act.put, List.setIfInBounds_toArray, List.set_cons_zero, List.set_cons_succ, i64_w, i32_w]
                          rfl
                        refine one_ (i := 4) (N := some 70) (tf 8 2) rfl rfl (one_of HT_.out (by kernel_rfl)) (by decide) (fun K hK => ?_)
                        refine Kd.R_append_rows_step k29 (w0 := w) w.heap.size (by rfl) (.tmp 66) (.tmp 69) 23 29 (.agg #[(.int .i64 0), (.int .i64 0), (.string ⟨#[]⟩)]) 32 rfl Tryd.underlying23 info29 rfl (by decide) (by omega) v216 y215 y218 _ _ _ (fun k_ => some k_ ≠ (v213 : Value).ownBlock) (fun _ => False) rfl rfl ?aO ?aR (fun _ _ h => h) (fun _ h => h.elim) ?aF ?aB ?aS ?aL ?_
                        (case aR => exact CA (Kd.C_below HR221.out HB.out))
                        (case aB => exact belowA)
                        (case aF => exact (fun k_ hk => Kd.fresh' (Kd.R_lt (RA HO214)) k_ hk))
                        (case aO => exact (by (with_reducible repeat (first | apply Kd.R_alloc | apply Kd.R_drewN | apply Kd.R_drew)); exact Kd.R_mono HO217.out (fun _ hk => hk.2)))
                        (case aS => exact (below_size belowA))
                        (case aL => have := LMc42.out; omega)
                        intro v223 w60 ho hb hg hat
                        rw [← Ny222.out] at ho
                        have n0_ := Aside0.mk (blk_grown (g := gb180) (o := .cells #[.int .i64 a1_0, .int .i64 a1_1, .int .i64 a1_2, .int .i64 a1_3, .string a1_4] 37 (0, 0)) blkA hg (Kd.R_ne HO217.out BK180.out (by decide)))
                        have n1_ := Aside0.mk (Kd.R_after (ok := (fun _ => True)) (RA HO214) hg hat)
                        have n2_ := Aside0.mk (hb)
                        have n3_ := Aside0.mk (ho)
                        clear BK180
                        clear HO214
                        clear HB
                        clear HO217
                        have BK180 := n0_
                        have HO214 := n1_
                        have HB := n2_
                        have HO224 := n3_
                        clear n0_ n1_ n2_ n3_
                        clear ho hb hg hat
                        refine hK.out _ _ trivial (fun hHeld => ?_)
                        clear hK K
                        refine norm_ (a' := ?_) ?_ ?_
                        rotate_left
                        · show Act.put _ (some 70) _ = _
                          simp only [Act.put, List.setIfInBounds_toArray, List.set_cons_zero, List.set_cons_succ, i64_w, i32_w]
                          rfl
                        refine one_ (i := 8) (N := some 74) (tf 9 1) rfl rfl (one_of HT_.out (by kernel_rfl)) (by decide) (fun K hK => ?_)
                        refine Kd.R_append_rows_step k29 (w0 := w) w.heap.size (by rfl) (.tmp 70) (.tmp 73) 23 29 (.agg #[(.int .i64 0), (.int .i64 0), (.string ⟨#[]⟩)]) 32 rfl Tryd.underlying23 info29 rfl (by decide) (by omega) v223 y222 y225 _ _ _ (fun k_ => some k_ ≠ (v213 : Value).ownBlock) (fun _ => False) rfl rfl ?aO ?aR (fun _ _ h => h) (fun _ h => h.elim) ?aF ?aB ?aS ?aL ?_
                        (case aR => exact CA (Kd.C_below HR228.out HB.out))
                        (case aB => exact belowA)
                        (case aF => exact (fun k_ hk => Kd.fresh' (Kd.R_lt (RA HO214)) k_ hk))
                        (case aO => exact (RA HO224))
                        (case aS => exact (below_size belowA))
                        (case aL => have := LMc45.out; omega)
                        intro v230 w61 ho hb hg hat
                        rw [← Ny229.out] at ho
                        have n0_ := Aside0.mk (blk_grown (g := gb180) (o := .cells #[.int .i64 a1_0, .int .i64 a1_1, .int .i64 a1_2, .int .i64 a1_3, .string a1_4] 37 (0, 0)) blkA hg (Kd.R_ne HO224.out BK180.out (by decide)))
                        have n1_ := Aside0.mk (Kd.R_after (ok := (fun _ => True)) (RA HO214) hg hat)
                        have n2_ := Aside0.mk (hb)
                        have n3_ := Aside0.mk (ho)
                        clear BK180
                        clear HO214
                        clear HB
                        clear HO224
                        have BK180 := n0_
                        have HO214 := n1_
                        have HB := n2_
                        have HO231 := n3_
                        clear n0_ n1_ n2_ n3_
                        clear ho hb hg hat
                        refine hK.out _ _ trivial (fun hHeld => ?_)
                        clear hK K
                        refine norm_ (a' := ?_) ?_ ?_
                        rotate_left
                        · show Act.put _ (some 74) _ = _
                          simp only [Act.put, List.setIfInBounds_toArray, List.set_cons_zero, List.set_cons_succ, i64_w, i32_w]
                          rfl
                        refine pure_ (i := 9) (N := some 12) (tf 10 0) rfl rfl (anA HT_) (fun _ _ _ h => h) yldA putA ?_
                        refine done_ (done_of HT_.out (by kernel_rfl)) ?_
                        obtain ⟨Ao62, co62, eo62⟩ := Kd.R_slice HO231.out
                        subst eo62
                        obtain ⟨Ao63, co63, eo63⟩ := Kd.R_slice HO214.out
                        subst eo63
                        try go_wp2_with (first | ((with_reducible refine gate_callee (f := 83) rfl ?_); refine goesL_ (some 79) rfl rfl Tryd.func83 (by kernel_rfl) rfl #[.slice Ao62 y229.length co62, .slice Ao63 y212.length co63, .int .i64 t189, .int .i64 t190] rfl argsA ?_; (with_reducible refine (spec_l3Put.calls k _ _ y229 _ _ y212 t189 t190 t232 _ ?side1 ?side2 ?side3 ?side4 A46.out).mono ?_); (case side1 => repeat (first | exact (Kd.R_reads' HO231.out).2.2 | (with_reducible refine Kd.C_alloc ?_ _) | (with_reducible refine Kd.C_drewN ?_ _) | (with_reducible refine Kd.C_drew ?_))); (case side2 => exact (Kd.R_reads' HO231.out).2.1); (case side3 => repeat (first | exact (Kd.R_reads' HO214.out).2.2 | (with_reducible refine Kd.C_alloc ?_ _) | (with_reducible refine Kd.C_drewN ?_ _) | (with_reducible refine Kd.C_drew ?_))); (case side4 => exact (Kd.R_reads' HO214.out).2.1); rintro e w64 ⟨v233, rfl, ho0, hb⟩; refine ⟨_, rfl, ?_⟩; have n0_ := Aside0.mk (Kd.R_elder' (RA HO214) (Kd.R_base ho0) hb); have n1_ := Aside0.mk (Kd.R_elder' (RA HO231) (Kd.R_base ho0) hb); have n2_ := Aside0.mk (Kd.R_lower (Kd.R_new' (Kd.R_new' ho0 (Kd.R_lt (RA HO214))) (Kd.R_lt (RA HO231))) (below_size belowA)); have n3_ := Aside0.mk (blk_below (g := gb180) (o := .cells #[.int .i64 a1_0, .int .i64 a1_1, .int .i64 a1_2, .int .i64 a1_3, .string a1_4] 37 (0, 0)) blkA hb); have n4_ := Aside0.mk (below_step belowA hb); clear HO214; clear HO231; clear BK180; clear HB; have HO214 := n0_; have HO231 := n1_; have HO234 := n2_; have BK180 := n3_; obtain ⟨hcq_0, hcq_1, hcq_2, hcq_3, hcq_4, hfq_0, hfq_1, hfq_2, hfq_3, hfq_4⟩ := blk_facts5 BK180.out; have HB := n4_; clear n0_ n1_ n2_ n3_ n4_; (try clear hb); (try clear hb2); (try clear hk); (try clear hi); (try clear ho0)))
                        go_ret
                        exact ⟨_, endA, by (with_reducible repeat (first | apply Kd.R_alloc | apply Kd.R_drewN | apply Kd.R_drew)); exact Kd.R_mono HO234.out (fun _ hk => trivial), belowA⟩
                      · rw [if_neg c45] at H
                        exact absurd H (by simp)
                    · rw [if_neg c43] at H
                      exact absurd H (by simp)
                  · rw [if_neg c42] at H
                    exact absurd H (by simp)
                · rw [if_neg c41] at H
                  exact absurd H (by simp)
              · rw [if_neg c39] at H
                exact absurd H (by simp)
            · rw [if_neg c38] at H
              exact absurd H (by simp)
          · rw [if_neg c37] at H
            exact absurd H (by simp)
        · rw [if_neg c36] at H
          exact absurd H (by simp)
    · replace c24 := Bool.eq_false_iff.mpr c24
      subst c24
      have H1 : ((some (([] : List (S29)) : List (S29))).bind fun y192 => (if y192.length + l0.length < 4398046511104 then (some (y192 ++ l0)) else (none))) = some r := by rw [if_neg (show ¬ (false = true) by decide)] at H; exact H
      clear H
      have H := H1
      clear H1
      obtain ⟨y192, hy192⟩ : ∃ y_ : List (S29), y_ = (([] : List (S29))) := ⟨_, rfl⟩
      replace H : (if y192.length + l0.length < 4398046511104 then (some (y192 ++ l0)) else (none)) = some r := by first | (rw [hy192]; with_reducible exact H) | (have H2_ := (Option.bind_some _ _).symm.trans H; rw [hy192]; with_reducible exact H2_) | (have H2_ := (Option.bind_some _ _).symm.trans H; with_reducible exact H2_) | with_reducible exact H | (rw [hy192]; exact H) | exact H
      have Ny192 := Aside0.mk hy192
      clear hy192
      by_cases c65 : y192.length + l0.length < 4398046511104
      · rw [if_pos c65] at H
        have LMc65 := Aside0.mk c65
        clear c65
        obtain ⟨y195, hy195⟩ : ∃ y_ : List (S29), y_ = (y192 ++ l0) := ⟨_, rfl⟩
        replace H : (some y195) = some r := by first | (rw [hy195]; with_reducible exact H) | (have H2_ := (Option.bind_some _ _).symm.trans H; rw [hy195]; with_reducible exact H2_) | (have H2_ := (Option.bind_some _ _).symm.trans H; with_reducible exact H2_) | with_reducible exact H | (rw [hy195]; exact H) | exact H
        have Ny195 := Aside0.mk hy195
        clear hy195
        obtain rfl := Option.some.inj H
        go_enter Tryd.func58, Tryd.ntmps58
        go_wp2_with (first | ((with_reducible refine gate_dst (N := 3) rfl ?_); refine box_event ?hg (N := 3) ?hd (cs := #[.int .i64 a1_0, .int .i64 a1_1, .int .i64 a1_2, .int .i64 a1_3, .string a1_4]) (t := 37) ?hr ?_; (case hd => rfl); (case hg => rfl); (case hr => first | (go_simp; done) | (go_simp; rfl)); intro gb180 hg w66 hbox hb; have n0_ := Aside0.mk (below_step belowA hb); have n1_ := Aside0.mk (hbox); have n2_ := Aside0.mk ((by rw [hg]; exact (below_size belowA) : w.heap.size ≤ gb180)); have n3_ := Aside0.mk ((by rw [hg]; exact (below_size belowA) : w.heap.size ≤ gb180)); clear HB; have HB := n0_; have BK180 := n1_; obtain ⟨hcq_0, hcq_1, hcq_2, hcq_3, hcq_4, hfq_0, hfq_1, hfq_2, hfq_3, hfq_4⟩ := blk_facts5 BK180.out; have GW180 := n2_; have GE180 := n3_; clear n0_ n1_ n2_ n3_; clear hb hbox hg; obtain ⟨hcz67_0, hcz67_1, hcz67_2, hcz67_3, hcz67_4, hfz67_0, hfz67_1, hfz67_2, hfz67_3, hfz67_4⟩ := blk_facts5 BK180.out) | ((with_reducible refine gate_callee (f := 80) rfl ?_); refine goesL_ (some 16) rfl rfl Tryd.func80 (by kernel_rfl) rfl #[.slice A0 l0.length c0, .int .i64 a1_1] rfl argsA ?_; (with_reducible refine (spec_l2At.calls k _ _ l0 a1_1 t181 _ ?side1 ?side2 A3.out).mono ?_); (case side1 => exact CA (Kd.C_below HR0.out HB.out)); (case side2 => exact HC0.out); rintro e w' ⟨rfl, ⟨nd, rfl⟩⟩; refine ⟨_, rfl, ?_⟩) | ((with_reducible refine gate_callee (f := 82) rfl ?_); refine goesL_ (some 35) rfl rfl Tryd.func82 (by kernel_rfl) rfl #[.slice A0 l0.length c0, .agg #[.int .i64 a1_0, .int .i64 a1_1, .int .i64 a1_2, .int .i64 a1_3, .string a1_4]] rfl argsA ?_; (with_reducible refine (spec_l3Where.calls k _ _ l0 a1_0 a1_1 a1_2 a1_3 a1_4 t189 t190 false _ ?side1 ?side2 A23.out).mono ?_); (case side1 => exact CA (Kd.C_below HR0.out belowA)); (case side2 => exact HC0.out); rintro e w68 ⟨rfl, hb⟩; refine ⟨_, rfl, ?_⟩; have n0_ := Aside0.mk (blk_below (g := gb180) (o := .cells #[.int .i64 a1_0, .int .i64 a1_1, .int .i64 a1_2, .int .i64 a1_3, .string a1_4] 37 (0, 0)) blkA hb); have n1_ := Aside0.mk (below_step belowA hb); clear BK180; clear HB; have BK180 := n0_; obtain ⟨hcq_0, hcq_1, hcq_2, hcq_3, hcq_4, hfq_0, hfq_1, hfq_2, hfq_3, hfq_4⟩ := blk_facts5 BK180.out; have HB := n1_; clear n0_ n1_; (try clear hb); (try clear hb2); (try clear hk); (try clear hi)) | ((with_reducible refine gate_dst (N := 41) rfl ?_); refine Kd.R_lit k29 _ 29 ?hg (N := 41) ?hd (xs := ([] : List (S29))) (inner := []) (ok := fun _ => True) (okp := fun _ => True) ?hr ?hp (fun _ hk => hk) trivial (Below.refl _ _) (Nat.le_refl _) (by simp) ?_; (case hd => rfl); (case hg => rfl); (case hr => first | (go_simp; done) | (go_simp; rfl)); (case hp => exact (Reps.none _ _)); intro v193 w69 ho70 hb hg_ hnew_; clear hg_ hnew_; (first | rw [← Ny192.out] at ho70 | (simp only [Int.reduceToNat] at ho70; rw [← Ny192.out] at ho70)); have n0_ := Aside0.mk (Kd.R_lower ho70 (below_size belowA)); have n1_ := Aside0.mk (blk_below (g := gb180) (o := .cells #[.int .i64 a1_0, .int .i64 a1_1, .int .i64 a1_2, .int .i64 a1_3, .string a1_4] 37 (0, 0)) blkA hb); have n2_ := Aside0.mk (below_step belowA hb); clear BK180; clear HB; have HO194 := n0_; have BK180 := n1_; obtain ⟨hcq_0, hcq_1, hcq_2, hcq_3, hcq_4, hfq_0, hfq_1, hfq_2, hfq_3, hfq_4⟩ := blk_facts5 BK180.out; have HB := n2_; clear n0_ n1_ n2_; clear hb ho70) | ((with_reducible refine gate_builtin (b := .append) (xs := #[.tmp 41, .tmp 42]) rfl ?_); at_builtin; refine Kd.R_append_rows k29 (w0 := w) w.heap.size rfl (.tmp 41) (.tmp 42) 23 29 (.agg #[(.int .i64 0), (.int .i64 0), (.string ⟨#[]⟩)]) 32 rfl Tryd.underlying23 info29 rfl (by decide) (by omega) v193 y192 l0 _ _ _ (fun _ => True) (fun _ => False) rfl rfl ?aO ?aR (fun _ _ h => h) (fun _ h => h.elim) ?aF ?aB ?aS ?aL ?_; (case aR => exact CA (Kd.C_below HR0.out HB.out)); (case aB => exact belowA); (case aF => exact (fun _ _ => trivial)); (case aO => exact (RA HO194)); (case aS => exact (below_size belowA)); (case aL => have := LMc65.out; omega); intro v196 w71 ho hb hg hat; rw [← Ny195.out] at ho; have n0_ := Aside0.mk (blk_grown (g := gb180) (o := .cells #[.int .i64 a1_0, .int .i64 a1_1, .int .i64 a1_2, .int .i64 a1_3, .string a1_4] 37 (0, 0)) blkA hg (Kd.R_ne HO194.out BK180.out (by decide))); have n1_ := Aside0.mk (hb); have n2_ := Aside0.mk (ho); clear BK180; clear HB; clear HO194; have BK180 := n0_; obtain ⟨hcq_0, hcq_1, hcq_2, hcq_3, hcq_4, hfq_0, hfq_1, hfq_2, hfq_3, hfq_4⟩ := blk_facts5 BK180.out; have HB := n1_; have HO197 := n2_; clear n0_ n1_ n2_; clear ho hb hg hat))
        go_ret
        exact ⟨_, endA, RA HO197, belowA⟩
      · rw [if_neg c65] at H
        exact absurd H (by simp)

/-! ### spec_l71Id: function 59 -/
def spec_l71Id.f (k : Nat) (s0_0 : List Int) (s0_1 : Int) : Option (Int × Int) := (spec_l6Rd_pick.f k s0_0 s0_1 3).bind fun bt235 => ((spec_l6Rd_pick.f k s0_0 bt235.2 4).bind fun bt237 => (some (wrap64 ((wrap64 ((wrap64 (10 * (wrap64 (1 + bt235.1)))) + 1)) + bt237.1), bt237.2)))
theorem spec_l71Id.mono : ∀ a0 a1 k, LeO (spec_l71Id.f k a0 a1) (spec_l71Id.f (k + 1) a0 a1) := by
  intro a0 a1 k
  unfold spec_l71Id.f
  repeat' first
      | (with_reducible exact spec_l6Rd_pick.mono _ _ _ _)
      | (with_reducible exact LeO.refl _)
      | (with_reducible exact LeO.none _)
      | (with_reducible refine LeO.ite ?_ ?_)
      | (with_reducible refine LeO.bind ?_ (fun _ => ?_))
      | exact spec_l6Rd_pick.mono _ _ _ _
      | exact LeO.none _
      | refine LeO.ite ?_ ?_
      | refine LeO.bind ?_ (fun _ => ?_)
set_option maxHeartbeats 8000000 in
set_option maxRecDepth 100000 in
theorem spec_l71Id.calls (k : Nat) (g : Nat) (s0_0 : List Int) (s0_1 : Int) (r1 : Int) (r2 : Int) (w0 w : World) (hI : IsS92 w0 w g s0_0 s0_1) (hB : Below w0.heap.size w0 w) (h : spec_l71Id.f k s0_0 s0_1 = some (r1, r2)) :
    Calls Tryd.prog 59 #[.pointer (some ⟨g, 0, none⟩)] w fun e w' => e = .returned (.int .i64 r1) ∧ IsS92 w0 w' g s0_0 r2 ∧ Below w0.heap.size w0 w' ∧ KeepBut w w' g none := by
  have HI0 := Aside0.mk hI
  have HK := Aside0.mk (KeepBut.refl w g none)
  have HL := Aside0.mk hB.size
  clear hI
  have HW0 := Aside0.mk hB.size
  have HB := Aside0.mk hB
  clear hB
  have H : ((spec_l6Rd_pick.f k s0_0 s0_1 3).bind fun bt235 => ((spec_l6Rd_pick.f k s0_0 bt235.2 4).bind fun bt237 => (some (wrap64 ((wrap64 ((wrap64 (10 * (wrap64 (1 + bt235.1)))) + 1)) + bt237.1), bt237.2)))) = some (r1, r2) := h
  clear h
  replace H := Option.bind_eq_some_iff.mp H
  obtain ⟨⟨t235, t236⟩, A20, H⟩ := H
  (try dsimp only at H)
  have A2 := Aside0.mk A20
  clear A20
  replace H := Option.bind_eq_some_iff.mp H
  obtain ⟨⟨t237, t238⟩, A30, H⟩ := H
  (try dsimp only at H)
  have A3 := Aside0.mk A30
  clear A30
  simp only [Option.some.injEq, Prod.mk.injEq] at H
  obtain ⟨rfl, rfl⟩ := H
  go_enter Tryd.func59, Tryd.ntmps59
  go_wp2_with (first | ((with_reducible refine gate_callee (f := 31) rfl ?_); refine goesL_ (some 4) rfl rfl Tryd.func31 (by kernel_rfl) rfl #[.pointer (some ⟨g, 0, none⟩), .int .i64 3] rfl argsA ?_; (with_reducible refine (spec_l6Rd_pick.calls k g s0_0 s0_1 3 t235 t236 w0 _ ?side1 ?side2 A2.out).mono ?_); (case side1 => exact stA); (case side2 => exact belowA); rintro e w4 ⟨rfl, hi, hb, hk⟩; refine ⟨_, rfl, ?_⟩; have n0_ := Aside0.mk (KeepBut.trans keepA hk (.inl rfl)); have n1_ := Aside0.mk (hb); have n2_ := Aside0.mk (hi); clear HK; clear HB; clear HI0; have HK := n0_; have HB := n1_; have HI0 := n2_; clear n0_ n1_ n2_; (try clear hb); (try clear hb2); (try clear hk); (try clear hi)) | ((with_reducible refine gate_callee (f := 31) rfl ?_); refine goesL_ (some 9) rfl rfl Tryd.func31 (by kernel_rfl) rfl #[.pointer (some ⟨g, 0, none⟩), .int .i64 4] rfl argsA ?_; (with_reducible refine (spec_l6Rd_pick.calls k g s0_0 t236 4 t237 t238 w0 _ ?side1 ?side2 A3.out).mono ?_); (case side1 => exact stA); (case side2 => exact belowA); rintro e w5 ⟨rfl, hi, hb, hk⟩; refine ⟨_, rfl, ?_⟩; have n0_ := Aside0.mk (KeepBut.trans keepA hk (.inl rfl)); have n1_ := Aside0.mk (hb); have n2_ := Aside0.mk (hi); clear HK; clear HB; clear HI0; have HK := n0_; have HB := n1_; have HI0 := n2_; clear n0_ n1_ n2_; (try clear hb); (try clear hb2); (try clear hk); (try clear hi)))
  go_ret
  exact ⟨endA, stA, belowA, keepA⟩

end Go.Proofs.YtdapbpgooehibaaDoor.P
