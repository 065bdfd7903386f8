-- Written by wip/tools/pprint.py (a program of this session) over the kit's printer; not trusted: Lean checks it.
import Derived.Test.YtdapbpgooehibaaDoorPx0
import Derived.Test.YtdapbpgooehibaaDoorPx4
import Derived.Test.YtdapbpgooehibaaDoorPx5
import Derived.Test.YtdapbpgooehibaaDoorV
namespace Go.Proofs.YtdapbpgooehibaaDoor.P
open Go.RowKit Go.Proofs.YtdapbpgooehibaaDoorW.PrintWords Go.Proofs.YtdapbpgooehibaaDoorW.PrintLast Go.Proofs.YtdapbpgooehibaaDoorW.PrintMore
attribute [local go_sem] cell_set_set cell_set_far_set max2_int min2_int max_two min_two max_three min_three max_four min_four   -- for this text's walks alone
set_option linter.unusedVariables false
set_option linter.unusedSimpArgs false

/-! ### spec_l3Put: function 83 -/
mutual
def spec_l3Put.j0 : Nat → List (S29) → List (S29) → Int → Int → Option ((List (S29)))
  | 0, _, _, _, _ => none
  | k + 1, x0, x1, x10, x11 => (some (([] : List (S29)) : List (S29))).bind fun y193 => (if 0 ≤ x11 then (if x11 ≤ (x0.length : Int) then ((some (x0.take (x11 : Int).toNat : List (S29))).bind fun y196 => (if y193.length + y196.length < 4398046511104 then (spec_l3Put.l0 k x0 x1 x10 x11 (y193 ++ y196) 0) else (none))) else (none)) else (none))
def spec_l3Put.l0 : Nat → List (S29) → List (S29) → Int → Int → List (S29) → Int → Option ((List (S29)))
  | 0, _, _, _, _, _, _ => none
  | k + 1, x0, x1, x10, x11, x12, x13 => if x13 < (x1.length : Int) then (if 0 ≤ x13 then (if x12.length < 4398046511104 then (spec_l3Put.l0 k x0 x1 x10 x11 (x12 ++ [(⟨(rd_T29 x1 x13).f0, wrap64 (((rd_T29 x1 x13).f1) + x10), (rd_T29 x1 x13).f2⟩ : S29)]) (wrap64 (x13 + 1))) else (none)) else (none)) else (if 0 ≤ x11 then (if x11 ≤ (x0.length : Int) then ((some (x0.drop (x11 : Int).toNat : List (S29))).bind fun y208 => (if x12.length + y208.length < 4398046511104 then (some (x12 ++ y208)) else (none))) else (none)) else (none))
end
def spec_l3Put.f (k : Nat) (l0 : List (S29)) (l1 : List (S29)) (a2 : Int) (a3 : Int) : Option ((List (S29))) := (spec_l2At.f k l0 a2).bind fun t188 => (if 0 ≤ t188 then (if t188 < (l0.length : Int) then (if 0 < (l1.length : Int) then (if a3 > 0 then ((spec_l2At.f k l0 a3).bind fun t191 => ((spec_l2End.f k l0 t191).bind fun t192 => (spec_l3Put.j0 k l0 l1 (wrap64 ((wrap64 (((rd_T29 l0 t188).f1) + 1)) - ((rd_T29 l1 0).f1))) t192))) else (spec_l3Put.j0 k l0 l1 (wrap64 ((wrap64 (((rd_T29 l0 t188).f1) + 1)) - ((rd_T29 l1 0).f1))) (wrap64 (t188 + 1)))) else (none)) else (none)) else (none))
theorem spec_l3Put.mono_l : ∀ k, (∀ y0 y1 y2 y3, LeO (spec_l3Put.j0 k y0 y1 y2 y3) (spec_l3Put.j0 (k + 1) y0 y1 y2 y3)) ∧ (∀ y0 y1 y2 y3 y4 y5, LeO (spec_l3Put.l0 k y0 y1 y2 y3 y4 y5) (spec_l3Put.l0 (k + 1) y0 y1 y2 y3 y4 y5))
  | 0 => ⟨fun _ _ _ _ r h => by simp [spec_l3Put.j0] at h, fun _ _ _ _ _ _ r h => by simp [spec_l3Put.l0] at h⟩
  | k + 1 => by
    obtain ⟨ih0, ih1⟩ := spec_l3Put.mono_l k
    refine ⟨?_, ?_⟩
    · intro y0 y1 y2 y3
      unfold spec_l3Put.j0
      repeat' first
      | (with_reducible exact ih0 _ _ _ _)
      | (with_reducible exact ih1 _ _ _ _ _ _)
      | (with_reducible exact spec_l2At.mono _ _ _)
      | (with_reducible exact spec_l2End.mono _ _ _)
      | (with_reducible exact LeO.refl _)
      | (with_reducible exact LeO.none _)
      | (with_reducible refine LeO.ite ?_ ?_)
      | (with_reducible refine LeO.bind ?_ (fun _ => ?_))
      | exact ih0 _ _ _ _
      | exact ih1 _ _ _ _ _ _
      | exact spec_l2At.mono _ _ _
      | exact spec_l2End.mono _ _ _
      | exact LeO.none _
      | refine LeO.ite ?_ ?_
      | refine LeO.bind ?_ (fun _ => ?_)
    · intro y0 y1 y2 y3 y4 y5
      unfold spec_l3Put.l0
      repeat' first
      | (with_reducible exact ih0 _ _ _ _)
      | (with_reducible exact ih1 _ _ _ _ _ _)
      | (with_reducible exact spec_l2At.mono _ _ _)
      | (with_reducible exact spec_l2End.mono _ _ _)
      | (with_reducible exact LeO.refl _)
      | (with_reducible exact LeO.none _)
      | (with_reducible refine LeO.ite ?_ ?_)
      | (with_reducible refine LeO.bind ?_ (fun _ => ?_))
      | exact ih0 _ _ _ _
      | exact ih1 _ _ _ _ _ _
      | exact spec_l2At.mono _ _ _
      | exact spec_l2End.mono _ _ _
      | exact LeO.none _
      | refine LeO.ite ?_ ?_
      | refine LeO.bind ?_ (fun _ => ?_)
theorem spec_l3Put.mono : ∀ a0 a1 a2 a3 k, LeO (spec_l3Put.f k a0 a1 a2 a3) (spec_l3Put.f (k + 1) a0 a1 a2 a3) := by
  intro a0 a1 a2 a3 k
  obtain ⟨ih0, ih1⟩ := spec_l3Put.mono_l k
  unfold spec_l3Put.f
  repeat' first
      | (with_reducible exact ih0 _ _ _ _)
      | (with_reducible exact ih1 _ _ _ _ _ _)
      | (with_reducible exact spec_l2At.mono _ _ _)
      | (with_reducible exact spec_l2End.mono _ _ _)
      | (with_reducible exact LeO.refl _)
      | (with_reducible exact LeO.none _)
      | (with_reducible refine LeO.ite ?_ ?_)
      | (with_reducible refine LeO.bind ?_ (fun _ => ?_))
      | exact ih0 _ _ _ _
      | exact ih1 _ _ _ _ _ _
      | exact spec_l2At.mono _ _ _
      | exact spec_l2End.mono _ _ _
      | exact LeO.none _
      | refine LeO.ite ?_ ?_
      | refine LeO.bind ?_ (fun _ => ?_)
set_option maxHeartbeats 8000000 in
set_option maxRecDepth 100000 in
theorem spec_l3Put.calls (k : Nat) (A0 : Option Addr) (c0 : Nat) (l0 : List (S29)) (A1 : Option Addr) (c1 : Nat) (l1 : List (S29)) (a2 : Int) (a3 : Int) (r : List (S29)) (w : World) (hr0 : Kd.C k29 w A0 l0.length l0) (hc0 : l0.length ≤ c0) (hr1 : Kd.C k29 w A1 l1.length l1) (hc1 : l1.length ≤ c1) (h : spec_l3Put.f k l0 l1 a2 a3 = some r) :
    Calls Tryd.prog 83 #[.slice A0 l0.length c0, .slice A1 l1.length c1, .int .i64 a2, .int .i64 a3] w fun e w' => ∃ v0_ : Value, e = .returned (v0_) ∧ Kd.R k29 29 w' w.heap.size (fun _ => True) v0_ r ∧ Below w.heap.size w w' := by
  have hu29 := Tryd.underlying29
  have HR0 := Aside0.mk hr0
  have HC0 := Aside0.mk hc0
  clear hr0 hc0
  have HR1 := Aside0.mk hr1
  have HC1 := Aside0.mk hc1
  clear hr1 hc1
  have HB := Aside0.mk (Below.refl w.heap.size w)
  have H : ((spec_l2At.f k l0 a2).bind fun t188 => (if 0 ≤ t188 then (if t188 < (l0.length : Int) then (if 0 < (l1.length : Int) then (if a3 > 0 then ((spec_l2At.f k l0 a3).bind fun t191 => ((spec_l2End.f k l0 t191).bind fun t192 => (spec_l3Put.j0 k l0 l1 (wrap64 ((wrap64 (((rd_T29 l0 t188).f1) + 1)) - ((rd_T29 l1 0).f1))) t192))) else (spec_l3Put.j0 k l0 l1 (wrap64 ((wrap64 (((rd_T29 l0 t188).f1) + 1)) - ((rd_T29 l1 0).f1))) (wrap64 (t188 + 1)))) else (none)) else (none)) else (none))) = some r := h
  clear h
  replace H := Option.bind_eq_some_iff.mp H
  obtain ⟨t188, A50, H⟩ := H
  (try dsimp only at H)
  have A5 := Aside0.mk A50
  clear A50
  by_cases c6 : 0 ≤ t188
  · rw [if_pos c6] at H
    have c6b0 : decide (0 ≤ t188) = true := decide_eq_true c6
    clear c6
    by_cases c7 : t188 < (l0.length : Int)
    · rw [if_pos c7] at H
      have c7b0 : decide (t188 < (l0.length : Int)) = true := decide_eq_true c7
      clear c7
      by_cases c8 : 0 < (l1.length : Int)
      · rw [if_pos c8] at H
        have c8b0 : decide (0 < (l1.length : Int)) = true := decide_eq_true c8
        have c8b1 : decide (0 < l1.length) = true := decide_eq_true (by omega)
        clear c8
        have HC9 := Aside0.mk H
        clear H
        go_enter Tryd.func83, Tryd.ntmps83
        go_upto_if 32 with (first | (go_at_call 80; (with_reducible refine (spec_l2At.calls k _ _ l0 a2 t188 _ ?side1 ?side2 A5.out).mono ?_); (case side1 => exact CA (HR0.out)); (case side2 => exact HC0.out); rintro e w' ⟨rfl, ⟨nd, rfl⟩⟩; (try first | exact ⟨rfl, _, World.drewN_drewN _ _ _⟩ | exact ⟨rfl, _, Eq.trans (World.drewN_drewN _ _ _) (congrArg (World.drewN _) (Nat.add_assoc _ _ _))⟩); have p189 : 0 ≤ (t188 : Int) := of_decide_eq_true (by first | (with_reducible assumption) | assumption); have q189 : t188 < (l0.length : Int) := of_decide_eq_true (by first | (with_reducible assumption) | assumption); obtain ⟨ad189, e189, hx189_0, hx189_1, hx189_2⟩ := at_T29 HR0.out t188 p189 q189; cases e189; replace p189 := eq_true p189; replace q189 := eq_true q189; have p190 : 0 ≤ (0 : Int) := (by omega); have q190 : 0 < (l1.length : Int) := of_decide_eq_true (by first | (with_reducible assumption) | assumption); obtain ⟨ad190, e190, hx190_0, hx190_1, hx190_2⟩ := at_T29 HR1.out 0 p190 q190; cases e190; have qi190 : (0 < l1.length) = True := eq_true (by omega); (try rw [show ((0 : Int)).toNat = 0 from rfl] at hx190_0); (try rw [show 0 * 3 = 0 from rfl] at hx190_0); (try rw [Addr.add_zero'] at hx190_0); (try rw [show ((0 : Int)).toNat = 0 from rfl] at hx190_1); (try rw [show 0 * 3 = 0 from rfl] at hx190_1); (try rw [Addr.add_zero'] at hx190_1); (try rw [show ((0 : Int)).toNat = 0 from rfl] at hx190_2); (try rw [show 0 * 3 = 0 from rfl] at hx190_2); (try rw [Addr.add_zero'] at hx190_2); replace p190 := eq_true p190; replace q190 := eq_true q190))
        repeat (go_quiet (first | (go_at_call 80; (with_reducible refine (spec_l2At.calls k _ _ l0 a2 t188 _ ?side1 ?side2 A5.out).mono ?_); (case side1 => exact CA (HR0.out)); (case side2 => exact HC0.out); rintro e w' ⟨rfl, ⟨nd, rfl⟩⟩; (try first | exact ⟨rfl, _, World.drewN_drewN _ _ _⟩ | exact ⟨rfl, _, Eq.trans (World.drewN_drewN _ _ _) (congrArg (World.drewN _) (Nat.add_assoc _ _ _))⟩); have p189 : 0 ≤ (t188 : Int) := of_decide_eq_true (by first | (with_reducible assumption) | assumption); have q189 : t188 < (l0.length : Int) := of_decide_eq_true (by first | (with_reducible assumption) | assumption); obtain ⟨ad189, e189, hx189_0, hx189_1, hx189_2⟩ := at_T29 HR0.out t188 p189 q189; cases e189; replace p189 := eq_true p189; replace q189 := eq_true q189; have p190 : 0 ≤ (0 : Int) := (by omega); have q190 : 0 < (l1.length : Int) := of_decide_eq_true (by first | (with_reducible assumption) | assumption); obtain ⟨ad190, e190, hx190_0, hx190_1, hx190_2⟩ := at_T29 HR1.out 0 p190 q190; cases e190; have qi190 : (0 < l1.length) = True := eq_true (by omega); (try rw [show ((0 : Int)).toNat = 0 from rfl] at hx190_0); (try rw [show 0 * 3 = 0 from rfl] at hx190_0); (try rw [Addr.add_zero'] at hx190_0); (try rw [show ((0 : Int)).toNat = 0 from rfl] at hx190_1); (try rw [show 0 * 3 = 0 from rfl] at hx190_1); (try rw [Addr.add_zero'] at hx190_1); (try rw [show ((0 : Int)).toNat = 0 from rfl] at hx190_2); (try rw [show 0 * 3 = 0 from rfl] at hx190_2); (try rw [Addr.add_zero'] at hx190_2); replace p190 := eq_true p190; replace q190 := eq_true q190)); go_upto_if 32 with (first | (go_at_call 80; (with_reducible refine (spec_l2At.calls k _ _ l0 a2 t188 _ ?side1 ?side2 A5.out).mono ?_); (case side1 => exact CA (HR0.out)); (case side2 => exact HC0.out); rintro e w' ⟨rfl, ⟨nd, rfl⟩⟩; (try first | exact ⟨rfl, _, World.drewN_drewN _ _ _⟩ | exact ⟨rfl, _, Eq.trans (World.drewN_drewN _ _ _) (congrArg (World.drewN _) (Nat.add_assoc _ _ _))⟩); have p189 : 0 ≤ (t188 : Int) := of_decide_eq_true (by first | (with_reducible assumption) | assumption); have q189 : t188 < (l0.length : Int) := of_decide_eq_true (by first | (with_reducible assumption) | assumption); obtain ⟨ad189, e189, hx189_0, hx189_1, hx189_2⟩ := at_T29 HR0.out t188 p189 q189; cases e189; replace p189 := eq_true p189; replace q189 := eq_true q189; have p190 : 0 ≤ (0 : Int) := (by omega); have q190 : 0 < (l1.length : Int) := of_decide_eq_true (by first | (with_reducible assumption) | assumption); obtain ⟨ad190, e190, hx190_0, hx190_1, hx190_2⟩ := at_T29 HR1.out 0 p190 q190; cases e190; have qi190 : (0 < l1.length) = True := eq_true (by omega); (try rw [show ((0 : Int)).toNat = 0 from rfl] at hx190_0); (try rw [show 0 * 3 = 0 from rfl] at hx190_0); (try rw [Addr.add_zero'] at hx190_0); (try rw [show ((0 : Int)).toNat = 0 from rfl] at hx190_1); (try rw [show 0 * 3 = 0 from rfl] at hx190_1); (try rw [Addr.add_zero'] at hx190_1); (try rw [show ((0 : Int)).toNat = 0 from rfl] at hx190_2); (try rw [show 0 * 3 = 0 from rfl] at hx190_2); (try rw [Addr.add_zero'] at hx190_2); replace p190 := eq_true p190; replace q190 := eq_true q190)))
        (try simp only [Act.put, List.setIfInBounds_toArray, List.set_cons_zero, List.set_cons_succ])
        go_cut [11] (fun v11 wc => ∃ (kq : Nat) (x11_8 : Int), v11 = .int .i64 x11_8 ∧ Aside0 (spec_l3Put.j0 kq l0 l1 (wrap64 ((wrap64 (((rd_T29 l0 t188).f1) + 1)) - ((rd_T29 l1 0).f1))) x11_8 = some r) ∧ Aside0 (kq ≤ k) ∧ Aside0 (Below w.heap.size w wc))
        case first =>
          have H := HC9.out
          clear HC9
          by_cases c10 : a3 > 0
          · rw [if_pos c10] at H
            have c10b0 : decide (0 < a3) = true := decide_eq_true c10
            clear c10
            (first | rw [c10b0] | (simp only [i64_w, i32_w]; rw [c10b0]) | skip)
            replace H := Option.bind_eq_some_iff.mp H
            obtain ⟨t191, A110, H⟩ := H
            (try dsimp only at H)
            have A11 := Aside0.mk A110
            clear A110
            replace H := Option.bind_eq_some_iff.mp H
            obtain ⟨t192, A120, H⟩ := H
            (try dsimp only at H)
            have A12 := Aside0.mk A120
            clear A120
            have H' := Aside0.mk H
            clear H
            go_wp2_with (first | (go_at_call 80; (with_reducible refine (spec_l2At.calls k _ _ l0 a3 t191 _ ?side1 ?side2 A11.out).mono ?_); (case side1 => exact CA (Kd.C_below HR0.out HB.out)); (case side2 => exact HC0.out); rintro e w' ⟨rfl, ⟨nd, rfl⟩⟩; (try first | exact ⟨rfl, _, World.drewN_drewN _ _ _⟩ | exact ⟨rfl, _, Eq.trans (World.drewN_drewN _ _ _) (congrArg (World.drewN _) (Nat.add_assoc _ _ _))⟩)) | (go_at_call 81; (with_reducible refine (spec_l2End.calls k _ _ l0 t191 t192 _ ?side1 ?side2 A12.out).mono ?_); (case side1 => exact CA (Kd.C_below HR0.out belowA)); (case side2 => exact HC0.out); rintro e w' ⟨rfl, ⟨nd, rfl⟩⟩; (try first | exact ⟨rfl, _, World.drewN_drewN _ _ _⟩ | exact ⟨rfl, _, Eq.trans (World.drewN_drewN _ _ _) (congrArg (World.drewN _) (Nat.add_assoc _ _ _))⟩)))
            repeat (go_quiet (first | (go_at_call 80; (with_reducible refine (spec_l2At.calls k _ _ l0 a3 t191 _ ?side1 ?side2 A11.out).mono ?_); (case side1 => exact CA (Kd.C_below HR0.out HB.out)); (case side2 => exact HC0.out); rintro e w' ⟨rfl, ⟨nd, rfl⟩⟩; (try first | exact ⟨rfl, _, World.drewN_drewN _ _ _⟩ | exact ⟨rfl, _, Eq.trans (World.drewN_drewN _ _ _) (congrArg (World.drewN _) (Nat.add_assoc _ _ _))⟩)) | (go_at_call 81; (with_reducible refine (spec_l2End.calls k _ _ l0 t191 t192 _ ?side1 ?side2 A12.out).mono ?_); (case side1 => exact CA (Kd.C_below HR0.out belowA)); (case side2 => exact HC0.out); rintro e w' ⟨rfl, ⟨nd, rfl⟩⟩; (try first | exact ⟨rfl, _, World.drewN_drewN _ _ _⟩ | exact ⟨rfl, _, Eq.trans (World.drewN_drewN _ _ _) (congrArg (World.drewN _) (Nat.add_assoc _ _ _))⟩))); try go_wp2_with (first | (go_at_call 80; (with_reducible refine (spec_l2At.calls k _ _ l0 a3 t191 _ ?side1 ?side2 A11.out).mono ?_); (case side1 => exact CA (Kd.C_below HR0.out HB.out)); (case side2 => exact HC0.out); rintro e w' ⟨rfl, ⟨nd, rfl⟩⟩; (try first | exact ⟨rfl, _, World.drewN_drewN _ _ _⟩ | exact ⟨rfl, _, Eq.trans (World.drewN_drewN _ _ _) (congrArg (World.drewN _) (Nat.add_assoc _ _ _))⟩)) | (go_at_call 81; (with_reducible refine (spec_l2End.calls k _ _ l0 t191 t192 _ ?side1 ?side2 A12.out).mono ?_); (case side1 => exact CA (Kd.C_below HR0.out belowA)); (case side2 => exact HC0.out); rintro e w' ⟨rfl, ⟨nd, rfl⟩⟩; (try first | exact ⟨rfl, _, World.drewN_drewN _ _ _⟩ | exact ⟨rfl, _, Eq.trans (World.drewN_drewN _ _ _) (congrArg (World.drewN _) (Nat.add_assoc _ _ _))⟩))))
            go_meet
            case rel => exact ⟨_, (t192), (by first | rfl | (simp; done) | (simp [*]; done)), H', ⟨by first | omega | exact Nat.le_refl _⟩, ⟨belowA⟩⟩
          · rw [if_neg c10] at H
            have c10b0 : decide (0 < a3) = false := decide_eq_false c10
            clear c10
            (first | rw [c10b0] | (simp only [i64_w, i32_w]; rw [c10b0]) | skip)
            have H' := Aside0.mk H
            clear H
            go_wp2
            repeat (go_quiet (fail); try go_wp2)
            go_meet
            case rel => exact ⟨_, (wrap64 (t188 + 1)), (by first | rfl | (simp; done) | (simp [*]; done)), H', ⟨by first | omega | exact Nat.le_refl _⟩, ⟨belowA⟩⟩
        case rest =>
          clear HC9
          try clear c1
          try clear p1
          try clear q1
          try clear hx1
          try clear qi1
          try clear p2
          try clear c6
          try clear c6b0
          try clear p6
          try clear c7
          try clear c7b0
          try clear c8
          try clear c8b0
          try clear c8b1
          try clear c10
          try clear c10b0
          try clear hx189_0
          try clear hx189_1
          try clear hx189_2
          try clear hx190_0
          try clear hx190_1
          try clear hx190_2
          try clear p189
          try clear p190
          try clear q189
          try clear q190
          obtain ⟨kq, x11_8, rfl, HA, HJ8, HB⟩ := hcut
          cases kq with
          | zero => exact absurd HA.out (by simp [spec_l3Put.j0])
          | succ kj8 =>
            have H := HA.out
            clear HA
            simp only [spec_l3Put.j0] at H
            obtain ⟨y193, hy193⟩ : ∃ y_ : List (S29), y_ = (([] : List (S29))) := ⟨_, rfl⟩
            replace H : (if 0 ≤ x11_8 then (if x11_8 ≤ (l0.length : Int) then ((some (l0.take (x11_8 : Int).toNat : List (S29))).bind fun y196 => (if y193.length + y196.length < 4398046511104 then (spec_l3Put.l0 kj8 l0 l1 (wrap64 ((wrap64 (((rd_T29 l0 t188).f1) + 1)) - ((rd_T29 l1 0).f1))) x11_8 (y193 ++ y196) 0) else (none))) else (none)) else (none)) = some r := by first | (rw [hy193]; with_reducible exact H) | (have H2_ := (Option.bind_some _ _).symm.trans H; rw [hy193]; with_reducible exact H2_) | (have H2_ := (Option.bind_some _ _).symm.trans H; with_reducible exact H2_) | with_reducible exact H | (rw [hy193]; exact H) | exact H
            have Ny193 := Aside0.mk hy193
            clear hy193
            by_cases c13 : 0 ≤ x11_8
            · rw [if_pos c13] at H
              have c13b0 := eq_true c13
              have c13b1 : decide (0 ≤ x11_8) = true := decide_eq_true c13
              clear c13
              by_cases c14 : x11_8 ≤ (l0.length : Int)
              · rw [if_pos c14] at H
                have c14b0 := eq_true c14
                have c14b1 : decide (x11_8 ≤ (l0.length : Int)) = true := decide_eq_true c14
                clear c14
                obtain ⟨y196, hy196⟩ : ∃ y_ : List (S29), y_ = (l0.take (x11_8 : Int).toNat) := ⟨_, rfl⟩
                replace H : (if y193.length + y196.length < 4398046511104 then (spec_l3Put.l0 kj8 l0 l1 (wrap64 ((wrap64 (((rd_T29 l0 t188).f1) + 1)) - ((rd_T29 l1 0).f1))) x11_8 (y193 ++ y196) 0) else (none)) = some r := by first | (rw [hy196]; with_reducible exact H) | (have H2_ := (Option.bind_some _ _).symm.trans H; rw [hy196]; with_reducible exact H2_) | (have H2_ := (Option.bind_some _ _).symm.trans H; with_reducible exact H2_) | with_reducible exact H | (rw [hy196]; exact H) | exact H
                have Ny196 := Aside0.mk hy196
                clear hy196
                by_cases c15 : y193.length + y196.length < 4398046511104
                · rw [if_pos c15] at H
                  have LMc15 := Aside0.mk c15
                  clear c15
                  obtain ⟨y200, hy200⟩ : ∃ y_ : List (S29), y_ = (y193 ++ y196) := ⟨_, rfl⟩
                  replace H : (spec_l3Put.l0 kj8 l0 l1 (wrap64 ((wrap64 (((rd_T29 l0 t188).f1) + 1)) - ((rd_T29 l1 0).f1))) x11_8 y200 0) = some r := by first | (rw [hy200]; with_reducible exact H) | (have H2_ := (Option.bind_some _ _).symm.trans H; rw [hy200]; with_reducible exact H2_) | (have H2_ := (Option.bind_some _ _).symm.trans H; with_reducible exact H2_) | with_reducible exact H | (rw [hy200]; exact H) | exact H
                  have Ny200 := Aside0.mk hy200
                  clear hy200
                  have H' := Aside0.mk H
                  clear H
                  go_wp2_with (first | ((with_reducible refine gate_dst (N := 38) rfl ?_); refine Kd.R_lit k29 _ 29 ?hg (N := 38) ?hd (xs := ([] : List (S29))) (inner := []) (ok := fun _ => True) (okp := fun _ => True) ?hr ?hp (fun _ hk => hk) trivial (Below.refl _ _) (Nat.le_refl _) (by simp) ?_; (case hd => rfl); (case hg => rfl); (case hr => first | (go_simp; done) | (go_simp; rfl)); (case hp => exact (Reps.none _ _)); intro v194 w16 ho17 hb hg_ hnew_; clear hg_ hnew_; (first | rw [← Ny193.out] at ho17 | (simp only [Int.reduceToNat] at ho17; rw [← Ny193.out] at ho17)); have n0_ := Aside0.mk (Kd.R_lower ho17 (below_size belowA)); have n1_ := Aside0.mk (below_step belowA hb); clear HB; have HO195 := n0_; have HB := n1_; clear n0_ n1_; clear hb ho17; have q18 : (x11_8 : Int) ≤ ((l0.length : Int) : Int) := of_decide_eq_true (by first | (with_reducible assumption) | assumption); obtain ⟨i018, hi018, _, hsz18, _⟩ := info_parts info29; have hroom18 : l0.length ≤ c0 := HC0.out; have hC18 : Kd.C k29 _ (some ad189) l0.length l0 := HR0.out; have hcut18 := cut_to (P := Tryd.prog) 23 29 .i64 Tryd.underlying23 hi018 (some ad189) l0.length c0 x11_8 (of_decide_eq_true (by first | (with_reducible assumption) | assumption)) q18 hroom18; have hr18 := Kd.C_take (m := (x11_8 : Int).toNat) hC18 (by omega); have hy18 : y196.length = (x11_8 : Int).toNat := (by rw [Ny196.out, List.length_take]; omega); rw [← Ny196.out] at hr18; rw [← hy18] at hcut18; have HR199 := Aside0.mk hr18; have HC199 := Aside0.mk (show y196.length ≤ c0 from by omega); clear hr18 hC18 hroom18 hi018 hsz18; have KY18 := Aside0.mk hy18; clear hy18; replace q18 := eq_true q18) | ((with_reducible refine gate_builtin (b := .append) (xs := #[.tmp 38, .tmp 41]) rfl ?_); at_builtin; refine Kd.R_append_rows k29 (w0 := w) w.heap.size rfl (.tmp 38) (.tmp 41) 23 29 (.agg #[(.int .i64 0), (.int .i64 0), (.string ⟨#[]⟩)]) 32 rfl Tryd.underlying23 info29 rfl (by decide) (by omega) v194 y193 y196 _ _ _ (fun _ => True) (fun _ => False) rfl rfl ?aO ?aR (fun _ _ h => h) (fun _ h => h.elim) ?aF ?aB ?aS ?aL ?_; (case aR => exact CA (Kd.C_below HR199.out HB.out)); (case aB => exact belowA); (case aF => exact (fun _ _ => trivial)); (case aO => exact (RA HO195)); (case aS => exact (below_size belowA)); (case aL => have := LMc15.out; omega); intro v201 w19 ho hb hg hat; rw [← Ny200.out] at ho; have n0_ := Aside0.mk (hb); have n1_ := Aside0.mk (ho); clear HB; clear HO195; have HB := n0_; have HO202 := n1_; clear n0_ n1_; clear ho hb hg hat))
                  repeat (go_quiet (first | ((with_reducible refine gate_dst (N := 38) rfl ?_); refine Kd.R_lit k29 _ 29 ?hg (N := 38) ?hd (xs := ([] : List (S29))) (inner := []) (ok := fun _ => True) (okp := fun _ => True) ?hr ?hp (fun _ hk => hk) trivial (Below.refl _ _) (Nat.le_refl _) (by simp) ?_; (case hd => rfl); (case hg => rfl); (case hr => first | (go_simp; done) | (go_simp; rfl)); (case hp => exact (Reps.none _ _)); intro v194 w16 ho17 hb hg_ hnew_; clear hg_ hnew_; (first | rw [← Ny193.out] at ho17 | (simp only [Int.reduceToNat] at ho17; rw [← Ny193.out] at ho17)); have n0_ := Aside0.mk (Kd.R_lower ho17 (below_size belowA)); have n1_ := Aside0.mk (below_step belowA hb); clear HB; have HO195 := n0_; have HB := n1_; clear n0_ n1_; clear hb ho17; have q18 : (x11_8 : Int) ≤ ((l0.length : Int) : Int) := of_decide_eq_true (by first | (with_reducible assumption) | assumption); obtain ⟨i018, hi018, _, hsz18, _⟩ := info_parts info29; have hroom18 : l0.length ≤ c0 := HC0.out; have hC18 : Kd.C k29 _ (some ad189) l0.length l0 := HR0.out; have hcut18 := cut_to (P := Tryd.prog) 23 29 .i64 Tryd.underlying23 hi018 (some ad189) l0.length c0 x11_8 (of_decide_eq_true (by first | (with_reducible assumption) | assumption)) q18 hroom18; have hr18 := Kd.C_take (m := (x11_8 : Int).toNat) hC18 (by omega); have hy18 : y196.length = (x11_8 : Int).toNat := (by rw [Ny196.out, List.length_take]; omega); rw [← Ny196.out] at hr18; rw [← hy18] at hcut18; have HR199 := Aside0.mk hr18; have HC199 := Aside0.mk (show y196.length ≤ c0 from by omega); clear hr18 hC18 hroom18 hi018 hsz18; have KY18 := Aside0.mk hy18; clear hy18; replace q18 := eq_true q18) | ((with_reducible refine gate_builtin (b := .append) (xs := #[.tmp 38, .tmp 41]) rfl ?_); at_builtin; refine Kd.R_append_rows k29 (w0 := w) w.heap.size rfl (.tmp 38) (.tmp 41) 23 29 (.agg #[(.int .i64 0), (.int .i64 0), (.string ⟨#[]⟩)]) 32 rfl Tryd.underlying23 info29 rfl (by decide) (by omega) v194 y193 y196 _ _ _ (fun _ => True) (fun _ => False) rfl rfl ?aO ?aR (fun _ _ h => h) (fun _ h => h.elim) ?aF ?aB ?aS ?aL ?_; (case aR => exact CA (Kd.C_below HR199.out HB.out)); (case aB => exact belowA); (case aF => exact (fun _ _ => trivial)); (case aO => exact (RA HO195)); (case aS => exact (below_size belowA)); (case aL => have := LMc15.out; omega); intro v201 w19 ho hb hg hat; rw [← Ny200.out] at ho; have n0_ := Aside0.mk (hb); have n1_ := Aside0.mk (ho); clear HB; clear HO195; have HB := n0_; have HO202 := n1_; clear n0_ n1_; clear ho hb hg hat)); try go_wp2_with (first | ((with_reducible refine gate_dst (N := 38) rfl ?_); refine Kd.R_lit k29 _ 29 ?hg (N := 38) ?hd (xs := ([] : List (S29))) (inner := []) (ok := fun _ => True) (okp := fun _ => True) ?hr ?hp (fun _ hk => hk) trivial (Below.refl _ _) (Nat.le_refl _) (by simp) ?_; (case hd => rfl); (case hg => rfl); (case hr => first | (go_simp; done) | (go_simp; rfl)); (case hp => exact (Reps.none _ _)); intro v194 w16 ho17 hb hg_ hnew_; clear hg_ hnew_; (first | rw [← Ny193.out] at ho17 | (simp only [Int.reduceToNat] at ho17; rw [← Ny193.out] at ho17)); have n0_ := Aside0.mk (Kd.R_lower ho17 (below_size belowA)); have n1_ := Aside0.mk (below_step belowA hb); clear HB; have HO195 := n0_; have HB := n1_; clear n0_ n1_; clear hb ho17; have q18 : (x11_8 : Int) ≤ ((l0.length : Int) : Int) := of_decide_eq_true (by first | (with_reducible assumption) | assumption); obtain ⟨i018, hi018, _, hsz18, _⟩ := info_parts info29; have hroom18 : l0.length ≤ c0 := HC0.out; have hC18 : Kd.C k29 _ (some ad189) l0.length l0 := HR0.out; have hcut18 := cut_to (P := Tryd.prog) 23 29 .i64 Tryd.underlying23 hi018 (some ad189) l0.length c0 x11_8 (of_decide_eq_true (by first | (with_reducible assumption) | assumption)) q18 hroom18; have hr18 := Kd.C_take (m := (x11_8 : Int).toNat) hC18 (by omega); have hy18 : y196.length = (x11_8 : Int).toNat := (by rw [Ny196.out, List.length_take]; omega); rw [← Ny196.out] at hr18; rw [← hy18] at hcut18; have HR199 := Aside0.mk hr18; have HC199 := Aside0.mk (show y196.length ≤ c0 from by omega); clear hr18 hC18 hroom18 hi018 hsz18; have KY18 := Aside0.mk hy18; clear hy18; replace q18 := eq_true q18) | ((with_reducible refine gate_builtin (b := .append) (xs := #[.tmp 38, .tmp 41]) rfl ?_); at_builtin; refine Kd.R_append_rows k29 (w0 := w) w.heap.size rfl (.tmp 38) (.tmp 41) 23 29 (.agg #[(.int .i64 0), (.int .i64 0), (.string ⟨#[]⟩)]) 32 rfl Tryd.underlying23 info29 rfl (by decide) (by omega) v194 y193 y196 _ _ _ (fun _ => True) (fun _ => False) rfl rfl ?aO ?aR (fun _ _ h => h) (fun _ h => h.elim) ?aF ?aB ?aS ?aL ?_; (case aR => exact CA (Kd.C_below HR199.out HB.out)); (case aB => exact belowA); (case aF => exact (fun _ _ => trivial)); (case aO => exact (RA HO195)); (case aS => exact (below_size belowA)); (case aL => have := LMc15.out; omega); intro v201 w19 ho hb hg hat; rw [← Ny200.out] at ho; have n0_ := Aside0.mk (hb); have n1_ := Aside0.mk (ho); clear HB; clear HO195; have HB := n0_; have HO202 := n1_; clear n0_ n1_; clear ho hb hg hat)))
                  go_loopg [12, 13] kj8 (fun kq v12 v13 w' => ∃ (x12_2 : List (S29)) (x13_2 : Int), v13 = .int .i64 x13_2 ∧ Aside0 (spec_l3Put.l0 kq l0 l1 (wrap64 ((wrap64 (((rd_T29 l0 t188).f1) + 1)) - ((rd_T29 l1 0).f1))) x11_8 x12_2 x13_2 = some r) ∧ Aside0 (kq ≤ kj8) ∧ Aside0 (Kd.R k29 29 w' w.heap.size (fun _ => True) v12 x12_2) ∧ Aside0 (Below w.heap.size w w'))
                  case atStart => exact ⟨(y200), (0), (by first | rfl | (simp; done) | (simp [*]; done)), H', ⟨Nat.le_refl _⟩, ⟨RA HO202⟩, ⟨belowA⟩⟩
                  case round =>
                    clear H'
                    try clear c1
                    try clear p1
                    try clear q1
                    try clear hx1
                    try clear qi1
                    try clear p2
                    try clear c6
                    try clear c6b0
                    try clear p6
                    try clear c7
                    try clear c7b0
                    try clear c8
                    try clear c8b0
                    try clear c8b1
                    try clear c10
                    try clear c10b0
                    try clear c13
                    try clear c13b0
                    try clear c13b1
                    try clear c14
                    try clear c14b0
                    try clear c14b1
                    try clear c15
                    try clear p18
                    try clear q18
                    try clear hx18
                    try clear p19
                    try clear q19
                    try clear hx19
                    try clear qi19
                    try clear hx189_0
                    try clear hx189_1
                    try clear hx189_2
                    try clear hx190_0
                    try clear hx190_1
                    try clear hx190_2
                    try clear p1
                    try clear p189
                    try clear p190
                    try clear p2
                    try clear p6
                    try clear q1
                    try clear q18
                    try clear q189
                    try clear q190
                    obtain ⟨x12_2, x13_2, rfl, HA, HK2, HO_12, HB⟩ := hrel
                    cases gk with
                    | zero => exact absurd HA.out (by simp [spec_l3Put.l0])
                    | succ k2 =>
                      have H := HA.out
                      clear HA
                      simp only [spec_l3Put.l0] at H
                      by_cases c20 : x13_2 < (l1.length : Int)
                      · rw [if_pos c20] at H
                        have c20b0 : decide (x13_2 < (l1.length : Int)) = true := decide_eq_true c20
                        clear c20
                        by_cases c21 : 0 ≤ x13_2
                        · rw [if_pos c21] at H
                          have c21b0 : decide (0 ≤ x13_2) = true := decide_eq_true c21
                          clear c21
                          by_cases c22 : x12_2.length < 4398046511104
                          · rw [if_pos c22] at H
                            have LMc22 := Aside0.mk c22
                            clear c22
                            obtain ⟨y205, hy205⟩ : ∃ y_ : List (S29), y_ = (x12_2 ++ [(⟨(rd_T29 l1 x13_2).f0, wrap64 (((rd_T29 l1 x13_2).f1) + (wrap64 ((wrap64 (((rd_T29 l0 t188).f1) + 1)) - ((rd_T29 l1 0).f1)))), (rd_T29 l1 x13_2).f2⟩ : S29)]) := ⟨_, rfl⟩
                            replace H : (spec_l3Put.l0 k2 l0 l1 (wrap64 ((wrap64 (((rd_T29 l0 t188).f1) + 1)) - ((rd_T29 l1 0).f1))) x11_8 y205 (wrap64 (x13_2 + 1))) = some r := by first | (rw [hy205]; with_reducible exact H) | (have H2_ := (Option.bind_some _ _).symm.trans H; rw [hy205]; with_reducible exact H2_) | (have H2_ := (Option.bind_some _ _).symm.trans H; with_reducible exact H2_) | with_reducible exact H | (rw [hy205]; exact H) | exact H
                            have Ny205 := Aside0.mk hy205
                            clear hy205
                            have H' := Aside0.mk H
                            clear H
                            have p203 : 0 ≤ (x13_2 : Int) := of_decide_eq_true (by first | (with_reducible assumption) | assumption)
                            have q203 : x13_2 < (l1.length : Int) := of_decide_eq_true (by first | (with_reducible assumption) | assumption)
                            obtain ⟨ad203, e203, hx203_0, hx203_1, hx203_2⟩ := at_T29 HR1.out x13_2 p203 q203
                            obtain rfl : ad190 = ad203 := (by injection e203)
                            replace hx203_0 := bcell HB hx203_0
                            replace hx203_1 := bcell HB hx203_1
                            replace hx203_2 := bcell HB hx203_2
                            replace p203 := eq_true p203
                            replace q203 := eq_true q203
                            go_wp2_with (first | ((with_reducible refine gate_dst (N := 14) rfl ?_); refine box_event ?hg (N := 14) ?hd (cs := #[.int .i64 0, .int .i64 0, .string (⟨#[]⟩ : ByteArray)]) (t := 29) ?hr ?_; (case hd => rfl); (case hg => rfl); (case hr => first | (go_simp; done) | (go_simp; rfl)); intro gb204 hg w23 hbox hb; have n0_ := Aside0.mk (Kd.R_below (Kd.R_elderB (RA HO_12) gb204 (Nat.le_of_eq hg.symm)) hb); have n1_ := Aside0.mk (below_step belowA hb); have n2_ := Aside0.mk (hbox); have n3_ := Aside0.mk ((by rw [hg]; exact (below_size belowA) : w.heap.size ≤ gb204)); have n4_ := Aside0.mk ((by rw [hg]; exact (below_size belowA) : w.heap.size ≤ gb204)); clear HO_12; clear HB; have HO_12 := n0_; have HB := n1_; have BK204 := n2_; have GW204 := n3_; have GE204 := n4_; clear n0_ n1_ n2_ n3_ n4_; clear hb hbox hg; obtain ⟨hcz24_0, hcz24_1, hcz24_2, hfz24_0, hfz24_1, hfz24_2⟩ := blk_facts3 BK204.out) | ((with_reducible refine gate_builtin (b := .append) (xs := #[.tmp 58, .tmp 60]) rfl ?_); at_builtin; refine Kd.R_append k29 (w0 := w) w.heap.size rfl (.tmp 58) (.tmp 60) 23 29 (.agg #[(.int .i64 0), (.int .i64 0), (.string ⟨#[]⟩)]) 32 rfl Tryd.underlying23 info29 rfl (by decide) (by omega) u12 x12_2 (⟨(rd_T29 l1 x13_2).f0, wrap64 (((rd_T29 l1 x13_2).f1) + (wrap64 ((wrap64 (((rd_T29 l0 t188).f1) + 1)) - ((rd_T29 l1 0).f1)))), (rd_T29 l1 x13_2).f2⟩ : S29) [.int .i64 ((rd_T29 l1 x13_2).f0), .int .i64 (wrap64 (((rd_T29 l1 x13_2).f1) + (wrap64 ((wrap64 (((rd_T29 l0 t188).f1) + 1)) - ((rd_T29 l1 0).f1))))), .string ((rd_T29 l1 x13_2).f2)] (fun k_ => k_ ≠ gb204) (fun _ => False) rfl (by first | (go_simp; done) | (go_simp; rfl)) ?aP (fun _ hk => hk.elim) ?aF ?aO ?aB ?aS ?aL ?_; (case aP => exact k29_mkM _ _ _ (⟨(rd_T29 l1 x13_2).f0, wrap64 (((rd_T29 l1 x13_2).f1) + (wrap64 ((wrap64 (((rd_T29 l0 t188).f1) + 1)) - ((rd_T29 l1 0).f1)))), (rd_T29 l1 x13_2).f2⟩ : S29)); (case aB => exact belowA); (case aF => exact (fun k_ hk => Kd.freshB (g := gb204) (o := .cells #[.int .i64 ((rd_T29 l1 x13_2).f0), .int .i64 (wrap64 (((rd_T29 l1 x13_2).f1) + (wrap64 ((wrap64 (((rd_T29 l0 t188).f1) + 1)) - ((rd_T29 l1 0).f1))))), .string ((rd_T29 l1 x13_2).f2)] 29 (0, 0)) (blk_put (blk_put (blk_put (blk_put (blkC #[.int .i64 0, .int .i64 0, .string (⟨#[]⟩ : ByteArray)]) 0 _ rfl) 1 _ rfl) 2 _ rfl) 1 _ rfl) k_ hk)); (case aO => exact (by (with_reducible repeat (first | apply Kd.R_alloc | apply Kd.R_drewN | apply Kd.R_drew)); exact Kd.R_mono (Kd.R_far (p := ⟨gb204, 1, none⟩) (Kd.R_far (p := ⟨gb204, 2, none⟩) (Kd.R_far (p := ⟨gb204, 1, none⟩) (Kd.R_far (p := ⟨gb204, 0, none⟩) (Kd.R_mono HO_12.out (fun k_ hk => (⟨hk, hk.2⟩ : _ ∧ k_ ≠ gb204))) (fun _ hk => hk.2) (.int .i64 ((rd_T29 l1 x13_2).f0))) (fun _ hk => hk.2) (.int .i64 ((rd_T29 l1 x13_2).f1))) (fun _ hk => hk.2) (.string ((rd_T29 l1 x13_2).f2))) (fun _ hk => hk.2) (.int .i64 (wrap64 (((rd_T29 l1 x13_2).f1) + (wrap64 ((wrap64 (((rd_T29 l0 t188).f1) + 1)) - ((rd_T29 l1 0).f1))))))) (fun _ hk => hk.1.2))); (case aS => exact (below_size belowA)); (case aL => have := LMc22.out; omega); intro v206 w25 ho hb hg hat; rw [← Ny205.out] at ho; have n0_ := Aside0.mk (blk_grown (g := gb204) (o := .cells #[.int .i64 ((rd_T29 l1 x13_2).f0), .int .i64 (wrap64 (((rd_T29 l1 x13_2).f1) + (wrap64 ((wrap64 (((rd_T29 l0 t188).f1) + 1)) - ((rd_T29 l1 0).f1))))), .string ((rd_T29 l1 x13_2).f2)] 29 (0, 0)) (blk_put (blk_put (blk_put (blk_put (blkC #[.int .i64 0, .int .i64 0, .string (⟨#[]⟩ : ByteArray)]) 0 _ rfl) 1 _ rfl) 2 _ rfl) 1 _ rfl) hg (Kd.R_away HO_12.out (fun _ hk => hk.2))); have n1_ := Aside0.mk (hb); have n2_ := Aside0.mk (ho); clear BK204; clear HB; clear HO_12; have BK204 := n0_; have HB := n1_; have HO207 := n2_; clear n0_ n1_ n2_; clear ho hb hg hat))
                            repeat (go_quiet (first | ((with_reducible refine gate_dst (N := 14) rfl ?_); refine box_event ?hg (N := 14) ?hd (cs := #[.int .i64 0, .int .i64 0, .string (⟨#[]⟩ : ByteArray)]) (t := 29) ?hr ?_; (case hd => rfl); (case hg => rfl); (case hr => first | (go_simp; done) | (go_simp; rfl)); intro gb204 hg w23 hbox hb; have n0_ := Aside0.mk (Kd.R_below (Kd.R_elderB (RA HO_12) gb204 (Nat.le_of_eq hg.symm)) hb); have n1_ := Aside0.mk (below_step belowA hb); have n2_ := Aside0.mk (hbox); have n3_ := Aside0.mk ((by rw [hg]; exact (below_size belowA) : w.heap.size ≤ gb204)); have n4_ := Aside0.mk ((by rw [hg]; exact (below_size belowA) : w.heap.size ≤ gb204)); clear HO_12; clear HB; have HO_12 := n0_; have HB := n1_; have BK204 := n2_; have GW204 := n3_; have GE204 := n4_; clear n0_ n1_ n2_ n3_ n4_; clear hb hbox hg; obtain ⟨hcz24_0, hcz24_1, hcz24_2, hfz24_0, hfz24_1, hfz24_2⟩ := blk_facts3 BK204.out) | ((with_reducible refine gate_builtin (b := .append) (xs := #[.tmp 58, .tmp 60]) rfl ?_); at_builtin; refine Kd.R_append k29 (w0 := w) w.heap.size rfl (.tmp 58) (.tmp 60) 23 29 (.agg #[(.int .i64 0), (.int .i64 0), (.string ⟨#[]⟩)]) 32 rfl Tryd.underlying23 info29 rfl (by decide) (by omega) u12 x12_2 (⟨(rd_T29 l1 x13_2).f0, wrap64 (((rd_T29 l1 x13_2).f1) + (wrap64 ((wrap64 (((rd_T29 l0 t188).f1) + 1)) - ((rd_T29 l1 0).f1)))), (rd_T29 l1 x13_2).f2⟩ : S29) [.int .i64 ((rd_T29 l1 x13_2).f0), .int .i64 (wrap64 (((rd_T29 l1 x13_2).f1) + (wrap64 ((wrap64 (((rd_T29 l0 t188).f1) + 1)) - ((rd_T29 l1 0).f1))))), .string ((rd_T29 l1 x13_2).f2)] (fun k_ => k_ ≠ gb204) (fun _ => False) rfl (by first | (go_simp; done) | (go_simp; rfl)) ?aP (fun _ hk => hk.elim) ?aF ?aO ?aB ?aS ?aL ?_; (case aP => exact k29_mkM _ _ _ (⟨(rd_T29 l1 x13_2).f0, wrap64 (((rd_T29 l1 x13_2).f1) + (wrap64 ((wrap64 (((rd_T29 l0 t188).f1) + 1)) - ((rd_T29 l1 0).f1)))), (rd_T29 l1 x13_2).f2⟩ : S29)); (case aB => exact belowA); (case aF => exact (fun k_ hk => Kd.freshB (g := gb204) (o := .cells #[.int .i64 ((rd_T29 l1 x13_2).f0), .int .i64 (wrap64 (((rd_T29 l1 x13_2).f1) + (wrap64 ((wrap64 (((rd_T29 l0 t188).f1) + 1)) - ((rd_T29 l1 0).f1))))), .string ((rd_T29 l1 x13_2).f2)] 29 (0, 0)) (blk_put (blk_put (blk_put (blk_put (blkC #[.int .i64 0, .int .i64 0, .string (⟨#[]⟩ : ByteArray)]) 0 _ rfl) 1 _ rfl) 2 _ rfl) 1 _ rfl) k_ hk)); (case aO => exact (by (with_reducible repeat (first | apply Kd.R_alloc | apply Kd.R_drewN | apply Kd.R_drew)); exact Kd.R_mono (Kd.R_far (p := ⟨gb204, 1, none⟩) (Kd.R_far (p := ⟨gb204, 2, none⟩) (Kd.R_far (p := ⟨gb204, 1, none⟩) (Kd.R_far (p := ⟨gb204, 0, none⟩) (Kd.R_mono HO_12.out (fun k_ hk => (⟨hk, hk.2⟩ : _ ∧ k_ ≠ gb204))) (fun _ hk => hk.2) (.int .i64 ((rd_T29 l1 x13_2).f0))) (fun _ hk => hk.2) (.int .i64 ((rd_T29 l1 x13_2).f1))) (fun _ hk => hk.2) (.string ((rd_T29 l1 x13_2).f2))) (fun _ hk => hk.2) (.int .i64 (wrap64 (((rd_T29 l1 x13_2).f1) + (wrap64 ((wrap64 (((rd_T29 l0 t188).f1) + 1)) - ((rd_T29 l1 0).f1))))))) (fun _ hk => hk.1.2))); (case aS => exact (below_size belowA)); (case aL => have := LMc22.out; omega); intro v206 w25 ho hb hg hat; rw [← Ny205.out] at ho; have n0_ := Aside0.mk (blk_grown (g := gb204) (o := .cells #[.int .i64 ((rd_T29 l1 x13_2).f0), .int .i64 (wrap64 (((rd_T29 l1 x13_2).f1) + (wrap64 ((wrap64 (((rd_T29 l0 t188).f1) + 1)) - ((rd_T29 l1 0).f1))))), .string ((rd_T29 l1 x13_2).f2)] 29 (0, 0)) (blk_put (blk_put (blk_put (blk_put (blkC #[.int .i64 0, .int .i64 0, .string (⟨#[]⟩ : ByteArray)]) 0 _ rfl) 1 _ rfl) 2 _ rfl) 1 _ rfl) hg (Kd.R_away HO_12.out (fun _ hk => hk.2))); have n1_ := Aside0.mk (hb); have n2_ := Aside0.mk (ho); clear BK204; clear HB; clear HO_12; have BK204 := n0_; have HB := n1_; have HO207 := n2_; clear n0_ n1_ n2_; clear ho hb hg hat)); try go_wp2_with (first | ((with_reducible refine gate_dst (N := 14) rfl ?_); refine box_event ?hg (N := 14) ?hd (cs := #[.int .i64 0, .int .i64 0, .string (⟨#[]⟩ : ByteArray)]) (t := 29) ?hr ?_; (case hd => rfl); (case hg => rfl); (case hr => first | (go_simp; done) | (go_simp; rfl)); intro gb204 hg w23 hbox hb; have n0_ := Aside0.mk (Kd.R_below (Kd.R_elderB (RA HO_12) gb204 (Nat.le_of_eq hg.symm)) hb); have n1_ := Aside0.mk (below_step belowA hb); have n2_ := Aside0.mk (hbox); have n3_ := Aside0.mk ((by rw [hg]; exact (below_size belowA) : w.heap.size ≤ gb204)); have n4_ := Aside0.mk ((by rw [hg]; exact (below_size belowA) : w.heap.size ≤ gb204)); clear HO_12; clear HB; have HO_12 := n0_; have HB := n1_; have BK204 := n2_; have GW204 := n3_; have GE204 := n4_; clear n0_ n1_ n2_ n3_ n4_; clear hb hbox hg; obtain ⟨hcz24_0, hcz24_1, hcz24_2, hfz24_0, hfz24_1, hfz24_2⟩ := blk_facts3 BK204.out) | ((with_reducible refine gate_builtin (b := .append) (xs := #[.tmp 58, .tmp 60]) rfl ?_); at_builtin; refine Kd.R_append k29 (w0 := w) w.heap.size rfl (.tmp 58) (.tmp 60) 23 29 (.agg #[(.int .i64 0), (.int .i64 0), (.string ⟨#[]⟩)]) 32 rfl Tryd.underlying23 info29 rfl (by decide) (by omega) u12 x12_2 (⟨(rd_T29 l1 x13_2).f0, wrap64 (((rd_T29 l1 x13_2).f1) + (wrap64 ((wrap64 (((rd_T29 l0 t188).f1) + 1)) - ((rd_T29 l1 0).f1)))), (rd_T29 l1 x13_2).f2⟩ : S29) [.int .i64 ((rd_T29 l1 x13_2).f0), .int .i64 (wrap64 (((rd_T29 l1 x13_2).f1) + (wrap64 ((wrap64 (((rd_T29 l0 t188).f1) + 1)) - ((rd_T29 l1 0).f1))))), .string ((rd_T29 l1 x13_2).f2)] (fun k_ => k_ ≠ gb204) (fun _ => False) rfl (by first | (go_simp; done) | (go_simp; rfl)) ?aP (fun _ hk => hk.elim) ?aF ?aO ?aB ?aS ?aL ?_; (case aP => exact k29_mkM _ _ _ (⟨(rd_T29 l1 x13_2).f0, wrap64 (((rd_T29 l1 x13_2).f1) + (wrap64 ((wrap64 (((rd_T29 l0 t188).f1) + 1)) - ((rd_T29 l1 0).f1)))), (rd_T29 l1 x13_2).f2⟩ : S29)); (case aB => exact belowA); (case aF => exact (fun k_ hk => Kd.freshB (g := gb204) (o := .cells #[.int .i64 ((rd_T29 l1 x13_2).f0), .int .i64 (wrap64 (((rd_T29 l1 x13_2).f1) + (wrap64 ((wrap64 (((rd_T29 l0 t188).f1) + 1)) - ((rd_T29 l1 0).f1))))), .string ((rd_T29 l1 x13_2).f2)] 29 (0, 0)) (blk_put (blk_put (blk_put (blk_put (blkC #[.int .i64 0, .int .i64 0, .string (⟨#[]⟩ : ByteArray)]) 0 _ rfl) 1 _ rfl) 2 _ rfl) 1 _ rfl) k_ hk)); (case aO => exact (by (with_reducible repeat (first | apply Kd.R_alloc | apply Kd.R_drewN | apply Kd.R_drew)); exact Kd.R_mono (Kd.R_far (p := ⟨gb204, 1, none⟩) (Kd.R_far (p := ⟨gb204, 2, none⟩) (Kd.R_far (p := ⟨gb204, 1, none⟩) (Kd.R_far (p := ⟨gb204, 0, none⟩) (Kd.R_mono HO_12.out (fun k_ hk => (⟨hk, hk.2⟩ : _ ∧ k_ ≠ gb204))) (fun _ hk => hk.2) (.int .i64 ((rd_T29 l1 x13_2).f0))) (fun _ hk => hk.2) (.int .i64 ((rd_T29 l1 x13_2).f1))) (fun _ hk => hk.2) (.string ((rd_T29 l1 x13_2).f2))) (fun _ hk => hk.2) (.int .i64 (wrap64 (((rd_T29 l1 x13_2).f1) + (wrap64 ((wrap64 (((rd_T29 l0 t188).f1) + 1)) - ((rd_T29 l1 0).f1))))))) (fun _ hk => hk.1.2))); (case aS => exact (below_size belowA)); (case aL => have := LMc22.out; omega); intro v206 w25 ho hb hg hat; rw [← Ny205.out] at ho; have n0_ := Aside0.mk (blk_grown (g := gb204) (o := .cells #[.int .i64 ((rd_T29 l1 x13_2).f0), .int .i64 (wrap64 (((rd_T29 l1 x13_2).f1) + (wrap64 ((wrap64 (((rd_T29 l0 t188).f1) + 1)) - ((rd_T29 l1 0).f1))))), .string ((rd_T29 l1 x13_2).f2)] 29 (0, 0)) (blk_put (blk_put (blk_put (blk_put (blkC #[.int .i64 0, .int .i64 0, .string (⟨#[]⟩ : ByteArray)]) 0 _ rfl) 1 _ rfl) 2 _ rfl) 1 _ rfl) hg (Kd.R_away HO_12.out (fun _ hk => hk.2))); have n1_ := Aside0.mk (hb); have n2_ := Aside0.mk (ho); clear BK204; clear HB; clear HO_12; have BK204 := n0_; have HB := n1_; have HO207 := n2_; clear n0_ n1_ n2_; clear ho hb hg hat)))
                            go_roundg k2
                            case measure => have := HJ8.out; have := HK2.out; omega
                            case rel => exact ⟨(y205), (wrap64 (x13_2 + 1)), (by first | rfl | (simp; done) | (simp [*]; done)), H', ⟨by have := HJ8.out; have := HK2.out; omega⟩, ⟨by (with_reducible repeat (first | apply Kd.R_alloc | apply Kd.R_drewN | apply Kd.R_drew)); exact Kd.R_mono HO207.out (fun _ hk => trivial)⟩, ⟨belowA⟩⟩
                          · rw [if_neg c22] at H
                            exact absurd H (by simp)
                        · rw [if_neg c21] at H
                          exact absurd H (by simp)
                      · rw [if_neg c20] at H
                        have c20b0 : decide (x13_2 < (l1.length : Int)) = false := decide_eq_false c20
                        clear c20
                        by_cases c26 : 0 ≤ x11_8
                        · rw [if_pos c26] at H
                          have c26b0 := eq_true c26
                          have c26b1 : decide (0 ≤ x11_8) = true := decide_eq_true c26
                          clear c26
                          by_cases c27 : x11_8 ≤ (l0.length : Int)
                          · rw [if_pos c27] at H
                            have c27b0 := eq_true c27
                            have c27b1 : decide (x11_8 ≤ (l0.length : Int)) = true := decide_eq_true c27
                            clear c27
                            obtain ⟨y208, hy208⟩ : ∃ y_ : List (S29), y_ = (l0.drop (x11_8 : Int).toNat) := ⟨_, rfl⟩
                            replace H : (if x12_2.length + y208.length < 4398046511104 then (some (x12_2 ++ y208)) else (none)) = some r := by first | (rw [hy208]; with_reducible exact H) | (have H2_ := (Option.bind_some _ _).symm.trans H; rw [hy208]; with_reducible exact H2_) | (have H2_ := (Option.bind_some _ _).symm.trans H; with_reducible exact H2_) | with_reducible exact H | (rw [hy208]; exact H) | exact H
                            have Ny208 := Aside0.mk hy208
                            clear hy208
                            by_cases c28 : x12_2.length + y208.length < 4398046511104
                            · rw [if_pos c28] at H
                              have LMc28 := Aside0.mk c28
                              clear c28
                              obtain ⟨y212, hy212⟩ : ∃ y_ : List (S29), y_ = (x12_2 ++ y208) := ⟨_, rfl⟩
                              replace H : (some y212) = some r := by first | (rw [hy212]; with_reducible exact H) | (have H2_ := (Option.bind_some _ _).symm.trans H; rw [hy212]; with_reducible exact H2_) | (have H2_ := (Option.bind_some _ _).symm.trans H; with_reducible exact H2_) | with_reducible exact H | (rw [hy212]; exact H) | exact H
                              have Ny212 := Aside0.mk hy212
                              clear hy212
                              obtain rfl := Option.some.inj H
                              have q29 : (x11_8 : Int) ≤ ((l0.length : Int) : Int) := of_decide_eq_true (by first | (with_reducible assumption) | assumption)
                              obtain ⟨i029, hi029, _, hsz29, _⟩ := info_parts info29
                              have hroom29 : l0.length ≤ c0 := HC0.out
                              have hC29 : Kd.C k29 _ (some ad189) l0.length l0 := HR0.out
                              have q029 : (0 : Int) ≤ (x11_8 : Int) := of_decide_eq_true (by first | (with_reducible assumption) | assumption)
                              have hcut29 := cut_from (P := Tryd.prog) 23 29 .i64 Tryd.underlying23 hi029 3 hsz29 (some ad189) l0.length c0 x11_8 q029 q29
                              have hr29 := Kd.C_drop (m := (x11_8 : Int).toNat) (c := c0) hC29 (by omega) hroom29
                              obtain ⟨A29, hA29⟩ : ∃ A1, A1 = (if c0 = (x11_8 : Int).toNat then (some ad189) else ((some ad189) : Option Addr).map (·.add ((x11_8 : Int).toNat * 3))) := ⟨_, rfl⟩
                              obtain ⟨c29, hc29⟩ : ∃ c1, c1 = c0 - (x11_8 : Int).toNat := ⟨_, rfl⟩
                              have hy29 : y208.length = l0.length - (x11_8 : Int).toNat := (by rw [Ny208.out, List.length_drop] <;> omega)
                              rw [show (l0).drop (x11_8 : Int).toNat = y208 from Ny208.out.symm] at hr29
                              replace hr29 : Kd.C k29 _ A29 y208.length y208 := (by rw [hA29]; exact hr29)
                              rw [← hy29, ← hA29, ← hc29] at hcut29
                              have HR211 := Aside0.mk hr29
                              have HC211 := Aside0.mk (show y208.length ≤ c29 from by rw [hy29, hc29]; exact Nat.sub_le_sub_right hroom29 _)
                              clear hr29 hC29 hroom29 hi029 hsz29 hc29
                              have KY29 := Aside0.mk hy29
                              have KA29 := Aside0.mk hA29
                              clear hy29 hA29
                              replace q29 := eq_true q29
                              go_wp2_with (first | ((with_reducible refine gate_builtin (b := .append) (xs := #[.tmp 62, .tmp 65]) rfl ?_); at_builtin; refine Kd.R_append_rows k29 (w0 := w) w.heap.size rfl (.tmp 62) (.tmp 65) 23 29 (.agg #[(.int .i64 0), (.int .i64 0), (.string ⟨#[]⟩)]) 32 rfl Tryd.underlying23 info29 rfl (by decide) (by omega) u12 x12_2 y208 _ _ _ (fun _ => True) (fun _ => False) rfl rfl ?aO ?aR (fun _ _ h => h) (fun _ h => h.elim) ?aF ?aB ?aS ?aL ?_; (case aR => exact CA (Kd.C_below HR211.out HB.out)); (case aB => exact belowA); (case aF => exact (fun _ _ => trivial)); (case aO => exact (RA HO_12)); (case aS => exact (below_size belowA)); (case aL => have := LMc28.out; omega); intro v213 w30 ho hb hg hat; rw [← Ny212.out] at ho; have n0_ := Aside0.mk (hb); have n1_ := Aside0.mk (ho); clear HB; clear HO_12; have HB := n0_; have HO214 := n1_; clear n0_ n1_; clear ho hb hg hat))
                              repeat (go_quiet (first | ((with_reducible refine gate_builtin (b := .append) (xs := #[.tmp 62, .tmp 65]) rfl ?_); at_builtin; refine Kd.R_append_rows k29 (w0 := w) w.heap.size rfl (.tmp 62) (.tmp 65) 23 29 (.agg #[(.int .i64 0), (.int .i64 0), (.string ⟨#[]⟩)]) 32 rfl Tryd.underlying23 info29 rfl (by decide) (by omega) u12 x12_2 y208 _ _ _ (fun _ => True) (fun _ => False) rfl rfl ?aO ?aR (fun _ _ h => h) (fun _ h => h.elim) ?aF ?aB ?aS ?aL ?_; (case aR => exact CA (Kd.C_below HR211.out HB.out)); (case aB => exact belowA); (case aF => exact (fun _ _ => trivial)); (case aO => exact (RA HO_12)); (case aS => exact (below_size belowA)); (case aL => have := LMc28.out; omega); intro v213 w30 ho hb hg hat; rw [← Ny212.out] at ho; have n0_ := Aside0.mk (hb); have n1_ := Aside0.mk (ho); clear HB; clear HO_12; have HB := n0_; have HO214 := n1_; clear n0_ n1_; clear ho hb hg hat)); try go_wp2_with (first | ((with_reducible refine gate_builtin (b := .append) (xs := #[.tmp 62, .tmp 65]) rfl ?_); at_builtin; refine Kd.R_append_rows k29 (w0 := w) w.heap.size rfl (.tmp 62) (.tmp 65) 23 29 (.agg #[(.int .i64 0), (.int .i64 0), (.string ⟨#[]⟩)]) 32 rfl Tryd.underlying23 info29 rfl (by decide) (by omega) u12 x12_2 y208 _ _ _ (fun _ => True) (fun _ => False) rfl rfl ?aO ?aR (fun _ _ h => h) (fun _ h => h.elim) ?aF ?aB ?aS ?aL ?_; (case aR => exact CA (Kd.C_below HR211.out HB.out)); (case aB => exact belowA); (case aF => exact (fun _ _ => trivial)); (case aO => exact (RA HO_12)); (case aS => exact (below_size belowA)); (case aL => have := LMc28.out; omega); intro v213 w30 ho hb hg hat; rw [← Ny212.out] at ho; have n0_ := Aside0.mk (hb); have n1_ := Aside0.mk (ho); clear HB; clear HO_12; have HB := n0_; have HO214 := n1_; clear n0_ n1_; clear ho hb hg hat)))
                              go_ret
                              exact ⟨_, endA, RA HO214, belowA⟩
                            · rw [if_neg c28] at H
                              exact absurd H (by simp)
                          · rw [if_neg c27] at H
                            exact absurd H (by simp)
                        · rw [if_neg c26] at H
                          exact absurd H (by simp)
                · rw [if_neg c15] at H
                  exact absurd H (by simp)
              · rw [if_neg c14] at H
                exact absurd H (by simp)
            · rw [if_neg c13] at H
              exact absurd H (by simp)
      · rw [if_neg c8] at H
        exact absurd H (by simp)
    · rw [if_neg c7] at H
      exact absurd H (by simp)
  · rw [if_neg c6] at H
    exact absurd H (by simp)

/-! ### spec_l3Do: function 58 -/
def spec_l3Do.f (k : Nat) (l0 : List (S29)) (a1_0 : Int) (a1_1 : Int) (a1_2 : Int) (a1_3 : Int) (a1_4 : ByteArray) : Option ((List (S29))) := (spec_l2At.f k l0 a1_1).bind fun t216 => (if a1_0 = 2 then ((some (([] : List (S29)) : List (S29))).bind fun y217 => (if y217.length + l0.length < 4398046511104 then ((some (y217 ++ l0 : List (S29))).bind fun y220 => (if t216 ≥ 0 then (if 0 ≤ t216 then (if t216 < (y220.length : Int) then (some (y220.set (t216 : Int).toNat (⟨(rd_T29 y220 t216).f0, (rd_T29 y220 t216).f1, a1_4⟩ : S29))) else (none)) else (none)) else (some y220))) else (none))) else ((spec_l3Where.f k l0 a1_0 a1_1 a1_2 a1_3 a1_4).bind fun bt224 => (if bt224.2.2 = true then (if a1_0 = 1 then ((spec_l3Put.f k l0 (([(⟨a1_1, 0, a1_4⟩ : S29)] : List (S29))) bt224.1 bt224.2.1).bind fun t236 => (some t236)) else ((spec_l2End.f k l0 t216).bind fun t239 => ((some (([] : List (S29)) : List (S29))).bind fun y240 => (if 0 ≤ t216 then (if t216 ≤ t239 then (if t239 ≤ (l0.length : Int) then ((some ((l0.take (t239 : Int).toNat).drop (t216 : Int).toNat : List (S29))).bind fun y243 => (if y240.length + y243.length < 4398046511104 then ((some (([] : List (S29)) : List (S29))).bind fun y250 => (if t216 ≤ (l0.length : Int) then ((some (l0.take (t216 : Int).toNat : List (S29))).bind fun y253 => (if y250.length + y253.length < 4398046511104 then ((some (y250 ++ y253 : List (S29))).bind fun y257 => (if 0 ≤ t239 then ((some (l0.drop (t239 : Int).toNat : List (S29))).bind fun y260 => (if y257.length + y260.length < 4398046511104 then ((spec_l3Put.f k (y257 ++ y260) (y240 ++ y243) bt224.1 bt224.2.1).bind fun t267 => (some t267)) else (none))) else (none))) else (none))) else (none))) else (none))) else (none)) else (none)) else (none))))) else ((some (([] : List (S29)) : List (S29))).bind fun y227 => (if y227.length + l0.length < 4398046511104 then (some (y227 ++ l0)) else (none))))))
theorem spec_l3Do.mono : ∀ a0 a1 a2 a3 a4 a5 k, LeO (spec_l3Do.f k a0 a1 a2 a3 a4 a5) (spec_l3Do.f (k + 1) a0 a1 a2 a3 a4 a5) := by
  intro a0 a1 a2 a3 a4 a5 k
  unfold spec_l3Do.f
  repeat' first
      | (with_reducible exact spec_l2At.mono _ _ _)
      | (with_reducible exact spec_l2End.mono _ _ _)
      | (with_reducible exact spec_l3Put.mono _ _ _ _ _)
      | (with_reducible exact spec_l3Where.mono _ _ _ _ _ _ _)
      | (with_reducible exact LeO.refl _)
      | (with_reducible exact LeO.none _)
      | (with_reducible refine LeO.ite ?_ ?_)
      | (with_reducible refine LeO.bind ?_ (fun _ => ?_))
      | exact spec_l2At.mono _ _ _
      | exact spec_l2End.mono _ _ _
      | exact spec_l3Put.mono _ _ _ _ _
      | exact spec_l3Where.mono _ _ _ _ _ _ _
      | exact LeO.none _
      | refine LeO.ite ?_ ?_
      | refine LeO.bind ?_ (fun _ => ?_)
def spec_l3Do.T14 : Bool × List (List Nat × List Nat) := (true, [([], []), ([], []), ([], []), ([1, 2], [1, 2]), ([0, 3], [0, 3]), ([], []), ([], []), ([5, 6], [5, 6]), ([4, 7, 4], [4, 7]), ([8, 8, 0, 1, 2, 3, 4, 5, 6, 7, 8], [8])])
def spec_l3Do.B14 : List Nat := [0, 0, 0, 6, 15, 0, 0, 96, 255, 511]
theorem spec_l3Do.tab14 : rtab .any (opsOf Tryd.f58 14) = spec_l3Do.T14 := by kernel_rfl
theorem spec_l3Do.bits14 : waitsOk spec_l3Do.T14.2 spec_l3Do.B14 = true := by kernel_rfl
set_option maxHeartbeats 8000000 in
set_option maxRecDepth 100000 in
theorem spec_l3Do.calls (k : Nat) (A0 : Option Addr) (c0 : Nat) (l0 : List (S29)) (a1_0 : Int) (a1_1 : Int) (a1_2 : Int) (a1_3 : Int) (a1_4 : ByteArray) (r : List (S29)) (w : World) (hr0 : Kd.C k29 w A0 l0.length l0) (hc0 : l0.length ≤ c0) (h : spec_l3Do.f k l0 a1_0 a1_1 a1_2 a1_3 a1_4 = some r) :
    Calls Tryd.prog 58 #[.slice A0 l0.length c0, .agg #[.int .i64 a1_0, .int .i64 a1_1, .int .i64 a1_2, .int .i64 a1_3, .string a1_4]] w fun e w' => ∃ v0_ : Value, e = .returned (v0_) ∧ Kd.R k29 29 w' w.heap.size (fun _ => True) v0_ r ∧ Below w.heap.size w w' := by
  have hu37 := Tryd.underlying37
  have hu29 := Tryd.underlying29
  have HR0 := Aside0.mk hr0
  have HC0 := Aside0.mk hc0
  clear hr0 hc0
  have HB := Aside0.mk (Below.refl w.heap.size w)
  have H : ((spec_l2At.f k l0 a1_1).bind fun t216 => (if a1_0 = 2 then ((some (([] : List (S29)) : List (S29))).bind fun y217 => (if y217.length + l0.length < 4398046511104 then ((some (y217 ++ l0 : List (S29))).bind fun y220 => (if t216 ≥ 0 then (if 0 ≤ t216 then (if t216 < (y220.length : Int) then (some (y220.set (t216 : Int).toNat (⟨(rd_T29 y220 t216).f0, (rd_T29 y220 t216).f1, a1_4⟩ : S29))) else (none)) else (none)) else (some y220))) else (none))) else ((spec_l3Where.f k l0 a1_0 a1_1 a1_2 a1_3 a1_4).bind fun bt224 => (if bt224.2.2 = true then (if a1_0 = 1 then ((spec_l3Put.f k l0 (([(⟨a1_1, 0, a1_4⟩ : S29)] : List (S29))) bt224.1 bt224.2.1).bind fun t236 => (some t236)) else ((spec_l2End.f k l0 t216).bind fun t239 => ((some (([] : List (S29)) : List (S29))).bind fun y240 => (if 0 ≤ t216 then (if t216 ≤ t239 then (if t239 ≤ (l0.length : Int) then ((some ((l0.take (t239 : Int).toNat).drop (t216 : Int).toNat : List (S29))).bind fun y243 => (if y240.length + y243.length < 4398046511104 then ((some (([] : List (S29)) : List (S29))).bind fun y250 => (if t216 ≤ (l0.length : Int) then ((some (l0.take (t216 : Int).toNat : List (S29))).bind fun y253 => (if y250.length + y253.length < 4398046511104 then ((some (y250 ++ y253 : List (S29))).bind fun y257 => (if 0 ≤ t239 then ((some (l0.drop (t239 : Int).toNat : List (S29))).bind fun y260 => (if y257.length + y260.length < 4398046511104 then ((spec_l3Put.f k (y257 ++ y260) (y240 ++ y243) bt224.1 bt224.2.1).bind fun t267 => (some t267)) else (none))) else (none))) else (none))) else (none))) else (none))) else (none)) else (none)) else (none))))) else ((some (([] : List (S29)) : List (S29))).bind fun y227 => (if y227.length + l0.length < 4398046511104 then (some (y227 ++ l0)) else (none))))))) = some r := h
  clear h
  replace H := Option.bind_eq_some_iff.mp H
  obtain ⟨t216, A30, H⟩ := H
  (try dsimp only at H)
  have A3 := Aside0.mk A30
  clear A30
  by_cases c4 : a1_0 = 2
  · rw [if_pos c4] at H
    have c4b0 : (a1_0 == 2) = true := beq_iff_eq.mpr c4
    have c4b1 : (a1_0 != 2) = false := bne_eq_false_iff_eq.mpr c4
    clear c4
    obtain ⟨y217, hy217⟩ : ∃ y_ : List (S29), y_ = (([] : List (S29))) := ⟨_, rfl⟩
    replace H : (if y217.length + l0.length < 4398046511104 then ((some (y217 ++ l0 : List (S29))).bind fun y220 => (if t216 ≥ 0 then (if 0 ≤ t216 then (if t216 < (y220.length : Int) then (some (y220.set (t216 : Int).toNat (⟨(rd_T29 y220 t216).f0, (rd_T29 y220 t216).f1, a1_4⟩ : S29))) else (none)) else (none)) else (some y220))) else (none)) = some r := by first | (rw [hy217]; with_reducible exact H) | (have H2_ := (Option.bind_some _ _).symm.trans H; rw [hy217]; with_reducible exact H2_) | (have H2_ := (Option.bind_some _ _).symm.trans H; with_reducible exact H2_) | with_reducible exact H | (rw [hy217]; exact H) | exact H
    have Ny217 := Aside0.mk hy217
    clear hy217
    by_cases c5 : y217.length + l0.length < 4398046511104
    · rw [if_pos c5] at H
      have LMc5 := Aside0.mk c5
      clear c5
      obtain ⟨y220, hy220⟩ : ∃ y_ : List (S29), y_ = (y217 ++ l0) := ⟨_, rfl⟩
      replace H : (if t216 ≥ 0 then (if 0 ≤ t216 then (if t216 < (y220.length : Int) then (some (y220.set (t216 : Int).toNat (⟨(rd_T29 y220 t216).f0, (rd_T29 y220 t216).f1, a1_4⟩ : S29))) else (none)) else (none)) else (some y220)) = some r := by first | (rw [hy220]; with_reducible exact H) | (have H2_ := (Option.bind_some _ _).symm.trans H; rw [hy220]; with_reducible exact H2_) | (have H2_ := (Option.bind_some _ _).symm.trans H; with_reducible exact H2_) | with_reducible exact H | (rw [hy220]; exact H) | exact H
      have Ny220 := Aside0.mk hy220
      clear hy220
      by_cases c6 : t216 ≥ 0
      · rw [if_pos c6] at H
        have c6b0 : decide (0 ≤ t216) = true := decide_eq_true c6
        clear c6
        by_cases c7 : 0 ≤ t216
        · rw [if_pos c7] at H
          have c7b0 : decide (0 ≤ t216) = true := decide_eq_true c7
          clear c7
          by_cases c8 : t216 < (y220.length : Int)
          · rw [if_pos c8] at H
            have c8b0 : decide (t216 < (y220.length : Int)) = true := decide_eq_true c8
            clear c8
            obtain ⟨y223, hy223⟩ : ∃ y_ : List (S29), y_ = (y220.set (t216 : Int).toNat (⟨(rd_T29 y220 t216).f0, (rd_T29 y220 t216).f1, a1_4⟩ : S29)) := ⟨_, rfl⟩
            replace H : (some y223) = some r := by first | (rw [hy223]; with_reducible exact H) | (have H2_ := (Option.bind_some _ _).symm.trans H; rw [hy223]; with_reducible exact H2_) | (have H2_ := (Option.bind_some _ _).symm.trans H; with_reducible exact H2_) | with_reducible exact H | (rw [hy223]; exact H) | exact H
            have Ny223 := Aside0.mk hy223
            clear hy223
            obtain rfl := Option.some.inj H
            go_enter Tryd.func58, Tryd.ntmps58
            go_wp2_with (first | ((with_reducible refine gate_dst (N := 3) rfl ?_); refine box_event ?hg (N := 3) ?hd (cs := #[.int .i64 a1_0, .int .i64 a1_1, .int .i64 a1_2, .int .i64 a1_3, .string a1_4]) (t := 37) ?hr ?_; (case hd => rfl); (case hg => rfl); (case hr => first | (go_simp; done) | (go_simp; rfl)); intro gb215 hg w10 hbox hb; have n0_ := Aside0.mk (below_step belowA hb); have n1_ := Aside0.mk (hbox); have n2_ := Aside0.mk ((by rw [hg]; exact (below_size belowA) : w.heap.size ≤ gb215)); have n3_ := Aside0.mk ((by rw [hg]; exact (below_size belowA) : w.heap.size ≤ gb215)); clear HB; have HB := n0_; have BK215 := n1_; obtain ⟨hcq_0, hcq_1, hcq_2, hcq_3, hcq_4, hfq_0, hfq_1, hfq_2, hfq_3, hfq_4⟩ := blk_facts5 BK215.out; have GW215 := n2_; have GE215 := n3_; clear n0_ n1_ n2_ n3_; clear hb hbox hg; obtain ⟨hcz11_0, hcz11_1, hcz11_2, hcz11_3, hcz11_4, hfz11_0, hfz11_1, hfz11_2, hfz11_3, hfz11_4⟩ := blk_facts5 BK215.out) | ((with_reducible refine gate_callee (f := 80) rfl ?_); refine goesL_ (some 16) rfl rfl Tryd.func80 (by kernel_rfl) rfl #[.slice A0 l0.length c0, .int .i64 a1_1] rfl argsA ?_; (with_reducible refine (spec_l2At.calls k _ _ l0 a1_1 t216 _ ?side1 ?side2 A3.out).mono ?_); (case side1 => exact CA (Kd.C_below HR0.out HB.out)); (case side2 => exact HC0.out); rintro e w' ⟨rfl, ⟨nd, rfl⟩⟩; refine ⟨_, rfl, ?_⟩; (try (rw [drewN_self w10]; generalize hq_ : World.drewN w10 _ = w10; have n0_ : Aside0 (w10.heap[gb215]? = some (.cells #[.int .i64 a1_0, .int .i64 a1_1, .int .i64 a1_2, .int .i64 a1_3, .string a1_4] 37 (0, 0))) := ⟨by rw [← hq_]; exact blkA⟩; have n1_ : Aside0 (Below w.heap.size w w10) := ⟨by rw [← hq_]; exact belowA⟩; clear BK215 HB hq_; have BK215 := n0_; obtain ⟨hcq_0, hcq_1, hcq_2, hcq_3, hcq_4, hfq_0, hfq_1, hfq_2, hfq_3, hfq_4⟩ := blk_facts5 BK215.out; have HB := n1_; clear n0_ n1_))) | ((with_reducible refine gate_dst (N := 20) rfl ?_); refine Kd.R_lit k29 _ 29 ?hg (N := 20) ?hd (xs := ([] : List (S29))) (inner := []) (ok := fun _ => True) (okp := fun _ => True) ?hr ?hp (fun _ hk => hk) trivial (Below.refl _ _) (Nat.le_refl _) (by simp) ?_; (case hd => rfl); (case hg => rfl); (case hr => first | (go_simp; done) | (go_simp; rfl)); (case hp => exact (Reps.none _ _)); intro v218 w12 ho13 hb hg_ hnew_; clear hg_ hnew_; (first | rw [← Ny217.out] at ho13 | (simp only [Int.reduceToNat] at ho13; rw [← Ny217.out] at ho13)); have n0_ := Aside0.mk (Kd.R_lower ho13 (below_size belowA)); have n1_ := Aside0.mk (blk_below (g := gb215) (o := .cells #[.int .i64 a1_0, .int .i64 a1_1, .int .i64 a1_2, .int .i64 a1_3, .string a1_4] 37 (0, 0)) blkA hb); have n2_ := Aside0.mk (below_step belowA hb); clear BK215; clear HB; have HO219 := n0_; have BK215 := n1_; obtain ⟨hcq_0, hcq_1, hcq_2, hcq_3, hcq_4, hfq_0, hfq_1, hfq_2, hfq_3, hfq_4⟩ := blk_facts5 BK215.out; have HB := n2_; clear n0_ n1_ n2_; clear hb ho13) | ((with_reducible refine gate_builtin (b := .append) (xs := #[.tmp 20, .tmp 21]) rfl ?_); at_builtin; refine Kd.R_append_rows k29 (w0 := w) w.heap.size rfl (.tmp 20) (.tmp 21) 23 29 (.agg #[(.int .i64 0), (.int .i64 0), (.string ⟨#[]⟩)]) 32 rfl Tryd.underlying23 info29 rfl (by decide) (by omega) v218 y217 l0 _ _ _ (fun _ => True) (fun _ => False) rfl rfl ?aO ?aR (fun _ _ h => h) (fun _ h => h.elim) ?aF ?aB ?aS ?aL ?_; (case aR => exact CA (Kd.C_below HR0.out HB.out)); (case aB => exact belowA); (case aF => exact (fun _ _ => trivial)); (case aO => exact (RA HO219)); (case aS => exact (below_size belowA)); (case aL => have := LMc5.out; omega); intro v221 w14 ho hb hg hat; rw [← Ny220.out] at ho; have n0_ := Aside0.mk (blk_grown (g := gb215) (o := .cells #[.int .i64 a1_0, .int .i64 a1_1, .int .i64 a1_2, .int .i64 a1_3, .string a1_4] 37 (0, 0)) blkA hg (Kd.R_ne HO219.out BK215.out (by decide))); have n1_ := Aside0.mk (hb); have n2_ := Aside0.mk (ho); clear BK215; clear HB; clear HO219; have BK215 := n0_; obtain ⟨hcq_0, hcq_1, hcq_2, hcq_3, hcq_4, hfq_0, hfq_1, hfq_2, hfq_3, hfq_4⟩ := blk_facts5 BK215.out; have HB := n1_; have HO222 := n2_; clear n0_ n1_ n2_; clear ho hb hg hat; obtain ⟨hcz15_0, hcz15_1, hcz15_2, hcz15_3, hcz15_4, hfz15_0, hfz15_1, hfz15_2, hfz15_3, hfz15_4⟩ := blk_facts5 BK215.out; have p9 : 0 ≤ (t216 : Int) := of_decide_eq_true (by first | (with_reducible assumption) | assumption); have q9 : (t216 : Int) < ((y220.length : Int) : Int) := of_decide_eq_true (by first | (with_reducible assumption) | assumption); obtain ⟨go9, co9, eo9, gb9, gl9, cl9, HG9⟩ := Kd.R_form HO222.out (by omega); (first | cases eo9 | (injection eo9 with ea_ en_ ec_; (first | subst ea_ | (injection ea_ with ea_; subst ea_)); subst ec_; clear en_)); have GB9 := Aside0.mk gb9; have GG9 := Aside0.mk HG9; clear gb9 gl9 HG9; obtain ⟨ce9, hcl9, hM9, hcc9, hfr9⟩ := Kd.R_elem HO222.out z29 (t216 : Int) p9 q9; obtain rfl := k29_openM hM9; have hx9_0 : w14.cell? ⟨go9, (t216 : Int).toNat * 3, none⟩ = some (.int .i64 ((rd_T29 y220 t216).f0)) := hcc9 0 _ rfl; have hx9_1 : w14.cell? ⟨go9, (t216 : Int).toNat * 3 + 1, none⟩ = some (.int .i64 ((rd_T29 y220 t216).f1)) := hcc9 1 _ rfl; have hx9_2 : w14.cell? ⟨go9, (t216 : Int).toNat * 3 + 2, none⟩ = some (.string ((rd_T29 y220 t216).f2)) := hcc9 2 _ rfl; have hf9_0 : w14.frozen? ⟨go9, (t216 : Int).toNat * 3, none⟩ = false := hfr9 0; have hf9_1 : w14.frozen? ⟨go9, (t216 : Int).toNat * 3 + 1, none⟩ = false := hfr9 1; have hf9_2 : w14.frozen? ⟨go9, (t216 : Int).toNat * 3 + 2, none⟩ = false := hfr9 2; clear hcl9 hcc9 hfr9 hM9; replace p9 := eq_true p9; replace q9 := eq_true q9; have HX16 := Aside0.mk (show Kd.R k29 29 w14 w.heap.size (fun _ => True) (.slice (some ⟨go9, 0, none⟩) y220.length co9) y220 from (RA HO222)); obtain ⟨ce16, hcl16, hM16, hcc16, hfr16⟩ := Kd.R_elem HX16.out z29 (t216 : Int) (of_decide_eq_true (by first | (with_reducible assumption) | assumption)) (by have h_ : (t216 : Int) < ((y220.length : Int) : Int) := of_decide_eq_true (by first | (with_reducible assumption) | assumption); first | exact h_ | (have e_ := (Kd.R_reads' HO222.out).1; omega) | simpa using h_); obtain rfl := k29_openM hM16; have HP16 := Kd.R_seg HX16.out (t216 : Int) (of_decide_eq_true (by first | (with_reducible assumption) | assumption)) (by have h_ : (t216 : Int) < ((y220.length : Int) : Int) := of_decide_eq_true (by first | (with_reducible assumption) | assumption); first | exact h_ | (have e_ := (Kd.R_reads' HO222.out).1; omega) | simpa using h_) (seg := [.string a1_4]) (j := 2) hcl16 hcc16 (show 3 ≤ 3 from by decide) (x' := (⟨(rd_T29 y220 t216).f0, (rd_T29 y220 t216).f1, a1_4⟩ : S29)) (k29_mkM _ _ _ (⟨(rd_T29 y220 t216).f0, (rd_T29 y220 t216).f1, a1_4⟩ : S29) ) (fun _ hk => hk); have hx16_2 := hcc16 2 _ rfl; (try simp only [show (k29).sz = 3 from rfl, Nat.mul_one, Nat.add_zero] at hx16_2); have hf16_2 := hfr16 2; (try simp only [show (k29).sz = 3 from rfl, Nat.mul_one, Nat.add_zero] at hf16_2); clear hcl16 hcc16 hfr16 hM16) | ((with_reducible refine gate_store (t := 9) (p := 30) rfl ?_); refine store_event (t := 9) (p := 30) (v := ?vo_w17) (w1 := (w14.setCell ⟨go9, (t216 : Int).toNat * 3 + 2, none⟩ (.string a1_4))) ?hg ?ho ?hn ?hr ?_; (case ho => rfl); (case hg => rfl); (case hn => rfl); (case hr => first | (go_simp; done) | (go_simp; rfl)); intro w17 hw; have hg : w14.grownBy w17 (some go9) := (by rw [hw]; exact HP16.2); have hp_ : Kd.R k29 29 w17 w.heap.size (fun _ => True) (.slice (some ⟨go9, 0, none⟩) y220.length co9) y223 := (by rw [hw, Ny223.out]; exact HP16.1); clear HP16; have n0_ := Aside0.mk (blk_grown (g := gb215) (o := .cells #[.int .i64 a1_0, .int .i64 a1_1, .int .i64 a1_2, .int .i64 a1_3, .string a1_4] 37 (0, 0)) blkA hg (Kd.R_ne HO222.out BK215.out (by decide))); have n1_ := Aside0.mk (hp_); have n2_ := Aside0.mk ((by rw [hw]; exact below_set (HB.out) GB9.out : Below w.heap.size w w17)); clear BK215; clear HO222; clear HB; have BK215 := n0_; obtain ⟨hcq_0, hcq_1, hcq_2, hcq_3, hcq_4, hfq_0, hfq_1, hfq_2, hfq_3, hfq_4⟩ := blk_facts5 BK215.out; have HO222 := n1_; have HB := n2_; clear n0_ n1_ n2_; clear hg hw hp_))
            go_ret
            exact ⟨_, endA, RA HO222, belowA⟩
          · rw [if_neg c8] at H
            exact absurd H (by simp)
        · rw [if_neg c7] at H
          exact absurd H (by simp)
      · rw [if_neg c6] at H
        have c6b0 : decide (0 ≤ t216) = false := decide_eq_false c6
        clear c6
        obtain rfl := Option.some.inj H
        go_enter Tryd.func58, Tryd.ntmps58
        go_wp2_with (first | ((with_reducible refine gate_dst (N := 3) rfl ?_); refine box_event ?hg (N := 3) ?hd (cs := #[.int .i64 a1_0, .int .i64 a1_1, .int .i64 a1_2, .int .i64 a1_3, .string a1_4]) (t := 37) ?hr ?_; (case hd => rfl); (case hg => rfl); (case hr => first | (go_simp; done) | (go_simp; rfl)); intro gb215 hg w18 hbox hb; have n0_ := Aside0.mk (below_step belowA hb); have n1_ := Aside0.mk (hbox); have n2_ := Aside0.mk ((by rw [hg]; exact (below_size belowA) : w.heap.size ≤ gb215)); have n3_ := Aside0.mk ((by rw [hg]; exact (below_size belowA) : w.heap.size ≤ gb215)); clear HB; have HB := n0_; have BK215 := n1_; obtain ⟨hcq_0, hcq_1, hcq_2, hcq_3, hcq_4, hfq_0, hfq_1, hfq_2, hfq_3, hfq_4⟩ := blk_facts5 BK215.out; have GW215 := n2_; have GE215 := n3_; clear n0_ n1_ n2_ n3_; clear hb hbox hg; obtain ⟨hcz19_0, hcz19_1, hcz19_2, hcz19_3, hcz19_4, hfz19_0, hfz19_1, hfz19_2, hfz19_3, hfz19_4⟩ := blk_facts5 BK215.out) | ((with_reducible refine gate_callee (f := 80) rfl ?_); refine goesL_ (some 16) rfl rfl Tryd.func80 (by kernel_rfl) rfl #[.slice A0 l0.length c0, .int .i64 a1_1] rfl argsA ?_; (with_reducible refine (spec_l2At.calls k _ _ l0 a1_1 t216 _ ?side1 ?side2 A3.out).mono ?_); (case side1 => exact CA (Kd.C_below HR0.out HB.out)); (case side2 => exact HC0.out); rintro e w' ⟨rfl, ⟨nd, rfl⟩⟩; refine ⟨_, rfl, ?_⟩) | ((with_reducible refine gate_dst (N := 20) rfl ?_); refine Kd.R_lit k29 _ 29 ?hg (N := 20) ?hd (xs := ([] : List (S29))) (inner := []) (ok := fun _ => True) (okp := fun _ => True) ?hr ?hp (fun _ hk => hk) trivial (Below.refl _ _) (Nat.le_refl _) (by simp) ?_; (case hd => rfl); (case hg => rfl); (case hr => first | (go_simp; done) | (go_simp; rfl)); (case hp => exact (Reps.none _ _)); intro v218 w20 ho21 hb hg_ hnew_; clear hg_ hnew_; (first | rw [← Ny217.out] at ho21 | (simp only [Int.reduceToNat] at ho21; rw [← Ny217.out] at ho21)); have n0_ := Aside0.mk (Kd.R_lower ho21 (below_size belowA)); have n1_ := Aside0.mk (blk_below (g := gb215) (o := .cells #[.int .i64 a1_0, .int .i64 a1_1, .int .i64 a1_2, .int .i64 a1_3, .string a1_4] 37 (0, 0)) blkA hb); have n2_ := Aside0.mk (below_step belowA hb); clear BK215; clear HB; have HO219 := n0_; have BK215 := n1_; obtain ⟨hcq_0, hcq_1, hcq_2, hcq_3, hcq_4, hfq_0, hfq_1, hfq_2, hfq_3, hfq_4⟩ := blk_facts5 BK215.out; have HB := n2_; clear n0_ n1_ n2_; clear hb ho21) | ((with_reducible refine gate_builtin (b := .append) (xs := #[.tmp 20, .tmp 21]) rfl ?_); at_builtin; refine Kd.R_append_rows k29 (w0 := w) w.heap.size rfl (.tmp 20) (.tmp 21) 23 29 (.agg #[(.int .i64 0), (.int .i64 0), (.string ⟨#[]⟩)]) 32 rfl Tryd.underlying23 info29 rfl (by decide) (by omega) v218 y217 l0 _ _ _ (fun _ => True) (fun _ => False) rfl rfl ?aO ?aR (fun _ _ h => h) (fun _ h => h.elim) ?aF ?aB ?aS ?aL ?_; (case aR => exact CA (Kd.C_below HR0.out HB.out)); (case aB => exact belowA); (case aF => exact (fun _ _ => trivial)); (case aO => exact (RA HO219)); (case aS => exact (below_size belowA)); (case aL => have := LMc5.out; omega); intro v221 w22 ho hb hg hat; rw [← Ny220.out] at ho; have n0_ := Aside0.mk (blk_grown (g := gb215) (o := .cells #[.int .i64 a1_0, .int .i64 a1_1, .int .i64 a1_2, .int .i64 a1_3, .string a1_4] 37 (0, 0)) blkA hg (Kd.R_ne HO219.out BK215.out (by decide))); have n1_ := Aside0.mk (hb); have n2_ := Aside0.mk (ho); clear BK215; clear HB; clear HO219; have BK215 := n0_; obtain ⟨hcq_0, hcq_1, hcq_2, hcq_3, hcq_4, hfq_0, hfq_1, hfq_2, hfq_3, hfq_4⟩ := blk_facts5 BK215.out; have HB := n1_; have HO222 := n2_; clear n0_ n1_ n2_; clear ho hb hg hat))
        go_ret
        exact ⟨_, endA, RA HO222, belowA⟩
    · rw [if_neg c5] at H
      exact absurd H (by simp)
  · rw [if_neg c4] at H
    have c4b0 : (a1_0 == 2) = false := beq_eq_false_iff_ne.mpr c4
    have c4b1 : (a1_0 != 2) = true := bne_iff_ne.mpr c4
    replace H := Option.bind_eq_some_iff.mp H
    obtain ⟨⟨t224, t225, t226⟩, A230, H⟩ := H
    (try dsimp only at H)
    have A23 := Aside0.mk A230
    clear A230
    by_cases c24 : t226 = true
    · subst c24
      have H1 : (if a1_0 = 1 then ((spec_l3Put.f k l0 (([(⟨a1_1, 0, a1_4⟩ : S29)] : List (S29))) t224 t225).bind fun t236 => (some t236)) else ((spec_l2End.f k l0 t216).bind fun t239 => ((some (([] : List (S29)) : List (S29))).bind fun y240 => (if 0 ≤ t216 then (if t216 ≤ t239 then (if t239 ≤ (l0.length : Int) then ((some ((l0.take (t239 : Int).toNat).drop (t216 : Int).toNat : List (S29))).bind fun y243 => (if y240.length + y243.length < 4398046511104 then ((some (([] : List (S29)) : List (S29))).bind fun y250 => (if t216 ≤ (l0.length : Int) then ((some (l0.take (t216 : Int).toNat : List (S29))).bind fun y253 => (if y250.length + y253.length < 4398046511104 then ((some (y250 ++ y253 : List (S29))).bind fun y257 => (if 0 ≤ t239 then ((some (l0.drop (t239 : Int).toNat : List (S29))).bind fun y260 => (if y257.length + y260.length < 4398046511104 then ((spec_l3Put.f k (y257 ++ y260) (y240 ++ y243) t224 t225).bind fun t267 => (some t267)) else (none))) else (none))) else (none))) else (none))) else (none))) else (none)) else (none)) else (none))))) = some r := by rw [if_pos rfl] at H; exact H
      clear H
      have H := H1
      clear H1
      by_cases c25 : a1_0 = 1
      · rw [if_pos c25] at H
        have c25b0 : (a1_0 == 1) = true := beq_iff_eq.mpr c25
        have c25b1 : (a1_0 != 1) = false := bne_eq_false_iff_eq.mpr c25
        clear c25
        obtain ⟨y233, hy233⟩ : ∃ y_ : List (S29), y_ = (([(⟨a1_1, 0, a1_4⟩ : S29)] : List (S29))) := ⟨_, rfl⟩
        replace H : ((spec_l3Put.f k l0 y233 t224 t225).bind fun t236 => (some t236)) = some r := by first | (rw [hy233]; with_reducible exact H) | (have H2_ := (Option.bind_some _ _).symm.trans H; rw [hy233]; with_reducible exact H2_) | (have H2_ := (Option.bind_some _ _).symm.trans H; with_reducible exact H2_) | with_reducible exact H | (rw [hy233]; exact H) | exact H
        have Ny233 := Aside0.mk hy233
        clear hy233
        replace H := Option.bind_eq_some_iff.mp H
        obtain ⟨t236, A260, H⟩ := H
        (try dsimp only at H)
        have A26 := Aside0.mk A260
        clear A260
        obtain rfl := Option.some.inj H
        go_enter Tryd.func58, Tryd.ntmps58
        go_wp2_with (first | ((with_reducible refine gate_dst (N := 3) rfl ?_); refine box_event ?hg (N := 3) ?hd (cs := #[.int .i64 a1_0, .int .i64 a1_1, .int .i64 a1_2, .int .i64 a1_3, .string a1_4]) (t := 37) ?hr ?_; (case hd => rfl); (case hg => rfl); (case hr => first | (go_simp; done) | (go_simp; rfl)); intro gb215 hg w27 hbox hb; have n0_ := Aside0.mk (below_step belowA hb); have n1_ := Aside0.mk (hbox); have n2_ := Aside0.mk ((by rw [hg]; exact (below_size belowA) : w.heap.size ≤ gb215)); have n3_ := Aside0.mk ((by rw [hg]; exact (below_size belowA) : w.heap.size ≤ gb215)); clear HB; have HB := n0_; have BK215 := n1_; obtain ⟨hcq_0, hcq_1, hcq_2, hcq_3, hcq_4, hfq_0, hfq_1, hfq_2, hfq_3, hfq_4⟩ := blk_facts5 BK215.out; have GW215 := n2_; have GE215 := n3_; clear n0_ n1_ n2_ n3_; clear hb hbox hg; obtain ⟨hcz28_0, hcz28_1, hcz28_2, hcz28_3, hcz28_4, hfz28_0, hfz28_1, hfz28_2, hfz28_3, hfz28_4⟩ := blk_facts5 BK215.out) | ((with_reducible refine gate_callee (f := 80) rfl ?_); refine goesL_ (some 16) rfl rfl Tryd.func80 (by kernel_rfl) rfl #[.slice A0 l0.length c0, .int .i64 a1_1] rfl argsA ?_; (with_reducible refine (spec_l2At.calls k _ _ l0 a1_1 t216 _ ?side1 ?side2 A3.out).mono ?_); (case side1 => exact CA (Kd.C_below HR0.out HB.out)); (case side2 => exact HC0.out); rintro e w' ⟨rfl, ⟨nd, rfl⟩⟩; refine ⟨_, rfl, ?_⟩) | ((with_reducible refine gate_callee (f := 82) rfl ?_); refine goesL_ (some 35) rfl rfl Tryd.func82 (by kernel_rfl) rfl #[.slice A0 l0.length c0, .agg #[.int .i64 a1_0, .int .i64 a1_1, .int .i64 a1_2, .int .i64 a1_3, .string a1_4]] rfl argsA ?_; (with_reducible refine (spec_l3Where.calls k _ _ l0 a1_0 a1_1 a1_2 a1_3 a1_4 t224 t225 true _ ?side1 ?side2 A23.out).mono ?_); (case side1 => exact CA (Kd.C_below HR0.out belowA)); (case side2 => exact HC0.out); rintro e w29 ⟨rfl, hb⟩; refine ⟨_, rfl, ?_⟩; have n0_ := Aside0.mk (blk_below (g := gb215) (o := .cells #[.int .i64 a1_0, .int .i64 a1_1, .int .i64 a1_2, .int .i64 a1_3, .string a1_4] 37 (0, 0)) blkA hb); have n1_ := Aside0.mk (below_step belowA hb); clear BK215; clear HB; have BK215 := n0_; obtain ⟨hcq_0, hcq_1, hcq_2, hcq_3, hcq_4, hfq_0, hfq_1, hfq_2, hfq_3, hfq_4⟩ := blk_facts5 BK215.out; have HB := n1_; clear n0_ n1_; (try clear hb); (try clear hb2); (try clear hk); (try clear hi); obtain ⟨hcz30_0, hcz30_1, hcz30_2, hcz30_3, hcz30_4, hfz30_0, hfz30_1, hfz30_2, hfz30_3, hfz30_4⟩ := blk_facts5 BK215.out) | ((with_reducible refine gate_dst (N := 53) rfl ?_); refine Kd.R_lit k29 _ 29 ?hg (N := 53) ?hd (xs := ([(⟨a1_1, 0, a1_4⟩ : S29)] : List (S29))) (inner := [.int .i64 a1_1, .int .i64 0, .string a1_4]) (ok := fun _ => True) (okp := fun _ => True) ?hr ?hp (fun _ hk => hk) trivial (Below.refl _ _) (Nat.le_refl _) (by simp) ?_; (case hd => rfl); (case hg => rfl); (case hr => first | (go_simp; done) | (go_simp; rfl)); (case hp => exact (Reps.c3 (show Kd.M k29 _ _ _ (⟨a1_1, 0, a1_4⟩ : S29) [.int .i64 a1_1, .int .i64 0, .string a1_4] from (k29_mkM _ _ _ (⟨a1_1, 0, a1_4⟩ : S29) )) (Reps.none _ _))); intro v234 w31 ho32 hb hg_ hnew_; clear hg_ hnew_; (first | rw [← Ny233.out] at ho32 | (simp only [Int.reduceToNat] at ho32; rw [← Ny233.out] at ho32)); have n0_ := Aside0.mk (Kd.R_lower ho32 (below_size belowA)); have n1_ := Aside0.mk (blk_below (g := gb215) (o := .cells #[.int .i64 a1_0, .int .i64 a1_1, .int .i64 a1_2, .int .i64 a1_3, .string a1_4] 37 (0, 0)) blkA hb); have n2_ := Aside0.mk (below_step belowA hb); clear BK215; clear HB; have HO235 := n0_; have BK215 := n1_; obtain ⟨hcq_0, hcq_1, hcq_2, hcq_3, hcq_4, hfq_0, hfq_1, hfq_2, hfq_3, hfq_4⟩ := blk_facts5 BK215.out; have HB := n2_; clear n0_ n1_ n2_; clear hb ho32; obtain ⟨Ao33, co33, eo33⟩ := Kd.R_slice HO235.out; subst eo33) | ((with_reducible refine gate_callee (f := 83) rfl ?_); refine goesL_ (some 56) rfl rfl Tryd.func83 (by kernel_rfl) rfl #[.slice A0 l0.length c0, .slice Ao33 y233.length co33, .int .i64 t224, .int .i64 t225] rfl argsA ?_; (with_reducible refine (spec_l3Put.calls k _ _ l0 _ _ y233 t224 t225 t236 _ ?side1 ?side2 ?side3 ?side4 A26.out).mono ?_); (case side1 => exact CA (Kd.C_below HR0.out HB.out)); (case side2 => exact HC0.out); (case side3 => repeat (first | exact (Kd.R_reads' HO235.out).2.2 | (with_reducible refine Kd.C_alloc ?_ _) | (with_reducible refine Kd.C_drewN ?_ _) | (with_reducible refine Kd.C_drew ?_))); (case side4 => exact (Kd.R_reads' HO235.out).2.1); rintro e w34 ⟨v237, rfl, ho0, hb⟩; refine ⟨_, rfl, ?_⟩; have n0_ := Aside0.mk (Kd.R_elder' (RA HO235) (Kd.R_base ho0) hb); have n1_ := Aside0.mk (Kd.R_lower (Kd.R_new' ho0 (Kd.R_lt (RA HO235))) (below_size belowA)); have n2_ := Aside0.mk (blk_below (g := gb215) (o := .cells #[.int .i64 a1_0, .int .i64 a1_1, .int .i64 a1_2, .int .i64 a1_3, .string a1_4] 37 (0, 0)) blkA hb); have n3_ := Aside0.mk (below_step belowA hb); clear HO235; clear BK215; clear HB; have HO235 := n0_; have HO238 := n1_; have BK215 := n2_; obtain ⟨hcq_0, hcq_1, hcq_2, hcq_3, hcq_4, hfq_0, hfq_1, hfq_2, hfq_3, hfq_4⟩ := blk_facts5 BK215.out; have HB := n3_; clear n0_ n1_ n2_ n3_; (try clear hb); (try clear hb2); (try clear hk); (try clear hi); (try clear ho0)))
        go_ret
        exact ⟨_, endA, by (with_reducible repeat (first | apply Kd.R_alloc | apply Kd.R_drewN | apply Kd.R_drew)); exact Kd.R_mono HO238.out (fun _ hk => trivial), belowA⟩
      · rw [if_neg c25] at H
        have c25b0 : (a1_0 == 1) = false := beq_eq_false_iff_ne.mpr c25
        have c25b1 : (a1_0 != 1) = true := bne_iff_ne.mpr c25
        replace H := Option.bind_eq_some_iff.mp H
        obtain ⟨t239, A350, H⟩ := H
        (try dsimp only at H)
        have A35 := Aside0.mk A350
        clear A350
        obtain ⟨y240, hy240⟩ : ∃ y_ : List (S29), y_ = (([] : List (S29))) := ⟨_, rfl⟩
        replace H : (if 0 ≤ t216 then (if t216 ≤ t239 then (if t239 ≤ (l0.length : Int) then ((some ((l0.take (t239 : Int).toNat).drop (t216 : Int).toNat : List (S29))).bind fun y243 => (if y240.length + y243.length < 4398046511104 then ((some (([] : List (S29)) : List (S29))).bind fun y250 => (if t216 ≤ (l0.length : Int) then ((some (l0.take (t216 : Int).toNat : List (S29))).bind fun y253 => (if y250.length + y253.length < 4398046511104 then ((some (y250 ++ y253 : List (S29))).bind fun y257 => (if 0 ≤ t239 then ((some (l0.drop (t239 : Int).toNat : List (S29))).bind fun y260 => (if y257.length + y260.length < 4398046511104 then ((spec_l3Put.f k (y257 ++ y260) (y240 ++ y243) t224 t225).bind fun t267 => (some t267)) else (none))) else (none))) else (none))) else (none))) else (none))) else (none)) else (none)) else (none)) = some r := by first | (rw [hy240]; with_reducible exact H) | (have H2_ := (Option.bind_some _ _).symm.trans H; rw [hy240]; with_reducible exact H2_) | (have H2_ := (Option.bind_some _ _).symm.trans H; with_reducible exact H2_) | with_reducible exact H | (rw [hy240]; exact H) | exact H
        have Ny240 := Aside0.mk hy240
        clear hy240
        by_cases c36 : 0 ≤ t216
        · rw [if_pos c36] at H
          have c36b0 := eq_true c36
          have c36b1 : decide (0 ≤ t216) = true := decide_eq_true c36
          clear c36
          by_cases c37 : t216 ≤ t239
          · rw [if_pos c37] at H
            have c37b0 := eq_true c37
            have c37b1 : decide (t216 ≤ t239) = true := decide_eq_true c37
            clear c37
            by_cases c38 : t239 ≤ (l0.length : Int)
            · rw [if_pos c38] at H
              have c38b0 := eq_true c38
              have c38b1 : decide (t239 ≤ (l0.length : Int)) = true := decide_eq_true c38
              clear c38
              obtain ⟨y243, hy243⟩ : ∃ y_ : List (S29), y_ = ((l0.take (t239 : Int).toNat).drop (t216 : Int).toNat) := ⟨_, rfl⟩
              replace H : (if y240.length + y243.length < 4398046511104 then ((some (([] : List (S29)) : List (S29))).bind fun y250 => (if t216 ≤ (l0.length : Int) then ((some (l0.take (t216 : Int).toNat : List (S29))).bind fun y253 => (if y250.length + y253.length < 4398046511104 then ((some (y250 ++ y253 : List (S29))).bind fun y257 => (if 0 ≤ t239 then ((some (l0.drop (t239 : Int).toNat : List (S29))).bind fun y260 => (if y257.length + y260.length < 4398046511104 then ((spec_l3Put.f k (y257 ++ y260) (y240 ++ y243) t224 t225).bind fun t267 => (some t267)) else (none))) else (none))) else (none))) else (none))) else (none)) = some r := by first | (rw [hy243]; with_reducible exact H) | (have H2_ := (Option.bind_some _ _).symm.trans H; rw [hy243]; with_reducible exact H2_) | (have H2_ := (Option.bind_some _ _).symm.trans H; with_reducible exact H2_) | with_reducible exact H | (rw [hy243]; exact H) | exact H
              have Ny243 := Aside0.mk hy243
              clear hy243
              by_cases c39 : y240.length + y243.length < 4398046511104
              · rw [if_pos c39] at H
                have LMc39 := Aside0.mk c39
                clear c39
                obtain ⟨y247, hy247⟩ : ∃ y_ : List (S29), y_ = (y240 ++ y243) := ⟨_, rfl⟩
                replace H : ((some (([] : List (S29)) : List (S29))).bind fun y250 => (if t216 ≤ (l0.length : Int) then ((some (l0.take (t216 : Int).toNat : List (S29))).bind fun y253 => (if y250.length + y253.length < 4398046511104 then ((some (y250 ++ y253 : List (S29))).bind fun y257 => (if 0 ≤ t239 then ((some (l0.drop (t239 : Int).toNat : List (S29))).bind fun y260 => (if y257.length + y260.length < 4398046511104 then ((spec_l3Put.f k (y257 ++ y260) y247 t224 t225).bind fun t267 => (some t267)) else (none))) else (none))) else (none))) else (none))) = some r := by first | (rw [hy247]; with_reducible exact H) | (have H2_ := (Option.bind_some _ _).symm.trans H; rw [hy247]; with_reducible exact H2_) | (have H2_ := (Option.bind_some _ _).symm.trans H; with_reducible exact H2_) | with_reducible exact H | (rw [hy247]; exact H) | exact H
                have Ny247 := Aside0.mk hy247
                clear hy247
                obtain ⟨y250, hy250⟩ : ∃ y_ : List (S29), y_ = (([] : List (S29))) := ⟨_, rfl⟩
                replace H : (if t216 ≤ (l0.length : Int) then ((some (l0.take (t216 : Int).toNat : List (S29))).bind fun y253 => (if y250.length + y253.length < 4398046511104 then ((some (y250 ++ y253 : List (S29))).bind fun y257 => (if 0 ≤ t239 then ((some (l0.drop (t239 : Int).toNat : List (S29))).bind fun y260 => (if y257.length + y260.length < 4398046511104 then ((spec_l3Put.f k (y257 ++ y260) y247 t224 t225).bind fun t267 => (some t267)) else (none))) else (none))) else (none))) else (none)) = some r := by first | (rw [hy250]; with_reducible exact H) | (have H2_ := (Option.bind_some _ _).symm.trans H; rw [hy250]; with_reducible exact H2_) | (have H2_ := (Option.bind_some _ _).symm.trans H; with_reducible exact H2_) | with_reducible exact H | (rw [hy250]; exact H) | exact H
                have Ny250 := Aside0.mk hy250
                clear hy250
                have c40b0 := eq_true (of_decide_eq_true (by first | (with_reducible assumption) | assumption) : 0 ≤ t216)
                by_cases c41 : t216 ≤ (l0.length : Int)
                · rw [if_pos c41] at H
                  have c41b0 := eq_true c41
                  have c41b1 : decide (t216 ≤ (l0.length : Int)) = true := decide_eq_true c41
                  clear c41
                  obtain ⟨y253, hy253⟩ : ∃ y_ : List (S29), y_ = (l0.take (t216 : Int).toNat) := ⟨_, rfl⟩
                  replace H : (if y250.length + y253.length < 4398046511104 then ((some (y250 ++ y253 : List (S29))).bind fun y257 => (if 0 ≤ t239 then ((some (l0.drop (t239 : Int).toNat : List (S29))).bind fun y260 => (if y257.length + y260.length < 4398046511104 then ((spec_l3Put.f k (y257 ++ y260) y247 t224 t225).bind fun t267 => (some t267)) else (none))) else (none))) else (none)) = some r := by first | (rw [hy253]; with_reducible exact H) | (have H2_ := (Option.bind_some _ _).symm.trans H; rw [hy253]; with_reducible exact H2_) | (have H2_ := (Option.bind_some _ _).symm.trans H; with_reducible exact H2_) | with_reducible exact H | (rw [hy253]; exact H) | exact H
                  have Ny253 := Aside0.mk hy253
                  clear hy253
                  by_cases c42 : y250.length + y253.length < 4398046511104
                  · rw [if_pos c42] at H
                    have LMc42 := Aside0.mk c42
                    clear c42
                    obtain ⟨y257, hy257⟩ : ∃ y_ : List (S29), y_ = (y250 ++ y253) := ⟨_, rfl⟩
                    replace H : (if 0 ≤ t239 then ((some (l0.drop (t239 : Int).toNat : List (S29))).bind fun y260 => (if y257.length + y260.length < 4398046511104 then ((spec_l3Put.f k (y257 ++ y260) y247 t224 t225).bind fun t267 => (some t267)) else (none))) else (none)) = some r := by first | (rw [hy257]; with_reducible exact H) | (have H2_ := (Option.bind_some _ _).symm.trans H; rw [hy257]; with_reducible exact H2_) | (have H2_ := (Option.bind_some _ _).symm.trans H; with_reducible exact H2_) | with_reducible exact H | (rw [hy257]; exact H) | exact H
                    have Ny257 := Aside0.mk hy257
                    clear hy257
                    by_cases c43 : 0 ≤ t239
                    · rw [if_pos c43] at H
                      have c43b0 := eq_true c43
                      have c43b1 : decide (0 ≤ t239) = true := decide_eq_true c43
                      clear c43
                      have c44b0 := eq_true (of_decide_eq_true (by first | (with_reducible assumption) | assumption) : t239 ≤ (l0.length : Int))
                      obtain ⟨y260, hy260⟩ : ∃ y_ : List (S29), y_ = (l0.drop (t239 : Int).toNat) := ⟨_, rfl⟩
                      replace H : (if y257.length + y260.length < 4398046511104 then ((spec_l3Put.f k (y257 ++ y260) y247 t224 t225).bind fun t267 => (some t267)) else (none)) = some r := by first | (rw [hy260]; with_reducible exact H) | (have H2_ := (Option.bind_some _ _).symm.trans H; rw [hy260]; with_reducible exact H2_) | (have H2_ := (Option.bind_some _ _).symm.trans H; with_reducible exact H2_) | with_reducible exact H | (rw [hy260]; exact H) | exact H
                      have Ny260 := Aside0.mk hy260
                      clear hy260
                      by_cases c45 : y257.length + y260.length < 4398046511104
                      · rw [if_pos c45] at H
                        have LMc45 := Aside0.mk c45
                        clear c45
                        obtain ⟨y264, hy264⟩ : ∃ y_ : List (S29), y_ = (y257 ++ y260) := ⟨_, rfl⟩
                        replace H : ((spec_l3Put.f k y264 y247 t224 t225).bind fun t267 => (some t267)) = some r := by first | (rw [hy264]; with_reducible exact H) | (have H2_ := (Option.bind_some _ _).symm.trans H; rw [hy264]; with_reducible exact H2_) | (have H2_ := (Option.bind_some _ _).symm.trans H; with_reducible exact H2_) | with_reducible exact H | (rw [hy264]; exact H) | exact H
                        have Ny264 := Aside0.mk hy264
                        clear hy264
                        replace H := Option.bind_eq_some_iff.mp H
                        obtain ⟨t267, A460, H⟩ := H
                        (try dsimp only at H)
                        have A46 := Aside0.mk A460
                        clear A460
                        obtain rfl := Option.some.inj H
                        go_enter Tryd.func58, Tryd.ntmps58
                        try go_wp2_with (first | ((with_reducible refine gate_dst (N := 3) rfl ?_); refine box_event ?hg (N := 3) ?hd (cs := #[.int .i64 a1_0, .int .i64 a1_1, .int .i64 a1_2, .int .i64 a1_3, .string a1_4]) (t := 37) ?hr ?_; (case hd => rfl); (case hg => rfl); (case hr => first | (go_simp; done) | (go_simp; rfl)); intro gb215 hg w47 hbox hb; have n0_ := Aside0.mk (below_step belowA hb); have n1_ := Aside0.mk (hbox); have n2_ := Aside0.mk ((by rw [hg]; exact (below_size belowA) : w.heap.size ≤ gb215)); have n3_ := Aside0.mk ((by rw [hg]; exact (below_size belowA) : w.heap.size ≤ gb215)); clear HB; have HB := n0_; have BK215 := n1_; obtain ⟨hcq_0, hcq_1, hcq_2, hcq_3, hcq_4, hfq_0, hfq_1, hfq_2, hfq_3, hfq_4⟩ := blk_facts5 BK215.out; have GW215 := n2_; have GE215 := n3_; clear n0_ n1_ n2_ n3_; clear hb hbox hg; obtain ⟨hcz48_0, hcz48_1, hcz48_2, hcz48_3, hcz48_4, hfz48_0, hfz48_1, hfz48_2, hfz48_3, hfz48_4⟩ := blk_facts5 BK215.out) | ((with_reducible refine gate_callee (f := 80) rfl ?_); refine goesL_ (some 16) rfl rfl Tryd.func80 (by kernel_rfl) rfl #[.slice A0 l0.length c0, .int .i64 a1_1] rfl argsA ?_; (with_reducible refine (spec_l2At.calls k _ _ l0 a1_1 t216 _ ?side1 ?side2 A3.out).mono ?_); (case side1 => exact CA (Kd.C_below HR0.out HB.out)); (case side2 => exact HC0.out); rintro e w' ⟨rfl, ⟨nd, rfl⟩⟩; refine ⟨_, rfl, ?_⟩) | ((with_reducible refine gate_callee (f := 82) rfl ?_); refine goesL_ (some 35) rfl rfl Tryd.func82 (by kernel_rfl) rfl #[.slice A0 l0.length c0, .agg #[.int .i64 a1_0, .int .i64 a1_1, .int .i64 a1_2, .int .i64 a1_3, .string a1_4]] rfl argsA ?_; (with_reducible refine (spec_l3Where.calls k _ _ l0 a1_0 a1_1 a1_2 a1_3 a1_4 t224 t225 true _ ?side1 ?side2 A23.out).mono ?_); (case side1 => exact CA (Kd.C_below HR0.out belowA)); (case side2 => exact HC0.out); rintro e w49 ⟨rfl, hb⟩; refine ⟨_, rfl, ?_⟩; have n0_ := Aside0.mk (blk_below (g := gb215) (o := .cells #[.int .i64 a1_0, .int .i64 a1_1, .int .i64 a1_2, .int .i64 a1_3, .string a1_4] 37 (0, 0)) blkA hb); have n1_ := Aside0.mk (below_step belowA hb); clear BK215; clear HB; have BK215 := n0_; obtain ⟨hcq_0, hcq_1, hcq_2, hcq_3, hcq_4, hfq_0, hfq_1, hfq_2, hfq_3, hfq_4⟩ := blk_facts5 BK215.out; have HB := n1_; clear n0_ n1_; (try clear hb); (try clear hb2); (try clear hk); (try clear hi); obtain ⟨hcz50_0, hcz50_1, hcz50_2, hcz50_3, hcz50_4, hfz50_0, hfz50_1, hfz50_2, hfz50_3, hfz50_4⟩ := blk_facts5 BK215.out) | ((with_reducible refine gate_callee (f := 81) rfl ?_); refine goesL_ (some 59) rfl rfl Tryd.func81 (by kernel_rfl) rfl #[.slice A0 l0.length c0, .int .i64 t216] rfl argsA ?_; (with_reducible refine (spec_l2End.calls k _ _ l0 t216 t239 _ ?side1 ?side2 A35.out).mono ?_); (case side1 => exact CA (Kd.C_below HR0.out HB.out)); (case side2 => exact HC0.out); rintro e w' ⟨rfl, ⟨nd, rfl⟩⟩; refine ⟨_, rfl, ?_⟩) | ((with_reducible refine gate_dst (N := 60) rfl ?_); refine Kd.R_lit k29 _ 29 ?hg (N := 60) ?hd (xs := ([] : List (S29))) (inner := []) (ok := fun _ => True) (okp := fun _ => True) ?hr ?hp (fun _ hk => hk) trivial (Below.refl _ _) (Nat.le_refl _) (by simp) ?_; (case hd => rfl); (case hg => rfl); (case hr => first | (go_simp; done) | (go_simp; rfl)); (case hp => exact (Reps.none _ _)); intro v241 w51 ho52 hb hg_ hnew_; clear hg_ hnew_; (first | rw [← Ny240.out] at ho52 | (simp only [Int.reduceToNat] at ho52; rw [← Ny240.out] at ho52)); have n0_ := Aside0.mk (Kd.R_lower ho52 (below_size belowA)); have n1_ := Aside0.mk (blk_below (g := gb215) (o := .cells #[.int .i64 a1_0, .int .i64 a1_1, .int .i64 a1_2, .int .i64 a1_3, .string a1_4] 37 (0, 0)) blkA hb); have n2_ := Aside0.mk (below_step belowA hb); clear BK215; clear HB; have HO242 := n0_; have BK215 := n1_; obtain ⟨hcq_0, hcq_1, hcq_2, hcq_3, hcq_4, hfq_0, hfq_1, hfq_2, hfq_3, hfq_4⟩ := blk_facts5 BK215.out; have HB := n2_; clear n0_ n1_ n2_; clear hb ho52; have q53 : (t239 : Int) ≤ ((l0.length : Int) : Int) := of_decide_eq_true (by first | (with_reducible assumption) | assumption); obtain ⟨i053, hi053, _, hsz53, _⟩ := info_parts info29; have hroom53 : l0.length ≤ c0 := HC0.out; have hC53 : Kd.C k29 _ A0 l0.length l0 := HR0.out; have ql53 : (t216 : Int) ≤ (t239 : Int) := of_decide_eq_true (by first | (with_reducible assumption) | assumption); have q053 : (0 : Int) ≤ (t216 : Int) := of_decide_eq_true (by first | (with_reducible assumption) | assumption); have hcut53 := cut_mid (P := Tryd.prog) 23 29 .i64 .i64 Tryd.underlying23 hi053 3 hsz53 A0 l0.length c0 t216 t239 q053 ql53 q53 hroom53; have hr53 := Kd.C_mid (lo := (t216 : Int).toNat) (hi := (t239 : Int).toNat) (c := c0) hC53 (by omega) (by omega) hroom53; obtain ⟨A53, hA53⟩ : ∃ A1, A1 = (if c0 = (t216 : Int).toNat then A0 else (A0 : Option Addr).map (·.add ((t216 : Int).toNat * 3))) := ⟨_, rfl⟩; obtain ⟨c53, hc53⟩ : ∃ c1, c1 = c0 - (t216 : Int).toNat := ⟨_, rfl⟩; have hy53 : y243.length = (t239 : Int).toNat - (t216 : Int).toNat := (by rw [Ny243.out, List.length_drop, List.length_take] <;> omega); rw [show ((l0).take (t239 : Int).toNat).drop (t216 : Int).toNat = y243 from Ny243.out.symm] at hr53; replace hr53 : Kd.C k29 _ A53 y243.length y243 := (by rw [hA53]; exact hr53); rw [← hy53, ← hA53, ← hc53] at hcut53; have HR246 := Aside0.mk hr53; have HC246 := Aside0.mk (show y243.length ≤ c53 from by rw [hy53, hc53]; exact Nat.sub_le_sub_right (Nat.le_trans (by omega) hroom53) _); clear hr53 hC53 hroom53 hi053 hsz53 hc53; have KY53 := Aside0.mk hy53; have KA53 := Aside0.mk hA53; clear hy53 hA53; replace q53 := eq_true q53) | ((with_reducible refine gate_builtin (b := .append) (xs := #[.tmp 60, .tmp 64]) rfl ?_); at_builtin; refine Kd.R_append_rows k29 (w0 := w) w.heap.size rfl (.tmp 60) (.tmp 64) 23 29 (.agg #[(.int .i64 0), (.int .i64 0), (.string ⟨#[]⟩)]) 32 rfl Tryd.underlying23 info29 rfl (by decide) (by omega) v241 y240 y243 _ _ _ (fun _ => True) (fun _ => False) rfl rfl ?aO ?aR (fun _ _ h => h) (fun _ h => h.elim) ?aF ?aB ?aS ?aL ?_; (case aR => exact CA (Kd.C_below HR246.out HB.out)); (case aB => exact belowA); (case aF => exact (fun _ _ => trivial)); (case aO => exact (RA HO242)); (case aS => exact (below_size belowA)); (case aL => have := LMc39.out; omega); intro v248 w54 ho hb hg hat; rw [← Ny247.out] at ho; have n0_ := Aside0.mk (blk_grown (g := gb215) (o := .cells #[.int .i64 a1_0, .int .i64 a1_1, .int .i64 a1_2, .int .i64 a1_3, .string a1_4] 37 (0, 0)) blkA hg (Kd.R_ne HO242.out BK215.out (by decide))); have n1_ := Aside0.mk (hb); have n2_ := Aside0.mk (ho); clear BK215; clear HB; clear HO242; have BK215 := n0_; obtain ⟨hcq_0, hcq_1, hcq_2, hcq_3, hcq_4, hfq_0, hfq_1, hfq_2, hfq_3, hfq_4⟩ := blk_facts5 BK215.out; have HB := n1_; have HO249 := n2_; clear n0_ n1_ n2_; clear ho hb hg hat))
                        have n0_ := Aside0.mk (Kd.R_drew HO249.out)
                        have n1_ := Aside0.mk (blk_drew BK215.out)
                        have n2_ := Aside0.mk (below_drew1 HB.out)
                        clear HO249
                        clear BK215
                        clear HB
                        have HO249 := n0_
                        have BK215 := n1_
                        have HB := n2_
                        clear n0_ n1_ n2_
                        have q56 : (t216 : Int) ≤ ((l0.length : Int) : Int) := of_decide_eq_true (by first | (with_reducible assumption) | assumption)
                        obtain ⟨i056, hi056, _, hsz56, _⟩ := info_parts info29
                        have hroom56 : l0.length ≤ c0 := HC0.out
                        have hC56 : Kd.C k29 _ A0 l0.length l0 := HR0.out
                        have hcut56 := cut_to (P := Tryd.prog) 23 29 .i64 Tryd.underlying23 hi056 A0 l0.length c0 t216 (of_decide_eq_true (by first | (with_reducible assumption) | assumption)) q56 hroom56
                        have hr56 := Kd.C_take (m := (t216 : Int).toNat) hC56 (by omega)
                        have hy56 : y253.length = (t216 : Int).toNat := (by rw [Ny253.out, List.length_take]; omega)
                        rw [← Ny253.out] at hr56
                        rw [← hy56] at hcut56
                        have HR256 := Aside0.mk hr56
                        have HC256 := Aside0.mk (show y253.length ≤ c0 from by omega)
                        clear hr56 hC56 hroom56 hi056 hsz56
                        have KY56 := Aside0.mk hy56
                        clear hy56
                        replace q56 := eq_true q56
                        have q57 : (t239 : Int) ≤ ((l0.length : Int) : Int) := of_decide_eq_true (by first | (with_reducible assumption) | assumption)
                        obtain ⟨i057, hi057, _, hsz57, _⟩ := info_parts info29
                        have hroom57 : l0.length ≤ c0 := HC0.out
                        have hC57 : Kd.C k29 _ A0 l0.length l0 := HR0.out
                        have q057 : (0 : Int) ≤ (t239 : Int) := of_decide_eq_true (by first | (with_reducible assumption) | assumption)
                        have hcut57 := cut_from (P := Tryd.prog) 23 29 .i64 Tryd.underlying23 hi057 3 hsz57 A0 l0.length c0 t239 q057 q57
                        have hr57 := Kd.C_drop (m := (t239 : Int).toNat) (c := c0) hC57 (by omega) hroom57
                        obtain ⟨A57, hA57⟩ : ∃ A1, A1 = (if c0 = (t239 : Int).toNat then A0 else (A0 : Option Addr).map (·.add ((t239 : Int).toNat * 3))) := ⟨_, rfl⟩
                        obtain ⟨c57, hc57⟩ : ∃ c1, c1 = c0 - (t239 : Int).toNat := ⟨_, rfl⟩
                        have hy57 : y260.length = l0.length - (t239 : Int).toNat := (by rw [Ny260.out, List.length_drop] <;> omega)
                        rw [show (l0).drop (t239 : Int).toNat = y260 from Ny260.out.symm] at hr57
                        replace hr57 : Kd.C k29 _ A57 y260.length y260 := (by rw [hA57]; exact hr57)
                        rw [← hy57, ← hA57, ← hc57] at hcut57
                        have HR263 := Aside0.mk hr57
                        have HC263 := Aside0.mk (show y260.length ≤ c57 from by rw [hy57, hc57]; exact Nat.sub_le_sub_right hroom57 _)
                        clear hr57 hC57 hroom57 hi057 hsz57 hc57
                        have KY57 := Aside0.mk hy57
                        have KA57 := Aside0.mk hA57
                        clear hy57 hA57
                        replace q57 := eq_true q57
                        refine start_ (n := 10) (S := fun w' => True) (ds := []) (tf 0 10) (by kernel_rfl) rfl rfl trivial (fun hHeld => ?_); refine with_tabW spec_l3Do.tab14 spec_l3Do.bits14 (fun HT_ HW_ => ?_)
                        generalize w54.drew = w55 at HO249 BK215 HB HR256 HR263 hHeld ⊢
                        refine pure_ (i := 1) (N := some 67) #[false, true, false, false, false, false, false, false, false, false] rfl rfl (anA HT_) (fun _ _ _ h => h) yldA putA ?_
                        refine pure_ (i := 2) (N := some 68) #[false, true, true, false, false, false, false, false, false, false] rfl rfl (anA HT_) (fun _ _ _ h => h) yldA putA ?_
                        refine pure_ (i := 3) (N := some 69) #[false, true, true, true, false, false, false, false, false, false] rfl rfl (anA HT_) (fun _ _ _ h => h) yldA putA ?_
                        refine pure_ (i := 5) (N := some 71) #[false, true, true, true, false, true, false, false, false, false] rfl rfl (anA HT_) (fun _ _ _ h => h) yldA putA ?_
                        refine pure_ (i := 6) (N := some 72) #[false, true, true, true, false, true, true, false, false, false] rfl rfl (anA HT_) (fun _ _ _ h => h) yldA putA ?_
                        refine pure_ (i := 7) (N := some 73) #[false, true, true, true, false, true, true, true, false, false] rfl rfl (anA HT_) (fun _ _ _ h => h) yldA putA ?_
                        refine one_ (i := 0) (N := some 66) #[true, true, true, true, false, true, true, true, false, false] rfl rfl (one_of HT_.out (by kernel_rfl)) (by decide) (fun K hK => ?_)
                        refine Kd.R_lit_step k29 _ 29 ?hg (N := 66) ?hd (xs := ([] : List (S29))) (inner := []) (ok := fun _ => True) (okp := fun _ => True) ?hr ?hp (fun _ hk => hk) trivial (Below.refl _ _) (Nat.le_refl _) (by simp) ?_; (case hd => rfl); (case hg => rfl); (case hr => first | (go_simp; done) | (go_simp; rfl)); (case hp => exact (Reps.none _ _))
                        intro v251 w58 ho59 hb hg_ hnew_
                        clear hg_ hnew_
                        (first | rw [← Ny250.out] at ho59 | (simp only [Int.reduceToNat] at ho59; rw [← Ny250.out] at ho59))
                        have n0_ := Aside0.mk (Kd.R_elder' (RA HO249) (Kd.R_base ho59) hb)
                        have n1_ := Aside0.mk (Kd.R_lower (Kd.R_new' ho59 (Kd.R_lt (RA HO249))) (below_size belowA))
                        have n2_ := Aside0.mk (blk_below (g := gb215) (o := .cells #[.int .i64 a1_0, .int .i64 a1_1, .int .i64 a1_2, .int .i64 a1_3, .string a1_4] 37 (0, 0)) blkA hb)
                        have n3_ := Aside0.mk (below_step belowA hb)
                        clear HO249
                        clear BK215
                        clear HB
                        have HO249 := n0_
                        have HO252 := n1_
                        have BK215 := n2_
                        have HB := n3_
                        clear n0_ n1_ n2_ n3_
                        clear hb ho59
                        refine hK.out _ _ trivial (fun hHeld => ?_)
                        clear hK K
                        refine norm_ (a' := ?_) ?_ ?_
                        rotate_left
                        · show Act.put _ (some 66) _ = _
                          simp only [Act.put, List.setIfInBounds_toArray, List.set_cons_zero, List.set_cons_succ, i64_w, i32_w]
                          rfl
                        refine one_ (i := 4) (N := some 70) (tf 8 2) rfl rfl (one_of HT_.out (by kernel_rfl)) (by decide) (fun K hK => ?_)
                        refine Kd.R_append_rows_step k29 (w0 := w) w.heap.size (by rfl) (.tmp 66) (.tmp 69) 23 29 (.agg #[(.int .i64 0), (.int .i64 0), (.string ⟨#[]⟩)]) 32 rfl Tryd.underlying23 info29 rfl (by decide) (by omega) v251 y250 y253 _ _ _ (fun k_ => some k_ ≠ (v248 : Value).ownBlock) (fun _ => False) rfl rfl ?aO ?aR (fun _ _ h => h) (fun _ h => h.elim) ?aF ?aB ?aS ?aL ?_
                        (case aR => exact CA (Kd.C_below HR256.out HB.out))
                        (case aB => exact belowA)
                        (case aF => exact (fun k_ hk => Kd.fresh' (Kd.R_lt (RA HO249)) k_ hk))
                        (case aO => exact (by (with_reducible repeat (first | apply Kd.R_alloc | apply Kd.R_drewN | apply Kd.R_drew)); exact Kd.R_mono HO252.out (fun _ hk => hk.2)))
                        (case aS => exact (below_size belowA))
                        (case aL => have := LMc42.out; omega)
                        intro v258 w60 ho hb hg hat
                        rw [← Ny257.out] at ho
                        have n0_ := Aside0.mk (blk_grown (g := gb215) (o := .cells #[.int .i64 a1_0, .int .i64 a1_1, .int .i64 a1_2, .int .i64 a1_3, .string a1_4] 37 (0, 0)) blkA hg (Kd.R_ne HO252.out BK215.out (by decide)))
                        have n1_ := Aside0.mk (Kd.R_after (ok := (fun _ => True)) (RA HO249) hg hat)
                        have n2_ := Aside0.mk (hb)
                        have n3_ := Aside0.mk (ho)
                        clear BK215
                        clear HO249
                        clear HB
                        clear HO252
                        have BK215 := n0_
                        have HO249 := n1_
                        have HB := n2_
                        have HO259 := n3_
                        clear n0_ n1_ n2_ n3_
                        clear ho hb hg hat
                        refine hK.out _ _ trivial (fun hHeld => ?_)
                        clear hK K
                        refine norm_ (a' := ?_) ?_ ?_
                        rotate_left
                        · show Act.put _ (some 70) _ = _
                          simp only [Act.put, List.setIfInBounds_toArray, List.set_cons_zero, List.set_cons_succ, i64_w, i32_w]
                          rfl
                        refine one_ (i := 8) (N := some 74) (tf 9 1) rfl rfl (one_of HT_.out (by kernel_rfl)) (by decide) (fun K hK => ?_)
                        refine Kd.R_append_rows_step k29 (w0 := w) w.heap.size (by rfl) (.tmp 70) (.tmp 73) 23 29 (.agg #[(.int .i64 0), (.int .i64 0), (.string ⟨#[]⟩)]) 32 rfl Tryd.underlying23 info29 rfl (by decide) (by omega) v258 y257 y260 _ _ _ (fun k_ => some k_ ≠ (v248 : Value).ownBlock) (fun _ => False) rfl rfl ?aO ?aR (fun _ _ h => h) (fun _ h => h.elim) ?aF ?aB ?aS ?aL ?_
                        (case aR => exact CA (Kd.C_below HR263.out HB.out))
                        (case aB => exact belowA)
                        (case aF => exact (fun k_ hk => Kd.fresh' (Kd.R_lt (RA HO249)) k_ hk))
                        (case aO => exact (RA HO259))
                        (case aS => exact (below_size belowA))
                        (case aL => have := LMc45.out; omega)
                        intro v265 w61 ho hb hg hat
                        rw [← Ny264.out] at ho
                        have n0_ := Aside0.mk (blk_grown (g := gb215) (o := .cells #[.int .i64 a1_0, .int .i64 a1_1, .int .i64 a1_2, .int .i64 a1_3, .string a1_4] 37 (0, 0)) blkA hg (Kd.R_ne HO259.out BK215.out (by decide)))
                        have n1_ := Aside0.mk (Kd.R_after (ok := (fun _ => True)) (RA HO249) hg hat)
                        have n2_ := Aside0.mk (hb)
                        have n3_ := Aside0.mk (ho)
                        clear BK215
                        clear HO249
                        clear HB
                        clear HO259
                        have BK215 := n0_
                        have HO249 := n1_
                        have HB := n2_
                        have HO266 := n3_
                        clear n0_ n1_ n2_ n3_
                        clear ho hb hg hat
                        refine hK.out _ _ trivial (fun hHeld => ?_)
                        clear hK K
                        refine norm_ (a' := ?_) ?_ ?_
                        rotate_left
                        · show Act.put _ (some 74) _ = _
                          simp only [Act.put, List.setIfInBounds_toArray, List.set_cons_zero, List.set_cons_succ, i64_w, i32_w]
                          rfl
                        refine pure_ (i := 9) (N := some 12) (tf 10 0) rfl rfl (anA HT_) (fun _ _ _ h => h) yldA putA ?_
                        refine done_ (done_of HT_.out (by kernel_rfl)) ?_
                        obtain ⟨Ao62, co62, eo62⟩ := Kd.R_slice HO266.out
                        subst eo62
                        obtain ⟨Ao63, co63, eo63⟩ := Kd.R_slice HO249.out
                        subst eo63
                        try go_wp2_with (first | ((with_reducible refine gate_callee (f := 83) rfl ?_); refine goesL_ (some 79) rfl rfl Tryd.func83 (by kernel_rfl) rfl #[.slice Ao62 y264.length co62, .slice Ao63 y247.length co63, .int .i64 t224, .int .i64 t225] rfl argsA ?_; (with_reducible refine (spec_l3Put.calls k _ _ y264 _ _ y247 t224 t225 t267 _ ?side1 ?side2 ?side3 ?side4 A46.out).mono ?_); (case side1 => repeat (first | exact (Kd.R_reads' HO266.out).2.2 | (with_reducible refine Kd.C_alloc ?_ _) | (with_reducible refine Kd.C_drewN ?_ _) | (with_reducible refine Kd.C_drew ?_))); (case side2 => exact (Kd.R_reads' HO266.out).2.1); (case side3 => repeat (first | exact (Kd.R_reads' HO249.out).2.2 | (with_reducible refine Kd.C_alloc ?_ _) | (with_reducible refine Kd.C_drewN ?_ _) | (with_reducible refine Kd.C_drew ?_))); (case side4 => exact (Kd.R_reads' HO249.out).2.1); rintro e w64 ⟨v268, rfl, ho0, hb⟩; refine ⟨_, rfl, ?_⟩; have n0_ := Aside0.mk (Kd.R_elder' (RA HO249) (Kd.R_base ho0) hb); have n1_ := Aside0.mk (Kd.R_elder' (RA HO266) (Kd.R_base ho0) hb); have n2_ := Aside0.mk (Kd.R_lower (Kd.R_new' (Kd.R_new' ho0 (Kd.R_lt (RA HO249))) (Kd.R_lt (RA HO266))) (below_size belowA)); have n3_ := Aside0.mk (blk_below (g := gb215) (o := .cells #[.int .i64 a1_0, .int .i64 a1_1, .int .i64 a1_2, .int .i64 a1_3, .string a1_4] 37 (0, 0)) blkA hb); have n4_ := Aside0.mk (below_step belowA hb); clear HO249; clear HO266; clear BK215; clear HB; have HO249 := n0_; have HO266 := n1_; have HO269 := n2_; have BK215 := n3_; obtain ⟨hcq_0, hcq_1, hcq_2, hcq_3, hcq_4, hfq_0, hfq_1, hfq_2, hfq_3, hfq_4⟩ := blk_facts5 BK215.out; have HB := n4_; clear n0_ n1_ n2_ n3_ n4_; (try clear hb); (try clear hb2); (try clear hk); (try clear hi); (try clear ho0)))
                        go_ret
                        exact ⟨_, endA, by (with_reducible repeat (first | apply Kd.R_alloc | apply Kd.R_drewN | apply Kd.R_drew)); exact Kd.R_mono HO269.out (fun _ hk => trivial), belowA⟩
                      · rw [if_neg c45] at H
                        exact absurd H (by simp)
                    · rw [if_neg c43] at H
                      exact absurd H (by simp)
                  · rw [if_neg c42] at H
                    exact absurd H (by simp)
                · rw [if_neg c41] at H
                  exact absurd H (by simp)
              · rw [if_neg c39] at H
                exact absurd H (by simp)
            · rw [if_neg c38] at H
              exact absurd H (by simp)
          · rw [if_neg c37] at H
            exact absurd H (by simp)
        · rw [if_neg c36] at H
          exact absurd H (by simp)
    · replace c24 := Bool.eq_false_iff.mpr c24
      subst c24
      have H1 : ((some (([] : List (S29)) : List (S29))).bind fun y227 => (if y227.length + l0.length < 4398046511104 then (some (y227 ++ l0)) else (none))) = some r := by rw [if_neg (show ¬ (false = true) by decide)] at H; exact H
      clear H
      have H := H1
      clear H1
      obtain ⟨y227, hy227⟩ : ∃ y_ : List (S29), y_ = (([] : List (S29))) := ⟨_, rfl⟩
      replace H : (if y227.length + l0.length < 4398046511104 then (some (y227 ++ l0)) else (none)) = some r := by first | (rw [hy227]; with_reducible exact H) | (have H2_ := (Option.bind_some _ _).symm.trans H; rw [hy227]; with_reducible exact H2_) | (have H2_ := (Option.bind_some _ _).symm.trans H; with_reducible exact H2_) | with_reducible exact H | (rw [hy227]; exact H) | exact H
      have Ny227 := Aside0.mk hy227
      clear hy227
      by_cases c65 : y227.length + l0.length < 4398046511104
      · rw [if_pos c65] at H
        have LMc65 := Aside0.mk c65
        clear c65
        obtain ⟨y230, hy230⟩ : ∃ y_ : List (S29), y_ = (y227 ++ l0) := ⟨_, rfl⟩
        replace H : (some y230) = some r := by first | (rw [hy230]; with_reducible exact H) | (have H2_ := (Option.bind_some _ _).symm.trans H; rw [hy230]; with_reducible exact H2_) | (have H2_ := (Option.bind_some _ _).symm.trans H; with_reducible exact H2_) | with_reducible exact H | (rw [hy230]; exact H) | exact H
        have Ny230 := Aside0.mk hy230
        clear hy230
        obtain rfl := Option.some.inj H
        go_enter Tryd.func58, Tryd.ntmps58
        go_wp2_with (first | ((with_reducible refine gate_dst (N := 3) rfl ?_); refine box_event ?hg (N := 3) ?hd (cs := #[.int .i64 a1_0, .int .i64 a1_1, .int .i64 a1_2, .int .i64 a1_3, .string a1_4]) (t := 37) ?hr ?_; (case hd => rfl); (case hg => rfl); (case hr => first | (go_simp; done) | (go_simp; rfl)); intro gb215 hg w66 hbox hb; have n0_ := Aside0.mk (below_step belowA hb); have n1_ := Aside0.mk (hbox); have n2_ := Aside0.mk ((by rw [hg]; exact (below_size belowA) : w.heap.size ≤ gb215)); have n3_ := Aside0.mk ((by rw [hg]; exact (below_size belowA) : w.heap.size ≤ gb215)); clear HB; have HB := n0_; have BK215 := n1_; obtain ⟨hcq_0, hcq_1, hcq_2, hcq_3, hcq_4, hfq_0, hfq_1, hfq_2, hfq_3, hfq_4⟩ := blk_facts5 BK215.out; have GW215 := n2_; have GE215 := n3_; clear n0_ n1_ n2_ n3_; clear hb hbox hg; obtain ⟨hcz67_0, hcz67_1, hcz67_2, hcz67_3, hcz67_4, hfz67_0, hfz67_1, hfz67_2, hfz67_3, hfz67_4⟩ := blk_facts5 BK215.out) | ((with_reducible refine gate_callee (f := 80) rfl ?_); refine goesL_ (some 16) rfl rfl Tryd.func80 (by kernel_rfl) rfl #[.slice A0 l0.length c0, .int .i64 a1_1] rfl argsA ?_; (with_reducible refine (spec_l2At.calls k _ _ l0 a1_1 t216 _ ?side1 ?side2 A3.out).mono ?_); (case side1 => exact CA (Kd.C_below HR0.out HB.out)); (case side2 => exact HC0.out); rintro e w' ⟨rfl, ⟨nd, rfl⟩⟩; refine ⟨_, rfl, ?_⟩) | ((with_reducible refine gate_callee (f := 82) rfl ?_); refine goesL_ (some 35) rfl rfl Tryd.func82 (by kernel_rfl) rfl #[.slice A0 l0.length c0, .agg #[.int .i64 a1_0, .int .i64 a1_1, .int .i64 a1_2, .int .i64 a1_3, .string a1_4]] rfl argsA ?_; (with_reducible refine (spec_l3Where.calls k _ _ l0 a1_0 a1_1 a1_2 a1_3 a1_4 t224 t225 false _ ?side1 ?side2 A23.out).mono ?_); (case side1 => exact CA (Kd.C_below HR0.out belowA)); (case side2 => exact HC0.out); rintro e w68 ⟨rfl, hb⟩; refine ⟨_, rfl, ?_⟩; have n0_ := Aside0.mk (blk_below (g := gb215) (o := .cells #[.int .i64 a1_0, .int .i64 a1_1, .int .i64 a1_2, .int .i64 a1_3, .string a1_4] 37 (0, 0)) blkA hb); have n1_ := Aside0.mk (below_step belowA hb); clear BK215; clear HB; have BK215 := n0_; obtain ⟨hcq_0, hcq_1, hcq_2, hcq_3, hcq_4, hfq_0, hfq_1, hfq_2, hfq_3, hfq_4⟩ := blk_facts5 BK215.out; have HB := n1_; clear n0_ n1_; (try clear hb); (try clear hb2); (try clear hk); (try clear hi)) | ((with_reducible refine gate_dst (N := 41) rfl ?_); refine Kd.R_lit k29 _ 29 ?hg (N := 41) ?hd (xs := ([] : List (S29))) (inner := []) (ok := fun _ => True) (okp := fun _ => True) ?hr ?hp (fun _ hk => hk) trivial (Below.refl _ _) (Nat.le_refl _) (by simp) ?_; (case hd => rfl); (case hg => rfl); (case hr => first | (go_simp; done) | (go_simp; rfl)); (case hp => exact (Reps.none _ _)); intro v228 w69 ho70 hb hg_ hnew_; clear hg_ hnew_; (first | rw [← Ny227.out] at ho70 | (simp only [Int.reduceToNat] at ho70; rw [← Ny227.out] at ho70)); have n0_ := Aside0.mk (Kd.R_lower ho70 (below_size belowA)); have n1_ := Aside0.mk (blk_below (g := gb215) (o := .cells #[.int .i64 a1_0, .int .i64 a1_1, .int .i64 a1_2, .int .i64 a1_3, .string a1_4] 37 (0, 0)) blkA hb); have n2_ := Aside0.mk (below_step belowA hb); clear BK215; clear HB; have HO229 := n0_; have BK215 := n1_; obtain ⟨hcq_0, hcq_1, hcq_2, hcq_3, hcq_4, hfq_0, hfq_1, hfq_2, hfq_3, hfq_4⟩ := blk_facts5 BK215.out; have HB := n2_; clear n0_ n1_ n2_; clear hb ho70) | ((with_reducible refine gate_builtin (b := .append) (xs := #[.tmp 41, .tmp 42]) rfl ?_); at_builtin; refine Kd.R_append_rows k29 (w0 := w) w.heap.size rfl (.tmp 41) (.tmp 42) 23 29 (.agg #[(.int .i64 0), (.int .i64 0), (.string ⟨#[]⟩)]) 32 rfl Tryd.underlying23 info29 rfl (by decide) (by omega) v228 y227 l0 _ _ _ (fun _ => True) (fun _ => False) rfl rfl ?aO ?aR (fun _ _ h => h) (fun _ h => h.elim) ?aF ?aB ?aS ?aL ?_; (case aR => exact CA (Kd.C_below HR0.out HB.out)); (case aB => exact belowA); (case aF => exact (fun _ _ => trivial)); (case aO => exact (RA HO229)); (case aS => exact (below_size belowA)); (case aL => have := LMc65.out; omega); intro v231 w71 ho hb hg hat; rw [← Ny230.out] at ho; have n0_ := Aside0.mk (blk_grown (g := gb215) (o := .cells #[.int .i64 a1_0, .int .i64 a1_1, .int .i64 a1_2, .int .i64 a1_3, .string a1_4] 37 (0, 0)) blkA hg (Kd.R_ne HO229.out BK215.out (by decide))); have n1_ := Aside0.mk (hb); have n2_ := Aside0.mk (ho); clear BK215; clear HB; clear HO229; have BK215 := n0_; obtain ⟨hcq_0, hcq_1, hcq_2, hcq_3, hcq_4, hfq_0, hfq_1, hfq_2, hfq_3, hfq_4⟩ := blk_facts5 BK215.out; have HB := n1_; have HO232 := n2_; clear n0_ n1_ n2_; clear ho hb hg hat))
        go_ret
        exact ⟨_, endA, RA HO232, belowA⟩
      · rw [if_neg c65] at H
        exact absurd H (by simp)

/-! ### spec_l71Id: function 59 -/
def spec_l71Id.f (k : Nat) (s0_0 : List Int) (s0_1 : Int) : Option (Int × Int) := (spec_l6Rd_pick.f k s0_0 s0_1 3).bind fun bt270 => ((spec_l6Rd_pick.f k s0_0 bt270.2 4).bind fun bt272 => (some (wrap64 ((wrap64 ((wrap64 (10 * (wrap64 (1 + bt270.1)))) + 1)) + bt272.1), bt272.2)))
theorem spec_l71Id.mono : ∀ a0 a1 k, LeO (spec_l71Id.f k a0 a1) (spec_l71Id.f (k + 1) a0 a1) := by
  intro a0 a1 k
  unfold spec_l71Id.f
  repeat' first
      | (with_reducible exact spec_l6Rd_pick.mono _ _ _ _)
      | (with_reducible exact LeO.refl _)
      | (with_reducible exact LeO.none _)
      | (with_reducible refine LeO.ite ?_ ?_)
      | (with_reducible refine LeO.bind ?_ (fun _ => ?_))
      | exact spec_l6Rd_pick.mono _ _ _ _
      | exact LeO.none _
      | refine LeO.ite ?_ ?_
      | refine LeO.bind ?_ (fun _ => ?_)
set_option maxHeartbeats 8000000 in
set_option maxRecDepth 100000 in
theorem spec_l71Id.calls (k : Nat) (g : Nat) (s0_0 : List Int) (s0_1 : Int) (r1 : Int) (r2 : Int) (w0 w : World) (hI : IsS92 w0 w g s0_0 s0_1) (hB : Below w0.heap.size w0 w) (h : spec_l71Id.f k s0_0 s0_1 = some (r1, r2)) :
    Calls Tryd.prog 59 #[.pointer (some ⟨g, 0, none⟩)] w fun e w' => e = .returned (.int .i64 r1) ∧ IsS92 w0 w' g s0_0 r2 ∧ Below w0.heap.size w0 w' ∧ KeepBut w w' g none := by
  have HI0 := Aside0.mk hI
  have HK := Aside0.mk (KeepBut.refl w g none)
  have HL := Aside0.mk hB.size
  clear hI
  have HW0 := Aside0.mk hB.size
  have HB := Aside0.mk hB
  clear hB
  have H : ((spec_l6Rd_pick.f k s0_0 s0_1 3).bind fun bt270 => ((spec_l6Rd_pick.f k s0_0 bt270.2 4).bind fun bt272 => (some (wrap64 ((wrap64 ((wrap64 (10 * (wrap64 (1 + bt270.1)))) + 1)) + bt272.1), bt272.2)))) = some (r1, r2) := h
  clear h
  replace H := Option.bind_eq_some_iff.mp H
  obtain ⟨⟨t270, t271⟩, A20, H⟩ := H
  (try dsimp only at H)
  have A2 := Aside0.mk A20
  clear A20
  replace H := Option.bind_eq_some_iff.mp H
  obtain ⟨⟨t272, t273⟩, A30, H⟩ := H
  (try dsimp only at H)
  have A3 := Aside0.mk A30
  clear A30
  simp only [Option.some.injEq, Prod.mk.injEq] at H
  obtain ⟨rfl, rfl⟩ := H
  go_enter Tryd.func59, Tryd.ntmps59
  go_wp2_with (first | ((with_reducible refine gate_callee (f := 31) rfl ?_); refine goesL_ (some 4) rfl rfl Tryd.func31 (by kernel_rfl) rfl #[.pointer (some ⟨g, 0, none⟩), .int .i64 3] rfl argsA ?_; (with_reducible refine (spec_l6Rd_pick.calls k g s0_0 s0_1 3 t270 t271 w0 _ ?side1 ?side2 A2.out).mono ?_); (case side1 => exact stA); (case side2 => exact belowA); rintro e w4 ⟨rfl, hi, hb, hk⟩; refine ⟨_, rfl, ?_⟩; have n0_ := Aside0.mk (KeepBut.trans keepA hk (.inl rfl)); have n1_ := Aside0.mk (hb); have n2_ := Aside0.mk (hi); clear HK; clear HB; clear HI0; have HK := n0_; have HB := n1_; have HI0 := n2_; clear n0_ n1_ n2_; (try clear hb); (try clear hb2); (try clear hk); (try clear hi)) | ((with_reducible refine gate_callee (f := 31) rfl ?_); refine goesL_ (some 9) rfl rfl Tryd.func31 (by kernel_rfl) rfl #[.pointer (some ⟨g, 0, none⟩), .int .i64 4] rfl argsA ?_; (with_reducible refine (spec_l6Rd_pick.calls k g s0_0 t271 4 t272 t273 w0 _ ?side1 ?side2 A3.out).mono ?_); (case side1 => exact stA); (case side2 => exact belowA); rintro e w5 ⟨rfl, hi, hb, hk⟩; refine ⟨_, rfl, ?_⟩; have n0_ := Aside0.mk (KeepBut.trans keepA hk (.inl rfl)); have n1_ := Aside0.mk (hb); have n2_ := Aside0.mk (hi); clear HK; clear HB; clear HI0; have HK := n0_; have HB := n1_; have HI0 := n2_; clear n0_ n1_ n2_; (try clear hb); (try clear hb2); (try clear hk); (try clear hi)))
  go_ret
  exact ⟨endA, stA, belowA, keepA⟩

end Go.Proofs.YtdapbpgooehibaaDoor.P
