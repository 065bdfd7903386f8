-- Written by wip/tools/pprint.py (a program of this session) over the kit's printer; not trusted: Lean checks it.
import Derived.Test.YtdapbpgooehibaaDoorPx0
import Derived.Test.YtdapbpgooehibaaDoorPx1
import Derived.Test.YtdapbpgooehibaaDoorV
namespace Go.Proofs.YtdapbpgooehibaaDoor.P
open Go.RowKit Go.Proofs.YtdapbpgooehibaaDoorW.PrintWords Go.Proofs.YtdapbpgooehibaaDoorW.PrintLast Go.Proofs.YtdapbpgooehibaaDoorW.PrintMore
attribute [local go_sem] cell_set_set cell_set_far_set max2_int min2_int max_two min_two max_three min_three max_four min_four   -- for this text's walks alone
set_option linter.unusedVariables false
set_option linter.unusedSimpArgs false

/-! ### spec_TreeOk: function 11 -/
mutual
def spec_TreeOk.l0 : Nat → List (S29) → Int → Int → Option (Bool)
  | 0, _, _, _ => none
  | k + 1, x0, x3, x4 => if x4 < (x0.length : Int) then (if 0 ≤ x4 then ((spec_RowOk.f k ((rd_T29 x0 x4).f0) ((rd_T29 x0 x4).f1) ((rd_T29 x0 x4).f2)).bind fun t112 => (if t112 = true then (if x4 > 0 then (if 0 ≤ (wrap64 (x4 - 1)) then (if (wrap64 (x4 - 1)) < (x0.length : Int) then (spec_TreeOk.j1 k x0 x3 x4 (decide (((rd_T29 x0 x4).f1) > (wrap64 (((rd_T29 x0 (wrap64 (x4 - 1))).f1) + 1))))) else (none)) else (none)) else (spec_TreeOk.j1 k x0 x3 x4 false)) else (spec_TreeOk.j1 k x0 x3 x4 true))) else (none)) else (if x3 = 3 then (if 0 < (x0.length : Int) then (some (((rd_T29 x0 0).f0) == 1)) else (none)) else (some false))
def spec_TreeOk.j1 : Nat → List (S29) → Int → Int → Bool → Option (Bool)
  | 0, _, _, _, _ => none
  | k + 1, x0, x3, x4, x36 => if x36 = true then (some false) else (if 0 ≤ x4 then (if x4 < (x0.length : Int) then ((spec_l1Root.f ((rd_T29 x0 x4).f0)).bind fun t116 => (if t116 = true then (if ((rd_T29 x0 x4).f0) = (wrap64 (x3 + 1)) then (spec_TreeOk.j2 k x0 (wrap64 (x3 + 1)) x4) else (some false)) else (spec_TreeOk.j2 k x0 x3 x4))) else (none)) else (none))
def spec_TreeOk.j2 : Nat → List (S29) → Int → Int → Option (Bool)
  | 0, _, _, _ => none
  | k + 1, x0, x3, x4 => spec_TreeOk.l1 k x0 x3 x4 0
def spec_TreeOk.l1 : Nat → List (S29) → Int → Int → Int → Option (Bool)
  | 0, _, _, _, _ => none
  | k + 1, x0, x3, x4, x5 => if x5 < x4 then (if 0 ≤ x5 then (if x5 < (x0.length : Int) then (if 0 ≤ x4 then (if x4 < (x0.length : Int) then (if ((rd_T29 x0 x5).f0) = ((rd_T29 x0 x4).f0) then (some false) else (spec_TreeOk.l1 k x0 x3 x4 (wrap64 (x5 + 1)))) else (none)) else (none)) else (none)) else (none)) else (spec_TreeOk.l0 k x0 x3 (wrap64 (x4 + 1)))
end
def spec_TreeOk.f (k : Nat) (l0 : List (S29)) : Option (Bool) := spec_TreeOk.l0 k l0 0 0
theorem spec_TreeOk.mono_l : ∀ k, (∀ y0 y1 y2, LeO (spec_TreeOk.l0 k y0 y1 y2) (spec_TreeOk.l0 (k + 1) y0 y1 y2)) ∧ (∀ y0 y1 y2 y3, LeO (spec_TreeOk.j1 k y0 y1 y2 y3) (spec_TreeOk.j1 (k + 1) y0 y1 y2 y3)) ∧ (∀ y0 y1 y2, LeO (spec_TreeOk.j2 k y0 y1 y2) (spec_TreeOk.j2 (k + 1) y0 y1 y2)) ∧ (∀ y0 y1 y2 y3, LeO (spec_TreeOk.l1 k y0 y1 y2 y3) (spec_TreeOk.l1 (k + 1) y0 y1 y2 y3))
  | 0 => ⟨fun _ _ _ r h => by simp [spec_TreeOk.l0] at h, fun _ _ _ _ r h => by simp [spec_TreeOk.j1] at h, fun _ _ _ r h => by simp [spec_TreeOk.j2] at h, fun _ _ _ _ r h => by simp [spec_TreeOk.l1] at h⟩
  | k + 1 => by
    obtain ⟨ih0, ih1, ih2, ih3⟩ := spec_TreeOk.mono_l k
    refine ⟨?_, ?_, ?_, ?_⟩
    · intro y0 y1 y2
      unfold spec_TreeOk.l0
      repeat' first
      | (with_reducible exact ih0 _ _ _)
      | (with_reducible exact ih1 _ _ _ _)
      | (with_reducible exact ih2 _ _ _)
      | (with_reducible exact ih3 _ _ _ _)
      | (with_reducible exact spec_RowOk.mono _ _ _ _)
      | (with_reducible exact LeO.refl _)
      | (with_reducible exact LeO.none _)
      | (with_reducible refine LeO.ite ?_ ?_)
      | (with_reducible refine LeO.bind ?_ (fun _ => ?_))
      | exact ih0 _ _ _
      | exact ih1 _ _ _ _
      | exact ih2 _ _ _
      | exact ih3 _ _ _ _
      | exact spec_RowOk.mono _ _ _ _
      | exact LeO.none _
      | refine LeO.ite ?_ ?_
      | refine LeO.bind ?_ (fun _ => ?_)
    · intro y0 y1 y2 y3
      unfold spec_TreeOk.j1
      repeat' first
      | (with_reducible exact ih0 _ _ _)
      | (with_reducible exact ih1 _ _ _ _)
      | (with_reducible exact ih2 _ _ _)
      | (with_reducible exact ih3 _ _ _ _)
      | (with_reducible exact spec_RowOk.mono _ _ _ _)
      | (with_reducible exact LeO.refl _)
      | (with_reducible exact LeO.none _)
      | (with_reducible refine LeO.ite ?_ ?_)
      | (with_reducible refine LeO.bind ?_ (fun _ => ?_))
      | exact ih0 _ _ _
      | exact ih1 _ _ _ _
      | exact ih2 _ _ _
      | exact ih3 _ _ _ _
      | exact spec_RowOk.mono _ _ _ _
      | exact LeO.none _
      | refine LeO.ite ?_ ?_
      | refine LeO.bind ?_ (fun _ => ?_)
    · intro y0 y1 y2
      unfold spec_TreeOk.j2
      repeat' first
      | (with_reducible exact ih0 _ _ _)
      | (with_reducible exact ih1 _ _ _ _)
      | (with_reducible exact ih2 _ _ _)
      | (with_reducible exact ih3 _ _ _ _)
      | (with_reducible exact spec_RowOk.mono _ _ _ _)
      | (with_reducible exact LeO.refl _)
      | (with_reducible exact LeO.none _)
      | (with_reducible refine LeO.ite ?_ ?_)
      | (with_reducible refine LeO.bind ?_ (fun _ => ?_))
      | exact ih0 _ _ _
      | exact ih1 _ _ _ _
      | exact ih2 _ _ _
      | exact ih3 _ _ _ _
      | exact spec_RowOk.mono _ _ _ _
      | exact LeO.none _
      | refine LeO.ite ?_ ?_
      | refine LeO.bind ?_ (fun _ => ?_)
    · intro y0 y1 y2 y3
      unfold spec_TreeOk.l1
      repeat' first
      | (with_reducible exact ih0 _ _ _)
      | (with_reducible exact ih1 _ _ _ _)
      | (with_reducible exact ih2 _ _ _)
      | (with_reducible exact ih3 _ _ _ _)
      | (with_reducible exact spec_RowOk.mono _ _ _ _)
      | (with_reducible exact LeO.refl _)
      | (with_reducible exact LeO.none _)
      | (with_reducible refine LeO.ite ?_ ?_)
      | (with_reducible refine LeO.bind ?_ (fun _ => ?_))
      | exact ih0 _ _ _
      | exact ih1 _ _ _ _
      | exact ih2 _ _ _
      | exact ih3 _ _ _ _
      | exact spec_RowOk.mono _ _ _ _
      | exact LeO.none _
      | refine LeO.ite ?_ ?_
      | refine LeO.bind ?_ (fun _ => ?_)
theorem spec_TreeOk.mono : ∀ a0 k, LeO (spec_TreeOk.f k a0) (spec_TreeOk.f (k + 1) a0) := by
  intro a0 k
  obtain ⟨ih0, ih1, ih2, ih3⟩ := spec_TreeOk.mono_l k
  unfold spec_TreeOk.f
  repeat' first
      | (with_reducible exact ih0 _ _ _)
      | (with_reducible exact ih1 _ _ _ _)
      | (with_reducible exact ih2 _ _ _)
      | (with_reducible exact ih3 _ _ _ _)
      | (with_reducible exact spec_RowOk.mono _ _ _ _)
      | (with_reducible exact LeO.refl _)
      | (with_reducible exact LeO.none _)
      | (with_reducible refine LeO.ite ?_ ?_)
      | (with_reducible refine LeO.bind ?_ (fun _ => ?_))
      | exact ih0 _ _ _
      | exact ih1 _ _ _ _
      | exact ih2 _ _ _
      | exact ih3 _ _ _ _
      | exact spec_RowOk.mono _ _ _ _
      | exact LeO.none _
      | refine LeO.ite ?_ ?_
      | refine LeO.bind ?_ (fun _ => ?_)
def spec_TreeOk.T5 : Bool × List (List Nat × List Nat) := (true, [([], []), ([], []), ([0, 1], [0, 1]), ([2], [2]), ([3], [3]), ([4], [4]), ([5, 4], [5]), ([6], [6]), ([7, 6], [6, 7]), ([8, 6, 6], [6, 8]), ([9], [9]), ([9], [9]), ([10, 11, 9], [9, 10, 11]), ([12, 9], [9, 12]), ([13, 9], [9, 13]), ([9], [9]), ([9], [9]), ([16, 9], [9, 16]), ([15, 17, 9], [9, 15, 17]), ([18, 9], [9, 18]), ([19, 9], [9, 19]), ([20, 9], [9, 20]), ([14, 21, 9], [9, 14, 21]), ([9, 22, 6], [6, 9, 22]), ([6, 23], [6, 23])])
def spec_TreeOk.B5 : List Nat := [0, 0, 3, 7, 15, 31, 63, 127, 255, 511, 1023, 1023, 4095, 8191, 16383, 1023, 1023, 66559, 230399, 492543, 1016831, 2065407, 4194303, 8388607, 16777215]
theorem spec_TreeOk.tab5 : rtab .any (opsOf Tryd.f11 5) = spec_TreeOk.T5 := by kernel_rfl
theorem spec_TreeOk.bits5 : waitsOk spec_TreeOk.T5.2 spec_TreeOk.B5 = true := by kernel_rfl
def spec_TreeOk.T14 : Bool × List (List Nat × List Nat) := (true, [([], []), ([], []), ([0, 1], [0, 1]), ([2], [2]), ([3], [3]), ([], []), ([], []), ([5, 6], [5, 6]), ([7], [7]), ([8], [8]), ([4, 9], [4, 9])])
def spec_TreeOk.B14 : List Nat := [0, 0, 3, 7, 15, 0, 0, 96, 224, 480, 1023]
theorem spec_TreeOk.tab14 : rtab .any (opsOf Tryd.f11 14) = spec_TreeOk.T14 := by kernel_rfl
theorem spec_TreeOk.bits14 : waitsOk spec_TreeOk.T14.2 spec_TreeOk.B14 = true := by kernel_rfl
set_option maxHeartbeats 8000000 in
set_option maxRecDepth 100000 in
theorem spec_TreeOk.calls (k : Nat) (A0 : Option Addr) (c0 : Nat) (l0 : List (S29)) (r : Bool) (w : World) (hr0 : Kd.C k29 w A0 l0.length l0) (hc0 : l0.length ≤ c0) (h : spec_TreeOk.f k l0 = some r) :
    Calls Tryd.prog 11 #[.slice A0 l0.length c0] w fun e w' => e = .returned (.bool r) ∧ Below w.heap.size w w' := by
  have hu29 := Tryd.underlying29
  have HR0 := Aside0.mk hr0
  have HC0 := Aside0.mk hc0
  clear hr0 hc0
  have HB := Aside0.mk (Below.refl w.heap.size w)
  have H : (spec_TreeOk.l0 k l0 0 0) = some r := h
  clear h
  have H' := Aside0.mk H
  clear H
  go_enter Tryd.func11, Tryd.ntmps11
  go_wp2
  go_loopg [3, 4] k (fun kq v3 v4 w' => ∃ (x3_1 : Int) (x4_1 : Int), v3 = .int .i64 x3_1 ∧ v4 = .int .i64 x4_1 ∧ Aside0 (spec_TreeOk.l0 kq l0 x3_1 x4_1 = some r) ∧ Aside0 (kq ≤ k) ∧ Aside0 (Below w.heap.size w w'))
  case atStart => exact ⟨(0), (0), (by first | rfl | (simp; done) | (simp [*]; done)), (by first | rfl | (simp; done) | (simp [*]; done)), H', ⟨Nat.le_refl _⟩, ⟨belowA⟩⟩
  case round =>
    clear H'
    try clear c1
    obtain ⟨x3_1, x4_1, rfl, rfl, HA, HK1, HB⟩ := hrel
    cases gk with
    | zero => exact absurd HA.out (by simp [spec_TreeOk.l0])
    | succ k1 =>
      have H := HA.out
      clear HA
      simp only [spec_TreeOk.l0] at H
      by_cases c2 : x4_1 < (l0.length : Int)
      · rw [if_pos c2] at H
        have c2b0 : decide (x4_1 < (l0.length : Int)) = true := decide_eq_true c2
        clear c2
        have HC3 := Aside0.mk H
        clear H
        go_upto_region 5 with (fail)
        go_cut [36] (fun v36 wc => ∃ (kq : Nat) (x36_2 : Bool), v36 = .bool x36_2 ∧ Aside0 (spec_TreeOk.j1 kq l0 x3_1 x4_1 x36_2 = some r) ∧ Aside0 (kq ≤ k1) ∧ Aside0 (Below w.heap.size w wc))
        case first =>
          have H := HC3.out
          clear HC3
          by_cases c4 : 0 ≤ x4_1
          · rw [if_pos c4] at H
            have c4b0 : decide (0 ≤ x4_1) = true := decide_eq_true c4
            clear c4
            (first | rw [c4b0] | (simp only [i64_w, i32_w]; rw [c4b0]) | skip)
            replace H := Option.bind_eq_some_iff.mp H
            obtain ⟨t112, A50, H⟩ := H
            (try dsimp only at H)
            have A5 := Aside0.mk A50
            clear A50
            by_cases c6 : t112 = true
            · subst c6
              have H1 : (if x4_1 > 0 then (if 0 ≤ (wrap64 (x4_1 - 1)) then (if (wrap64 (x4_1 - 1)) < (l0.length : Int) then (spec_TreeOk.j1 k1 l0 x3_1 x4_1 (decide (((rd_T29 l0 x4_1).f1) > (wrap64 (((rd_T29 l0 (wrap64 (x4_1 - 1))).f1) + 1))))) else (none)) else (none)) else (spec_TreeOk.j1 k1 l0 x3_1 x4_1 false)) = some r := by rw [if_pos rfl] at H; exact H
              clear H
              have H := H1
              clear H1
              by_cases c7 : x4_1 > 0
              · rw [if_pos c7] at H
                have c7b0 : decide (0 < x4_1) = true := decide_eq_true c7
                clear c7
                obtain ⟨ji8, hji8⟩ : ∃ j_ : Int, (wrap64 (x4_1 - 1)) = j_ := ⟨_, rfl⟩
                replace H : (if 0 ≤ (ji8) then (if (ji8) < (l0.length : Int) then (spec_TreeOk.j1 k1 l0 x3_1 x4_1 (decide (((rd_T29 l0 x4_1).f1) > (wrap64 (((rd_T29 l0 (ji8)).f1) + 1))))) else (none)) else (none)) = some r := by first | (rw [hji8] at H; exact H) | (simp only [hji8] at H ⊢; exact H)
                (try rw [hji8] at A5)
                have hji8w : (IntKind.i64.wrap (x4_1 - 1)) = ji8 := (i64_w _).trans hji8
                by_cases c9 : 0 ≤ (ji8)
                · rw [if_pos c9] at H
                  have c9b0 : decide (0 ≤ (ji8)) = true := decide_eq_true c9
                  clear c9
                  by_cases c10 : (ji8) < (l0.length : Int)
                  · rw [if_pos c10] at H
                    have c10b0 : decide ((ji8) < (l0.length : Int)) = true := decide_eq_true c10
                    clear c10
                    have H' := Aside0.mk H
                    clear H
                    try go_wp2
                    have n0_ := Aside0.mk (below_drew1 HB.out)
                    clear HB
                    have HB := n0_
                    clear n0_
                    have p111 : 0 ≤ (x4_1 : Int) := of_decide_eq_true (by first | (with_reducible assumption) | assumption)
                    have q111 : x4_1 < (l0.length : Int) := of_decide_eq_true (by first | (with_reducible assumption) | assumption)
                    obtain ⟨ad111, e111, hx111_0, hx111_1, hx111_2⟩ := at_T29 HR0.out x4_1 p111 q111
                    have hw111_2 := hx111_2
                    have hw111_1 := hx111_1
                    have hw111_0 := hx111_0
                    cases e111
                    replace hx111_0 := bcell HB hx111_0
                    replace hx111_1 := bcell HB hx111_1
                    replace hx111_2 := bcell HB hx111_2
                    replace p111 := eq_true p111
                    replace q111 := eq_true q111
                    have p113 : 0 ≤ (x4_1 : Int) := of_decide_eq_true (by first | (with_reducible assumption) | assumption)
                    have q113 : x4_1 < (l0.length : Int) := of_decide_eq_true (by first | (with_reducible assumption) | assumption)
                    obtain ⟨ad113, e113, hx113_0, hx113_1, hx113_2⟩ := at_T29 HR0.out x4_1 p113 q113
                    have hw113_2 := hx113_2
                    have hw113_1 := hx113_1
                    have hw113_0 := hx113_0
                    obtain rfl : ad111 = ad113 := (by injection e113)
                    replace hx113_0 := bcell HB hx113_0
                    replace hx113_1 := bcell HB hx113_1
                    replace hx113_2 := bcell HB hx113_2
                    replace p113 := eq_true p113
                    replace q113 := eq_true q113
                    have p114 : 0 ≤ ((ji8) : Int) := of_decide_eq_true (by first | (with_reducible assumption) | assumption)
                    have q114 : (ji8) < (l0.length : Int) := of_decide_eq_true (by first | (with_reducible assumption) | assumption)
                    obtain ⟨ad114, e114, hx114_0, hx114_1, hx114_2⟩ := at_T29 HR0.out (ji8) p114 q114
                    have hw114_2 := hx114_2
                    have hw114_1 := hx114_1
                    have hw114_0 := hx114_0
                    obtain rfl : ad111 = ad114 := (by injection e114)
                    replace hx114_0 := bcell HB hx114_0
                    replace hx114_1 := bcell HB hx114_1
                    replace hx114_2 := bcell HB hx114_2
                    replace p114 := eq_true p114
                    replace q114 := eq_true q114
                    refine start_ (n := 25) (S := fun w' => w'.cell? (ad111.add ((x4_1).toNat * 3)) = some (.int .i64 ((rd_T29 l0 x4_1).f0)) ∧ w'.cell? ⟨(ad111.add ((x4_1).toNat * 3)).block, (ad111.add ((x4_1).toNat * 3)).off + 1, none⟩ = some (.int .i64 ((rd_T29 l0 x4_1).f1)) ∧ w'.cell? ⟨(ad111.add ((x4_1).toNat * 3)).block, (ad111.add ((x4_1).toNat * 3)).off + 2, none⟩ = some (.string ((rd_T29 l0 x4_1).f2)) ∧ w'.cell? (ad111.add ((x4_1).toNat * 3)) = some (.int .i64 ((rd_T29 l0 x4_1).f0)) ∧ w'.cell? ⟨(ad111.add ((x4_1).toNat * 3)).block, (ad111.add ((x4_1).toNat * 3)).off + 1, none⟩ = some (.int .i64 ((rd_T29 l0 x4_1).f1)) ∧ w'.cell? ⟨(ad111.add ((x4_1).toNat * 3)).block, (ad111.add ((x4_1).toNat * 3)).off + 2, none⟩ = some (.string ((rd_T29 l0 x4_1).f2)) ∧ w'.cell? (ad111.add (((ji8)).toNat * 3)) = some (.int .i64 ((rd_T29 l0 (ji8)).f0)) ∧ w'.cell? ⟨(ad111.add (((ji8)).toNat * 3)).block, (ad111.add (((ji8)).toNat * 3)).off + 1, none⟩ = some (.int .i64 ((rd_T29 l0 (ji8)).f1)) ∧ w'.cell? ⟨(ad111.add (((ji8)).toNat * 3)).block, (ad111.add (((ji8)).toNat * 3)).off + 2, none⟩ = some (.string ((rd_T29 l0 (ji8)).f2))) (ds := []) (tf 0 25) (by kernel_rfl) rfl rfl ⟨(bcellD HB hw111_0), (bcellD HB hw111_1), (bcellD HB hw111_2), (bcellD HB hw113_0), (bcellD HB hw113_1), (bcellD HB hw113_2), (bcellD HB hw114_0), (bcellD HB hw114_1), (bcellD HB hw114_2)⟩ (fun hHeld => ?_); refine with_tabW spec_TreeOk.tab5 spec_TreeOk.bits5 (fun HT_ HW_ => ?_)
                    generalize wr.drew = w11 at HB hx111_0 hx111_1 hx111_2 hx113_0 hx113_1 hx113_2 hx114_0 hx114_1 hx114_2 hHeld ⊢
                    refine pure_ (i := 0) (N := some 12) (tf 1 24) rfl rfl (anA HT_) (fun _ _ _ h => h) yldA putA ?_
                    refine pure_ (i := 1) (N := some 13) (tf 2 23) rfl rfl (anA HT_) (fun _ _ _ h => h) yldA putA ?_
                    refine pure_ (i := 2) (N := some 14) (tf 3 22) rfl rfl (anA HT_) (fun _ _ _ h => h) yldA putA ?_
                    refine take_ (i := 3) (N := some 15) (tf 4 21) rfl rfl (take_ofW HT_.out HW_.out (by kernel_rfl)) (fun _ _ _ h => h) (Or.inl ⟨by rfl, by rintro w' ⟨s0, s1, s2, s3, s4, s5, s6, s7, s8⟩; go_simp; with_reducible rfl⟩) hHeld putA ?_
                    refine one_ (i := 4) (N := some 16) (tf 5 20) rfl rfl (one_of HT_.out (by kernel_rfl)) (by decide) (fun K hK => ?_)
                    refine goes_ Tryd.func34 (by kernel_rfl) rfl #[.agg #[.int .i64 ((rd_T29 l0 x4_1).f0), .int .i64 ((rd_T29 l0 x4_1).f1), .string ((rd_T29 l0 x4_1).f2)]] (by rfl) rfl rfl argsA ?_
                    with_reducible refine (spec_RowOk.calls k1 ((rd_T29 l0 x4_1).f0) ((rd_T29 l0 x4_1).f1) ((rd_T29 l0 x4_1).f2) true _ A5.out).mono ?_
                    rintro e w12 ⟨rfl, hb⟩
                    refine ⟨_, rfl, ?_⟩
                    have n0_ := Aside0.mk (below_step belowA hb)
                    clear HB
                    have HB := n0_
                    clear n0_
                    (try clear hb)
                    (try clear hb2)
                    (try clear hk)
                    (try clear hi)
                    refine hK.out _ _ ⟨(bcellD HB hw111_0), (bcellD HB hw111_1), (bcellD HB hw111_2), (bcellD HB hw113_0), (bcellD HB hw113_1), (bcellD HB hw113_2), (bcellD HB hw114_0), (bcellD HB hw114_1), (bcellD HB hw114_2)⟩ (fun hHeld => ?_)
                    clear hK K
                    refine norm_ (a' := ?_) ?_ ?_
                    rotate_left
                    · show Act.put _ (some 16) _ = _
                      simp only [Act.put, List.setIfInBounds_toArray, List.set_cons_zero, List.set_cons_succ, i64_w, i32_w]
                      rfl
                    refine pure_ (i := 5) (N := some 17) (tf 6 19) rfl rfl (anA HT_) (fun _ _ _ h => h) yldA putA ?_
                    refine pure_ (i := 6) (N := some 18) (tf 7 18) rfl rfl (anA HT_) (fun _ _ _ h => h) yldA putA ?_
                    refine pure_ (i := 7) (N := some 19) (tf 8 17) rfl rfl (anA HT_) (fun _ _ _ h => h) yldA putA ?_
                    refine pure_ (i := 8) (N := some 20) (tf 9 16) rfl rfl (anA HT_) (fun _ _ _ h => h) yldA putA ?_
                    refine pure_ (i := 9) (N := some 21) (tf 10 15) rfl rfl (anA HT_) (fun _ _ _ h => h) yldA putA ?_
                    refine pure_ (i := 10) (N := some 22) (tf 11 14) rfl rfl (anA HT_) (fun _ _ _ h => h) yldA putA ?_
                    refine pure_ (i := 11) (N := some 23) (tf 12 13) rfl rfl (anA HT_) (fun _ _ _ h => h) yldA putA ?_
                    refine pure_ (i := 12) (N := some 24) (tf 13 12) rfl rfl (anA HT_) (fun _ _ _ h => h) yldA putA ?_
                    refine pure_ (i := 13) (N := some 25) (tf 14 11) rfl rfl (anA HT_) (fun _ _ _ h => h) yldA putA ?_
                    refine pure_ (i := 15) (N := some 27) #[true, true, true, true, true, true, true, true, true, true, true, true, true, true, false, true, false, false, false, false, false, false, false, false, false] rfl rfl (anA HT_) (fun _ _ _ h => h) yldA putA ?_
                    refine pure_ (i := 16) (N := some 28) #[true, true, true, true, true, true, true, true, true, true, true, true, true, true, false, true, true, false, false, false, false, false, false, false, false] rfl rfl (anA HT_) (fun _ _ _ h => h) yldA putA ?_
                    refine pure_ (i := 17) (N := some 29) #[true, true, true, true, true, true, true, true, true, true, true, true, true, true, false, true, true, true, false, false, false, false, false, false, false] rfl rfl (anA HT_) (fun _ _ _ h => h) yldA putA ?_
                    refine pure_ (i := 18) (N := some 30) #[true, true, true, true, true, true, true, true, true, true, true, true, true, true, false, true, true, true, true, false, false, false, false, false, false] rfl rfl (anA HT_) (fun _ _ _ h => h) yldA putA ?_
                    refine pure_ (i := 19) (N := some 31) #[true, true, true, true, true, true, true, true, true, true, true, true, true, true, false, true, true, true, true, true, false, false, false, false, false] rfl rfl (anA HT_) (fun _ _ _ h => h) yldA putA ?_
                    refine take_ (i := 14) (N := some 26) (tf 20 5) rfl rfl (take_ofW HT_.out HW_.out (by kernel_rfl)) (fun _ _ _ h => h) (Or.inl ⟨by rfl, by rintro w' ⟨s0, s1, s2, s3, s4, s5, s6, s7, s8⟩; go_simp; with_reducible rfl⟩) hHeld putA ?_
                    refine take_ (i := 20) (N := some 32) (tf 21 4) rfl rfl (take_ofW HT_.out HW_.out (by kernel_rfl)) (fun _ _ _ h => h) (Or.inl ⟨by rfl, by rintro w' ⟨s0, s1, s2, s3, s4, s5, s6, s7, s8⟩; go_simp; with_reducible rfl⟩) hHeld putA ?_
                    refine pure_ (i := 21) (N := some 33) (tf 22 3) rfl rfl (anA HT_) (fun _ _ _ h => h) yldA putA ?_
                    refine pure_ (i := 22) (N := some 34) (tf 23 2) rfl rfl (anA HT_) (fun _ _ _ h => h) yldA putA ?_
                    refine pure_ (i := 23) (N := some 35) (tf 24 1) rfl rfl (anA HT_) (fun _ _ _ h => h) yldA putA ?_
                    refine pure_ (i := 24) (N := some 36) (tf 25 0) rfl rfl (anA HT_) (fun _ _ _ h => h) yldA putA ?_
                    refine done_ (done_of HT_.out (by kernel_rfl)) ?_
                    try go_wp2
                    go_meet
                    case rel => exact ⟨_, (decide (((rd_T29 l0 x4_1).f1) > (wrap64 (((rd_T29 l0 (ji8)).f1) + 1)))), (by first | rfl | (simp; done) | (simp only [← hji8] <;> (first | rfl | simp)) | (simp [*]; done)), H', ⟨by have := HK1.out; first | omega | exact Nat.le_refl _⟩, ⟨belowA⟩⟩
                  · rw [if_neg c10] at H
                    exact absurd H (by simp)
                · rw [if_neg c9] at H
                  exact absurd H (by simp)
              · rw [if_neg c7] at H
                have c7b0 : decide (0 < x4_1) = false := decide_eq_false c7
                clear c7
                have H' := Aside0.mk H
                clear H
                try go_wp2
                have n0_ := Aside0.mk (below_drew1 HB.out)
                clear HB
                have HB := n0_
                clear n0_
                have p111 : 0 ≤ (x4_1 : Int) := of_decide_eq_true (by first | (with_reducible assumption) | assumption)
                have q111 : x4_1 < (l0.length : Int) := of_decide_eq_true (by first | (with_reducible assumption) | assumption)
                obtain ⟨ad111, e111, hx111_0, hx111_1, hx111_2⟩ := at_T29 HR0.out x4_1 p111 q111
                have hw111_2 := hx111_2
                have hw111_1 := hx111_1
                have hw111_0 := hx111_0
                cases e111
                replace hx111_0 := bcell HB hx111_0
                replace hx111_1 := bcell HB hx111_1
                replace hx111_2 := bcell HB hx111_2
                replace p111 := eq_true p111
                replace q111 := eq_true q111
                refine start_ (n := 25) (S := fun w' => w'.cell? (ad111.add ((x4_1).toNat * 3)) = some (.int .i64 ((rd_T29 l0 x4_1).f0)) ∧ w'.cell? ⟨(ad111.add ((x4_1).toNat * 3)).block, (ad111.add ((x4_1).toNat * 3)).off + 1, none⟩ = some (.int .i64 ((rd_T29 l0 x4_1).f1)) ∧ w'.cell? ⟨(ad111.add ((x4_1).toNat * 3)).block, (ad111.add ((x4_1).toNat * 3)).off + 2, none⟩ = some (.string ((rd_T29 l0 x4_1).f2))) (ds := []) (tf 0 25) (by kernel_rfl) rfl rfl ⟨(bcellD HB hw111_0), (bcellD HB hw111_1), (bcellD HB hw111_2)⟩ (fun hHeld => ?_); refine with_tabW spec_TreeOk.tab5 spec_TreeOk.bits5 (fun HT_ HW_ => ?_)
                generalize wr.drew = w13 at HB hx111_0 hx111_1 hx111_2 hHeld ⊢
                refine pure_ (i := 0) (N := some 12) (tf 1 24) rfl rfl (anA HT_) (fun _ _ _ h => h) yldA putA ?_
                refine pure_ (i := 1) (N := some 13) (tf 2 23) rfl rfl (anA HT_) (fun _ _ _ h => h) yldA putA ?_
                refine pure_ (i := 2) (N := some 14) (tf 3 22) rfl rfl (anA HT_) (fun _ _ _ h => h) yldA putA ?_
                refine take_ (i := 3) (N := some 15) (tf 4 21) rfl rfl (take_ofW HT_.out HW_.out (by kernel_rfl)) (fun _ _ _ h => h) (Or.inl ⟨by rfl, by rintro w' ⟨s0, s1, s2⟩; go_simp; with_reducible rfl⟩) hHeld putA ?_
                refine one_ (i := 4) (N := some 16) (tf 5 20) rfl rfl (one_of HT_.out (by kernel_rfl)) (by decide) (fun K hK => ?_)
                refine goes_ Tryd.func34 (by kernel_rfl) rfl #[.agg #[.int .i64 ((rd_T29 l0 x4_1).f0), .int .i64 ((rd_T29 l0 x4_1).f1), .string ((rd_T29 l0 x4_1).f2)]] (by rfl) rfl rfl argsA ?_
                with_reducible refine (spec_RowOk.calls k1 ((rd_T29 l0 x4_1).f0) ((rd_T29 l0 x4_1).f1) ((rd_T29 l0 x4_1).f2) true _ A5.out).mono ?_
                rintro e w14 ⟨rfl, hb⟩
                refine ⟨_, rfl, ?_⟩
                have n0_ := Aside0.mk (below_step belowA hb)
                clear HB
                have HB := n0_
                clear n0_
                (try clear hb)
                (try clear hb2)
                (try clear hk)
                (try clear hi)
                refine hK.out _ _ ⟨(bcellD HB hw111_0), (bcellD HB hw111_1), (bcellD HB hw111_2)⟩ (fun hHeld => ?_)
                clear hK K
                refine norm_ (a' := ?_) ?_ ?_
                rotate_left
                · show Act.put _ (some 16) _ = _
                  simp only [Act.put, List.setIfInBounds_toArray, List.set_cons_zero, List.set_cons_succ, i64_w, i32_w]
                  rfl
                refine pure_ (i := 5) (N := some 17) (tf 6 19) rfl rfl (anA HT_) (fun _ _ _ h => h) yldA putA ?_
                refine pure_ (i := 6) (N := some 18) (tf 7 18) rfl rfl (anA HT_) (fun _ _ _ h => h) yldA putA ?_
                refine pure_ (i := 7) (N := some 19) (tf 8 17) rfl rfl (anA HT_) (fun _ _ _ h => h) yldA putA ?_
                refine pure_ (i := 8) (N := some 20) (tf 9 16) rfl rfl (anA HT_) (fun _ _ _ h => h) yldA putA ?_
                refine pure_ (i := 9) (N := some 21) (tf 10 15) rfl rfl (anA HT_) (fun _ _ _ h => h) yldA putA ?_
                refine pure_ (i := 10) (N := some 22) (tf 11 14) rfl rfl (anA HT_) (fun _ _ _ h => h) yldU putA ?_
                refine pure_ (i := 11) (N := some 23) (tf 12 13) rfl rfl (anA HT_) (fun _ _ _ h => h) yldU putA ?_
                refine pure_ (i := 12) (N := some 24) (tf 13 12) rfl rfl (anA HT_) (fun _ _ _ h => h) yldU putA ?_
                refine pure_ (i := 13) (N := some 25) (tf 14 11) rfl rfl (anA HT_) (fun _ _ _ h => h) yldU putA ?_
                refine pure_ (i := 14) (N := some 26) (tf 15 10) rfl rfl (anA HT_) (fun _ _ _ h => h) yldU putA ?_
                refine pure_ (i := 15) (N := some 27) (tf 16 9) rfl rfl (anA HT_) (fun _ _ _ h => h) yldU putA ?_
                refine pure_ (i := 16) (N := some 28) (tf 17 8) rfl rfl (anA HT_) (fun _ _ _ h => h) yldU putA ?_
                refine pure_ (i := 17) (N := some 29) (tf 18 7) rfl rfl (anA HT_) (fun _ _ _ h => h) yldU putA ?_
                refine pure_ (i := 18) (N := some 30) (tf 19 6) rfl rfl (anA HT_) (fun _ _ _ h => h) yldU putA ?_
                refine pure_ (i := 19) (N := some 31) (tf 20 5) rfl rfl (anA HT_) (fun _ _ _ h => h) yldU putA ?_
                refine pure_ (i := 20) (N := some 32) (tf 21 4) rfl rfl (anA HT_) (fun _ _ _ h => h) yldU putA ?_
                refine pure_ (i := 21) (N := some 33) (tf 22 3) rfl rfl (anA HT_) (fun _ _ _ h => h) yldU putA ?_
                refine pure_ (i := 22) (N := some 34) (tf 23 2) rfl rfl (anA HT_) (fun _ _ _ h => h) yldU putA ?_
                refine pure_ (i := 23) (N := some 35) (tf 24 1) rfl rfl (anA HT_) (fun _ _ _ h => h) yldA putA ?_
                refine pure_ (i := 24) (N := some 36) (tf 25 0) rfl rfl (anA HT_) (fun _ _ _ h => h) yldA putA ?_
                refine done_ (done_of HT_.out (by kernel_rfl)) ?_
                try go_wp2
                go_meet
                case rel => exact ⟨_, (false), (by first | rfl | (simp; done) | (simp [*]; done)), H', ⟨by have := HK1.out; first | omega | exact Nat.le_refl _⟩, ⟨belowA⟩⟩
            · replace c6 := Bool.eq_false_iff.mpr c6
              subst c6
              have H1 : (spec_TreeOk.j1 k1 l0 x3_1 x4_1 true) = some r := by rw [if_neg (show ¬ (false = true) by decide)] at H; exact H
              clear H
              have H := H1
              clear H1
              have H' := Aside0.mk H
              clear H
              try go_wp2
              have n0_ := Aside0.mk (below_drew1 HB.out)
              clear HB
              have HB := n0_
              clear n0_
              have p111 : 0 ≤ (x4_1 : Int) := of_decide_eq_true (by first | (with_reducible assumption) | assumption)
              have q111 : x4_1 < (l0.length : Int) := of_decide_eq_true (by first | (with_reducible assumption) | assumption)
              obtain ⟨ad111, e111, hx111_0, hx111_1, hx111_2⟩ := at_T29 HR0.out x4_1 p111 q111
              have hw111_2 := hx111_2
              have hw111_1 := hx111_1
              have hw111_0 := hx111_0
              cases e111
              replace hx111_0 := bcell HB hx111_0
              replace hx111_1 := bcell HB hx111_1
              replace hx111_2 := bcell HB hx111_2
              replace p111 := eq_true p111
              replace q111 := eq_true q111
              refine start_ (n := 25) (S := fun w' => w'.cell? (ad111.add ((x4_1).toNat * 3)) = some (.int .i64 ((rd_T29 l0 x4_1).f0)) ∧ w'.cell? ⟨(ad111.add ((x4_1).toNat * 3)).block, (ad111.add ((x4_1).toNat * 3)).off + 1, none⟩ = some (.int .i64 ((rd_T29 l0 x4_1).f1)) ∧ w'.cell? ⟨(ad111.add ((x4_1).toNat * 3)).block, (ad111.add ((x4_1).toNat * 3)).off + 2, none⟩ = some (.string ((rd_T29 l0 x4_1).f2))) (ds := []) (tf 0 25) (by kernel_rfl) rfl rfl ⟨(bcellD HB hw111_0), (bcellD HB hw111_1), (bcellD HB hw111_2)⟩ (fun hHeld => ?_); refine with_tabW spec_TreeOk.tab5 spec_TreeOk.bits5 (fun HT_ HW_ => ?_)
              generalize wr.drew = w15 at HB hx111_0 hx111_1 hx111_2 hHeld ⊢
              refine pure_ (i := 0) (N := some 12) (tf 1 24) rfl rfl (anA HT_) (fun _ _ _ h => h) yldA putA ?_
              refine pure_ (i := 1) (N := some 13) (tf 2 23) rfl rfl (anA HT_) (fun _ _ _ h => h) yldA putA ?_
              refine pure_ (i := 2) (N := some 14) (tf 3 22) rfl rfl (anA HT_) (fun _ _ _ h => h) yldA putA ?_
              refine take_ (i := 3) (N := some 15) (tf 4 21) rfl rfl (take_ofW HT_.out HW_.out (by kernel_rfl)) (fun _ _ _ h => h) (Or.inl ⟨by rfl, by rintro w' ⟨s0, s1, s2⟩; go_simp; with_reducible rfl⟩) hHeld putA ?_
              refine one_ (i := 4) (N := some 16) (tf 5 20) rfl rfl (one_of HT_.out (by kernel_rfl)) (by decide) (fun K hK => ?_)
              refine goes_ Tryd.func34 (by kernel_rfl) rfl #[.agg #[.int .i64 ((rd_T29 l0 x4_1).f0), .int .i64 ((rd_T29 l0 x4_1).f1), .string ((rd_T29 l0 x4_1).f2)]] (by rfl) rfl rfl argsA ?_
              with_reducible refine (spec_RowOk.calls k1 ((rd_T29 l0 x4_1).f0) ((rd_T29 l0 x4_1).f1) ((rd_T29 l0 x4_1).f2) false _ A5.out).mono ?_
              rintro e w16 ⟨rfl, hb⟩
              refine ⟨_, rfl, ?_⟩
              have n0_ := Aside0.mk (below_step belowA hb)
              clear HB
              have HB := n0_
              clear n0_
              (try clear hb)
              (try clear hb2)
              (try clear hk)
              (try clear hi)
              refine hK.out _ _ ⟨(bcellD HB hw111_0), (bcellD HB hw111_1), (bcellD HB hw111_2)⟩ (fun hHeld => ?_)
              clear hK K
              refine norm_ (a' := ?_) ?_ ?_
              rotate_left
              · show Act.put _ (some 16) _ = _
                simp only [Act.put, List.setIfInBounds_toArray, List.set_cons_zero, List.set_cons_succ, i64_w, i32_w]
                rfl
              refine pure_ (i := 5) (N := some 17) (tf 6 19) rfl rfl (anA HT_) (fun _ _ _ h => h) yldA putA ?_
              refine pure_ (i := 6) (N := some 18) (tf 7 18) rfl rfl (anA HT_) (fun _ _ _ h => h) yldA putA ?_
              refine pure_ (i := 7) (N := some 19) (tf 8 17) rfl rfl (anA HT_) (fun _ _ _ h => h) yldU putA ?_
              refine pure_ (i := 8) (N := some 20) (tf 9 16) rfl rfl (anA HT_) (fun _ _ _ h => h) yldU putA ?_
              refine pure_ (i := 9) (N := some 21) (tf 10 15) rfl rfl (anA HT_) (fun _ _ _ h => h) yldU putA ?_
              refine pure_ (i := 10) (N := some 22) (tf 11 14) rfl rfl (anA HT_) (fun _ _ _ h => h) yldU putA ?_
              refine pure_ (i := 11) (N := some 23) (tf 12 13) rfl rfl (anA HT_) (fun _ _ _ h => h) yldU putA ?_
              refine pure_ (i := 12) (N := some 24) (tf 13 12) rfl rfl (anA HT_) (fun _ _ _ h => h) yldU putA ?_
              refine pure_ (i := 13) (N := some 25) (tf 14 11) rfl rfl (anA HT_) (fun _ _ _ h => h) yldU putA ?_
              refine pure_ (i := 14) (N := some 26) (tf 15 10) rfl rfl (anA HT_) (fun _ _ _ h => h) yldU putA ?_
              refine pure_ (i := 15) (N := some 27) (tf 16 9) rfl rfl (anA HT_) (fun _ _ _ h => h) yldU putA ?_
              refine pure_ (i := 16) (N := some 28) (tf 17 8) rfl rfl (anA HT_) (fun _ _ _ h => h) yldU putA ?_
              refine pure_ (i := 17) (N := some 29) (tf 18 7) rfl rfl (anA HT_) (fun _ _ _ h => h) yldU putA ?_
              refine pure_ (i := 18) (N := some 30) (tf 19 6) rfl rfl (anA HT_) (fun _ _ _ h => h) yldU putA ?_
              refine pure_ (i := 19) (N := some 31) (tf 20 5) rfl rfl (anA HT_) (fun _ _ _ h => h) yldU putA ?_
              refine pure_ (i := 20) (N := some 32) (tf 21 4) rfl rfl (anA HT_) (fun _ _ _ h => h) yldU putA ?_
              refine pure_ (i := 21) (N := some 33) (tf 22 3) rfl rfl (anA HT_) (fun _ _ _ h => h) yldU putA ?_
              refine pure_ (i := 22) (N := some 34) (tf 23 2) rfl rfl (anA HT_) (fun _ _ _ h => h) yldU putA ?_
              refine pure_ (i := 23) (N := some 35) (tf 24 1) rfl rfl (anA HT_) (fun _ _ _ h => h) yldU putA ?_
              refine pure_ (i := 24) (N := some 36) (tf 25 0) rfl rfl (anA HT_) (fun _ _ _ h => h) yldA putA ?_
              refine done_ (done_of HT_.out (by kernel_rfl)) ?_
              try go_wp2
              go_meet
              case rel => exact ⟨_, (true), (by first | rfl | (simp; done) | (simp [*]; done)), H', ⟨by have := HK1.out; first | omega | exact Nat.le_refl _⟩, ⟨belowA⟩⟩
          · rw [if_neg c4] at H
            exact absurd H (by simp)
        case rest =>
          clear HC3
          try clear c1
          try clear p1
          try clear q1
          try clear hx1
          try clear p2
          try clear c3
          try clear c4
          try clear c6
          try clear p6
          try clear c7
          try clear c7b0
          try clear c9
          try clear c10
          try clear p11
          try clear q11
          try clear hx11
          try clear hx111_0
          try clear hx111_1
          try clear hx111_2
          try clear hx113_0
          try clear hx113_1
          try clear hx113_2
          try clear hx114_0
          try clear hx114_1
          try clear hx114_2
          try clear p111
          try clear p114
          try clear q111
          try clear q114
          obtain ⟨kq, x36_2, rfl, HA, HJ2, HB⟩ := hcut
          cases kq with
          | zero => exact absurd HA.out (by simp [spec_TreeOk.j1])
          | succ kj2 =>
            have H := HA.out
            clear HA
            simp only [spec_TreeOk.j1] at H
            by_cases c17 : x36_2 = true
            · subst c17
              have H1 : (some false) = some r := by rw [if_pos rfl] at H; exact H
              clear H
              have H := H1
              clear H1
              obtain rfl := Option.some.inj H
              go_wp2
              go_ret
              exact ⟨endA, belowA⟩
            · replace c17 := Bool.eq_false_iff.mpr c17
              subst c17
              have H1 : (if 0 ≤ x4_1 then (if x4_1 < (l0.length : Int) then ((spec_l1Root.f ((rd_T29 l0 x4_1).f0)).bind fun t116 => (if t116 = true then (if ((rd_T29 l0 x4_1).f0) = (wrap64 (x3_1 + 1)) then (spec_TreeOk.j2 kj2 l0 (wrap64 (x3_1 + 1)) x4_1) else (some false)) else (spec_TreeOk.j2 kj2 l0 x3_1 x4_1))) else (none)) else (none)) = some r := by rw [if_neg (show ¬ (false = true) by decide)] at H; exact H
              clear H
              have H := H1
              clear H1
              by_cases c18 : 0 ≤ x4_1
              · rw [if_pos c18] at H
                have c18b0 : decide (0 ≤ x4_1) = true := decide_eq_true c18
                clear c18
                by_cases c19 : x4_1 < (l0.length : Int)
                · rw [if_pos c19] at H
                  have c19b0 : decide (x4_1 < (l0.length : Int)) = true := decide_eq_true c19
                  clear c19
                  replace H := Option.bind_eq_some_iff.mp H
                  obtain ⟨t116, A200, H⟩ := H
                  (try dsimp only at H)
                  have A20 := Aside0.mk A200
                  clear A200
                  have HC21 := Aside0.mk H
                  clear H
                  have p115 : 0 ≤ (x4_1 : Int) := of_decide_eq_true (by first | (with_reducible assumption) | assumption)
                  have q115 : x4_1 < (l0.length : Int) := of_decide_eq_true (by first | (with_reducible assumption) | assumption)
                  obtain ⟨ad115, e115, hx115_0, hx115_1, hx115_2⟩ := at_T29 HR0.out x4_1 p115 q115
                  cases e115
                  replace hx115_0 := bcell HB hx115_0
                  replace hx115_1 := bcell HB hx115_1
                  replace hx115_2 := bcell HB hx115_2
                  replace p115 := eq_true p115
                  replace q115 := eq_true q115
                  go_upto_if 42 with (first | ((with_reducible refine gate_callee (f := 35) rfl ?_); refine goesL_ (some 42) rfl rfl Tryd.func35 (by kernel_rfl) rfl #[.int .i64 ((rd_T29 l0 x4_1).f0)] rfl argsA ?_; (with_reducible refine (spec_l1Root.calls ((rd_T29 l0 x4_1).f0) t116 _ A20.out).mono ?_); rintro e w' ⟨rfl, ⟨nd, rfl⟩⟩; refine ⟨_, rfl, ?_⟩))
                  (try simp only [Act.put, List.setIfInBounds_toArray, List.set_cons_zero, List.set_cons_succ])
                  go_cut [3] (fun v3 wc => ∃ (kq : Nat) (x3_20 : Int), v3 = .int .i64 x3_20 ∧ Aside0 (spec_TreeOk.j2 kq l0 x3_20 x4_1 = some r) ∧ Aside0 (kq ≤ kj2) ∧ Aside0 (Below w.heap.size w wc))
                  case first =>
                    have H := HC21.out
                    clear HC21
                    by_cases c22 : t116 = true
                    · subst c22
                      have H1 : (if ((rd_T29 l0 x4_1).f0) = (wrap64 (x3_1 + 1)) then (spec_TreeOk.j2 kj2 l0 (wrap64 (x3_1 + 1)) x4_1) else (some false)) = some r := by rw [if_pos rfl] at H; exact H
                      clear H
                      have H := H1
                      clear H1
                      by_cases c23 : ((rd_T29 l0 x4_1).f0) = (wrap64 (x3_1 + 1))
                      · rw [if_pos c23] at H
                        have c23b0 : (((rd_T29 l0 x4_1).f0) == (wrap64 (x3_1 + 1))) = true := beq_iff_eq.mpr c23
                        have c23b1 : (((rd_T29 l0 x4_1).f0) != (wrap64 (x3_1 + 1))) = false := bne_eq_false_iff_eq.mpr c23
                        clear c23
                        (first | rw [c23b0] | (simp only [i64_w, i32_w]; rw [c23b0]) | skip)
                        have H' := Aside0.mk H
                        clear H
                        have p117 : 0 ≤ (x4_1 : Int) := of_decide_eq_true (by first | (with_reducible assumption) | assumption)
                        have q117 : x4_1 < (l0.length : Int) := of_decide_eq_true (by first | (with_reducible assumption) | assumption)
                        obtain ⟨ad117, e117, hx117_0, hx117_1, hx117_2⟩ := at_T29 HR0.out x4_1 p117 q117
                        obtain rfl : ad115 = ad117 := (by injection e117)
                        replace hx117_0 := bcell HB hx117_0
                        replace hx117_1 := bcell HB hx117_1
                        replace hx117_2 := bcell HB hx117_2
                        replace p117 := eq_true p117
                        replace q117 := eq_true q117
                        go_wp2
                        go_meet
                        case rel => exact ⟨_, (wrap64 (x3_1 + 1)), (by first | rfl | (simp; done) | (simp [*]; done)), H', ⟨by have := HK1.out; have := HJ2.out; first | omega | exact Nat.le_refl _⟩, ⟨belowA⟩⟩
                      · rw [if_neg c23] at H
                        have c23b0 : (((rd_T29 l0 x4_1).f0) == (wrap64 (x3_1 + 1))) = false := beq_eq_false_iff_ne.mpr c23
                        have c23b1 : (((rd_T29 l0 x4_1).f0) != (wrap64 (x3_1 + 1))) = true := bne_iff_ne.mpr c23
                        (first | rw [c23b0] | (simp only [i64_w, i32_w]; rw [c23b0]) | skip)
                        obtain rfl := Option.some.inj H
                        have p117 : 0 ≤ (x4_1 : Int) := of_decide_eq_true (by first | (with_reducible assumption) | assumption)
                        have q117 : x4_1 < (l0.length : Int) := of_decide_eq_true (by first | (with_reducible assumption) | assumption)
                        obtain ⟨ad117, e117, hx117_0, hx117_1, hx117_2⟩ := at_T29 HR0.out x4_1 p117 q117
                        obtain rfl : ad115 = ad117 := (by injection e117)
                        replace hx117_0 := bcell HB hx117_0
                        replace hx117_1 := bcell HB hx117_1
                        replace hx117_2 := bcell HB hx117_2
                        replace p117 := eq_true p117
                        replace q117 := eq_true q117
                        go_wp2
                        go_ret
                        exact ⟨endA, belowA⟩
                    · replace c22 := Bool.eq_false_iff.mpr c22
                      subst c22
                      have H1 : (spec_TreeOk.j2 kj2 l0 x3_1 x4_1) = some r := by rw [if_neg (show ¬ (false = true) by decide)] at H; exact H
                      clear H
                      have H := H1
                      clear H1
                      have H' := Aside0.mk H
                      clear H
                      go_wp2
                      go_meet
                      case rel => exact ⟨_, (x3_1), (by first | rfl | (simp; done) | (simp [*]; done)), H', ⟨by have := HK1.out; have := HJ2.out; first | omega | exact Nat.le_refl _⟩, ⟨belowA⟩⟩
                  case rest =>
                    clear HC21
                    try clear c1
                    try clear p1
                    try clear q1
                    try clear hx1
                    try clear c2
                    try clear p2
                    try clear c3
                    try clear c4
                    try clear c6
                    try clear p6
                    try clear c7
                    try clear c7b0
                    try clear c9
                    try clear c10
                    try clear p11
                    try clear q11
                    try clear hx11
                    try clear c17
                    try clear c18
                    try clear c18b0
                    try clear c19
                    try clear c19b0
                    try clear c22
                    try clear c23
                    try clear c23b0
                    try clear c23b1
                    try clear hx111_0
                    try clear hx111_1
                    try clear hx111_2
                    try clear hx113_0
                    try clear hx113_1
                    try clear hx113_2
                    try clear hx114_0
                    try clear hx114_1
                    try clear hx114_2
                    try clear hx115_0
                    try clear hx115_1
                    try clear hx115_2
                    try clear hx117_0
                    try clear hx117_1
                    try clear hx117_2
                    try clear p1
                    try clear p11
                    try clear p111
                    try clear p114
                    try clear p115
                    try clear p117
                    try clear p2
                    try clear p6
                    try clear q1
                    try clear q11
                    try clear q111
                    try clear q114
                    try clear q115
                    try clear q117
                    obtain ⟨kq, x3_20, rfl, HA, HJ20, HB⟩ := hcut
                    cases kq with
                    | zero => exact absurd HA.out (by simp [spec_TreeOk.j2])
                    | succ kj20 =>
                      have H := HA.out
                      clear HA
                      simp only [spec_TreeOk.j2] at H
                      have H' := Aside0.mk H
                      clear H
                      go_wp2
                      go_loopg [5] kj20 (fun kq v5 w' => ∃ (x5_4 : Int), v5 = .int .i64 x5_4 ∧ Aside0 (spec_TreeOk.l1 kq l0 x3_20 x4_1 x5_4 = some r) ∧ Aside0 (kq ≤ kj20) ∧ Aside0 (Below w.heap.size w w'))
                      case atStart => exact ⟨(0), (by first | rfl | (simp; done) | (simp [*]; done)), H', ⟨Nat.le_refl _⟩, ⟨belowA⟩⟩
                      case round =>
                        clear H'
                        try clear c1
                        try clear p1
                        try clear q1
                        try clear hx1
                        try clear c2
                        try clear p2
                        try clear c3
                        try clear c4
                        try clear c6
                        try clear p6
                        try clear c7
                        try clear c7b0
                        try clear c9
                        try clear c10
                        try clear p11
                        try clear q11
                        try clear hx11
                        try clear c17
                        try clear c18
                        try clear c18b0
                        try clear c19
                        try clear c19b0
                        try clear c22
                        try clear c23
                        try clear c23b0
                        try clear c23b1
                        try clear hx111_0
                        try clear hx111_1
                        try clear hx111_2
                        try clear hx113_0
                        try clear hx113_1
                        try clear hx113_2
                        try clear hx114_0
                        try clear hx114_1
                        try clear hx114_2
                        try clear hx115_0
                        try clear hx115_1
                        try clear hx115_2
                        try clear hx117_0
                        try clear hx117_1
                        try clear hx117_2
                        try clear p1
                        try clear p11
                        try clear p111
                        try clear p114
                        try clear p115
                        try clear p117
                        try clear p2
                        try clear p6
                        try clear q1
                        try clear q11
                        try clear q111
                        try clear q114
                        try clear q115
                        try clear q117
                        obtain ⟨x5_4, rfl, HA, HK4, HB⟩ := hrel
                        cases gk with
                        | zero => exact absurd HA.out (by simp [spec_TreeOk.l1])
                        | succ k4 =>
                          have H := HA.out
                          clear HA
                          simp only [spec_TreeOk.l1] at H
                          by_cases c24 : x5_4 < x4_1
                          · rw [if_pos c24] at H
                            have c24b0 : decide (x5_4 < x4_1) = true := decide_eq_true c24
                            clear c24
                            by_cases c25 : 0 ≤ x5_4
                            · rw [if_pos c25] at H
                              have c25b0 : decide (0 ≤ x5_4) = true := decide_eq_true c25
                              clear c25
                              by_cases c26 : x5_4 < (l0.length : Int)
                              · rw [if_pos c26] at H
                                have c26b0 : decide (x5_4 < (l0.length : Int)) = true := decide_eq_true c26
                                clear c26
                                by_cases c27 : 0 ≤ x4_1
                                · rw [if_pos c27] at H
                                  have c27b0 : decide (0 ≤ x4_1) = true := decide_eq_true c27
                                  clear c27
                                  by_cases c28 : x4_1 < (l0.length : Int)
                                  · rw [if_pos c28] at H
                                    have c28b0 : decide (x4_1 < (l0.length : Int)) = true := decide_eq_true c28
                                    clear c28
                                    by_cases c29 : ((rd_T29 l0 x5_4).f0) = ((rd_T29 l0 x4_1).f0)
                                    · rw [if_pos c29] at H
                                      have c29b0 : (((rd_T29 l0 x5_4).f0) == ((rd_T29 l0 x4_1).f0)) = true := beq_iff_eq.mpr c29
                                      have c29b1 : (((rd_T29 l0 x5_4).f0) != ((rd_T29 l0 x4_1).f0)) = false := bne_eq_false_iff_eq.mpr c29
                                      clear c29
                                      obtain rfl := Option.some.inj H
                                      try go_wp2
                                      have n0_ := Aside0.mk (below_drew1 HB.out)
                                      clear HB
                                      have HB := n0_
                                      clear n0_
                                      have p118 : 0 ≤ (x5_4 : Int) := of_decide_eq_true (by first | (with_reducible assumption) | assumption)
                                      have q118 : x5_4 < (l0.length : Int) := of_decide_eq_true (by first | (with_reducible assumption) | assumption)
                                      obtain ⟨ad118, e118, hx118_0, hx118_1, hx118_2⟩ := at_T29 HR0.out x5_4 p118 q118
                                      have hw118_2 := hx118_2
                                      have hw118_1 := hx118_1
                                      have hw118_0 := hx118_0
                                      obtain rfl : ad115 = ad118 := (by injection e118)
                                      replace hx118_0 := bcell HB hx118_0
                                      replace hx118_1 := bcell HB hx118_1
                                      replace hx118_2 := bcell HB hx118_2
                                      replace p118 := eq_true p118
                                      replace q118 := eq_true q118
                                      have p119 : 0 ≤ (x4_1 : Int) := of_decide_eq_true (by first | (with_reducible assumption) | assumption)
                                      have q119 : x4_1 < (l0.length : Int) := of_decide_eq_true (by first | (with_reducible assumption) | assumption)
                                      obtain ⟨ad119, e119, hx119_0, hx119_1, hx119_2⟩ := at_T29 HR0.out x4_1 p119 q119
                                      have hw119_2 := hx119_2
                                      have hw119_1 := hx119_1
                                      have hw119_0 := hx119_0
                                      obtain rfl : ad115 = ad119 := (by injection e119)
                                      replace hx119_0 := bcell HB hx119_0
                                      replace hx119_1 := bcell HB hx119_1
                                      replace hx119_2 := bcell HB hx119_2
                                      replace p119 := eq_true p119
                                      replace q119 := eq_true q119
                                      refine start_ (n := 11) (S := fun w' => w'.cell? (ad115.add ((x5_4).toNat * 3)) = some (.int .i64 ((rd_T29 l0 x5_4).f0)) ∧ w'.cell? ⟨(ad115.add ((x5_4).toNat * 3)).block, (ad115.add ((x5_4).toNat * 3)).off + 1, none⟩ = some (.int .i64 ((rd_T29 l0 x5_4).f1)) ∧ w'.cell? ⟨(ad115.add ((x5_4).toNat * 3)).block, (ad115.add ((x5_4).toNat * 3)).off + 2, none⟩ = some (.string ((rd_T29 l0 x5_4).f2)) ∧ w'.cell? (ad115.add ((x4_1).toNat * 3)) = some (.int .i64 ((rd_T29 l0 x4_1).f0)) ∧ w'.cell? ⟨(ad115.add ((x4_1).toNat * 3)).block, (ad115.add ((x4_1).toNat * 3)).off + 1, none⟩ = some (.int .i64 ((rd_T29 l0 x4_1).f1)) ∧ w'.cell? ⟨(ad115.add ((x4_1).toNat * 3)).block, (ad115.add ((x4_1).toNat * 3)).off + 2, none⟩ = some (.string ((rd_T29 l0 x4_1).f2))) (ds := []) (tf 0 11) (by kernel_rfl) rfl rfl ⟨(bcellD HB hw118_0), (bcellD HB hw118_1), (bcellD HB hw118_2), (bcellD HB hw119_0), (bcellD HB hw119_1), (bcellD HB hw119_2)⟩ (fun hHeld => ?_); refine with_tabW spec_TreeOk.tab14 spec_TreeOk.bits14 (fun HT_ HW_ => ?_)
                                      generalize wr.drew = w30 at HB hx118_0 hx118_1 hx118_2 hx119_0 hx119_1 hx119_2 hHeld ⊢
                                      refine pure_ (i := 0) (N := some 57) (tf 1 10) rfl rfl (anA HT_) (fun _ _ _ h => h) yldA putA ?_
                                      refine pure_ (i := 1) (N := some 58) (tf 2 9) rfl rfl (anA HT_) (fun _ _ _ h => h) yldA putA ?_
                                      refine pure_ (i := 2) (N := some 59) (tf 3 8) rfl rfl (anA HT_) (fun _ _ _ h => h) yldA putA ?_
                                      refine pure_ (i := 3) (N := some 60) (tf 4 7) rfl rfl (anA HT_) (fun _ _ _ h => h) yldA putA ?_
                                      refine pure_ (i := 5) (N := some 62) #[true, true, true, true, false, true, false, false, false, false, false] rfl rfl (anA HT_) (fun _ _ _ h => h) yldA putA ?_
                                      refine pure_ (i := 6) (N := some 63) #[true, true, true, true, false, true, true, false, false, false, false] rfl rfl (anA HT_) (fun _ _ _ h => h) yldA putA ?_
                                      refine pure_ (i := 7) (N := some 64) #[true, true, true, true, false, true, true, true, false, false, false] rfl rfl (anA HT_) (fun _ _ _ h => h) yldA putA ?_
                                      refine pure_ (i := 8) (N := some 65) #[true, true, true, true, false, true, true, true, true, false, false] rfl rfl (anA HT_) (fun _ _ _ h => h) yldA putA ?_
                                      refine take_ (i := 4) (N := some 61) (tf 9 2) rfl rfl (take_ofW HT_.out HW_.out (by kernel_rfl)) (fun _ _ _ h => h) (Or.inl ⟨by rfl, by rintro w' ⟨s0, s1, s2, s3, s4, s5⟩; go_simp; with_reducible rfl⟩) hHeld putA ?_
                                      refine take_ (i := 9) (N := some 66) (tf 10 1) rfl rfl (take_ofW HT_.out HW_.out (by kernel_rfl)) (fun _ _ _ h => h) (Or.inl ⟨by rfl, by rintro w' ⟨s0, s1, s2, s3, s4, s5⟩; go_simp; with_reducible rfl⟩) hHeld putA ?_
                                      refine pure_ (i := 10) (N := some 67) (tf 11 0) rfl rfl (anA HT_) (fun _ _ _ h => h) yldA putA ?_
                                      refine done_ (done_of HT_.out (by kernel_rfl)) ?_
                                      try go_wp2
                                      go_ret
                                      exact ⟨endA, belowA⟩
                                    · rw [if_neg c29] at H
                                      have c29b0 : (((rd_T29 l0 x5_4).f0) == ((rd_T29 l0 x4_1).f0)) = false := beq_eq_false_iff_ne.mpr c29
                                      have c29b1 : (((rd_T29 l0 x5_4).f0) != ((rd_T29 l0 x4_1).f0)) = true := bne_iff_ne.mpr c29
                                      have H' := Aside0.mk H
                                      clear H
                                      try go_wp2
                                      have n0_ := Aside0.mk (below_drew1 HB.out)
                                      clear HB
                                      have HB := n0_
                                      clear n0_
                                      have p118 : 0 ≤ (x5_4 : Int) := of_decide_eq_true (by first | (with_reducible assumption) | assumption)
                                      have q118 : x5_4 < (l0.length : Int) := of_decide_eq_true (by first | (with_reducible assumption) | assumption)
                                      obtain ⟨ad118, e118, hx118_0, hx118_1, hx118_2⟩ := at_T29 HR0.out x5_4 p118 q118
                                      have hw118_2 := hx118_2
                                      have hw118_1 := hx118_1
                                      have hw118_0 := hx118_0
                                      obtain rfl : ad115 = ad118 := (by injection e118)
                                      replace hx118_0 := bcell HB hx118_0
                                      replace hx118_1 := bcell HB hx118_1
                                      replace hx118_2 := bcell HB hx118_2
                                      replace p118 := eq_true p118
                                      replace q118 := eq_true q118
                                      have p119 : 0 ≤ (x4_1 : Int) := of_decide_eq_true (by first | (with_reducible assumption) | assumption)
                                      have q119 : x4_1 < (l0.length : Int) := of_decide_eq_true (by first | (with_reducible assumption) | assumption)
                                      obtain ⟨ad119, e119, hx119_0, hx119_1, hx119_2⟩ := at_T29 HR0.out x4_1 p119 q119
                                      have hw119_2 := hx119_2
                                      have hw119_1 := hx119_1
                                      have hw119_0 := hx119_0
                                      obtain rfl : ad115 = ad119 := (by injection e119)
                                      replace hx119_0 := bcell HB hx119_0
                                      replace hx119_1 := bcell HB hx119_1
                                      replace hx119_2 := bcell HB hx119_2
                                      replace p119 := eq_true p119
                                      replace q119 := eq_true q119
                                      refine start_ (n := 11) (S := fun w' => w'.cell? (ad115.add ((x5_4).toNat * 3)) = some (.int .i64 ((rd_T29 l0 x5_4).f0)) ∧ w'.cell? ⟨(ad115.add ((x5_4).toNat * 3)).block, (ad115.add ((x5_4).toNat * 3)).off + 1, none⟩ = some (.int .i64 ((rd_T29 l0 x5_4).f1)) ∧ w'.cell? ⟨(ad115.add ((x5_4).toNat * 3)).block, (ad115.add ((x5_4).toNat * 3)).off + 2, none⟩ = some (.string ((rd_T29 l0 x5_4).f2)) ∧ w'.cell? (ad115.add ((x4_1).toNat * 3)) = some (.int .i64 ((rd_T29 l0 x4_1).f0)) ∧ w'.cell? ⟨(ad115.add ((x4_1).toNat * 3)).block, (ad115.add ((x4_1).toNat * 3)).off + 1, none⟩ = some (.int .i64 ((rd_T29 l0 x4_1).f1)) ∧ w'.cell? ⟨(ad115.add ((x4_1).toNat * 3)).block, (ad115.add ((x4_1).toNat * 3)).off + 2, none⟩ = some (.string ((rd_T29 l0 x4_1).f2))) (ds := []) (tf 0 11) (by kernel_rfl) rfl rfl ⟨(bcellD HB hw118_0), (bcellD HB hw118_1), (bcellD HB hw118_2), (bcellD HB hw119_0), (bcellD HB hw119_1), (bcellD HB hw119_2)⟩ (fun hHeld => ?_); refine with_tabW spec_TreeOk.tab14 spec_TreeOk.bits14 (fun HT_ HW_ => ?_)
                                      generalize wr.drew = w31 at HB hx118_0 hx118_1 hx118_2 hx119_0 hx119_1 hx119_2 hHeld ⊢
                                      refine pure_ (i := 0) (N := some 57) (tf 1 10) rfl rfl (anA HT_) (fun _ _ _ h => h) yldA putA ?_
                                      refine pure_ (i := 1) (N := some 58) (tf 2 9) rfl rfl (anA HT_) (fun _ _ _ h => h) yldA putA ?_
                                      refine pure_ (i := 2) (N := some 59) (tf 3 8) rfl rfl (anA HT_) (fun _ _ _ h => h) yldA putA ?_
                                      refine pure_ (i := 3) (N := some 60) (tf 4 7) rfl rfl (anA HT_) (fun _ _ _ h => h) yldA putA ?_
                                      refine pure_ (i := 5) (N := some 62) #[true, true, true, true, false, true, false, false, false, false, false] rfl rfl (anA HT_) (fun _ _ _ h => h) yldA putA ?_
                                      refine pure_ (i := 6) (N := some 63) #[true, true, true, true, false, true, true, false, false, false, false] rfl rfl (anA HT_) (fun _ _ _ h => h) yldA putA ?_
                                      refine pure_ (i := 7) (N := some 64) #[true, true, true, true, false, true, true, true, false, false, false] rfl rfl (anA HT_) (fun _ _ _ h => h) yldA putA ?_
                                      refine pure_ (i := 8) (N := some 65) #[true, true, true, true, false, true, true, true, true, false, false] rfl rfl (anA HT_) (fun _ _ _ h => h) yldA putA ?_
                                      refine take_ (i := 4) (N := some 61) (tf 9 2) rfl rfl (take_ofW HT_.out HW_.out (by kernel_rfl)) (fun _ _ _ h => h) (Or.inl ⟨by rfl, by rintro w' ⟨s0, s1, s2, s3, s4, s5⟩; go_simp; with_reducible rfl⟩) hHeld putA ?_
                                      refine take_ (i := 9) (N := some 66) (tf 10 1) rfl rfl (take_ofW HT_.out HW_.out (by kernel_rfl)) (fun _ _ _ h => h) (Or.inl ⟨by rfl, by rintro w' ⟨s0, s1, s2, s3, s4, s5⟩; go_simp; with_reducible rfl⟩) hHeld putA ?_
                                      refine pure_ (i := 10) (N := some 67) (tf 11 0) rfl rfl (anA HT_) (fun _ _ _ h => h) yldA putA ?_
                                      refine done_ (done_of HT_.out (by kernel_rfl)) ?_
                                      try go_wp2
                                      go_roundg k4
                                      case measure => have := HK1.out; have := HJ2.out; have := HJ20.out; have := HK4.out; omega
                                      case rel => exact ⟨(wrap64 (x5_4 + 1)), (by first | rfl | (simp; done) | (simp [*]; done)), H', ⟨by have := HK1.out; have := HJ2.out; have := HJ20.out; have := HK4.out; omega⟩, ⟨belowA⟩⟩
                                  · rw [if_neg c28] at H
                                    exact absurd H (by simp)
                                · rw [if_neg c27] at H
                                  exact absurd H (by simp)
                              · rw [if_neg c26] at H
                                exact absurd H (by simp)
                            · rw [if_neg c25] at H
                              exact absurd H (by simp)
                          · rw [if_neg c24] at H
                            have c24b0 : decide (x5_4 < x4_1) = false := decide_eq_false c24
                            clear c24
                            have H' := Aside0.mk H
                            clear H
                            go_wp2
                            go_roundg k4
                            case measure => have := HK1.out; have := HJ2.out; have := HJ20.out; have := HK4.out; omega
                            case rel => exact ⟨(x3_20), (wrap64 (x4_1 + 1)), (by first | rfl | (simp; done) | (simp [*]; done)), (by first | rfl | (simp; done) | (simp [*]; done)), H', ⟨by have := HK1.out; have := HJ2.out; have := HJ20.out; have := HK4.out; omega⟩, ⟨belowA⟩⟩
                · rw [if_neg c19] at H
                  exact absurd H (by simp)
              · rw [if_neg c18] at H
                exact absurd H (by simp)
      · rw [if_neg c2] at H
        have c2b0 : decide (x4_1 < (l0.length : Int)) = false := decide_eq_false c2
        clear c2
        by_cases c32 : x3_1 = 3
        · rw [if_pos c32] at H
          have c32b0 : (x3_1 == 3) = true := beq_iff_eq.mpr c32
          have c32b1 : (x3_1 != 3) = false := bne_eq_false_iff_eq.mpr c32
          clear c32
          by_cases c33 : 0 < (l0.length : Int)
          · rw [if_pos c33] at H
            have c33b0 : decide (0 < (l0.length : Int)) = true := decide_eq_true c33
            have c33b1 : decide (0 < l0.length) = true := decide_eq_true (by omega)
            clear c33
            obtain rfl := Option.some.inj H
            have p110 : 0 ≤ (0 : Int) := (by omega)
            have q110 : 0 < (l0.length : Int) := of_decide_eq_true (by first | (with_reducible assumption) | assumption)
            obtain ⟨ad110, e110, hx110_0, hx110_1, hx110_2⟩ := at_T29 HR0.out 0 p110 q110
            cases e110
            have qi110 : (0 < l0.length) = True := eq_true (by omega)
            (try rw [show ((0 : Int)).toNat = 0 from rfl] at hx110_0)
            (try rw [show 0 * 3 = 0 from rfl] at hx110_0)
            (try rw [Addr.add_zero'] at hx110_0)
            (try rw [show ((0 : Int)).toNat = 0 from rfl] at hx110_1)
            (try rw [show 0 * 3 = 0 from rfl] at hx110_1)
            (try rw [Addr.add_zero'] at hx110_1)
            (try rw [show ((0 : Int)).toNat = 0 from rfl] at hx110_2)
            (try rw [show 0 * 3 = 0 from rfl] at hx110_2)
            (try rw [Addr.add_zero'] at hx110_2)
            replace hx110_0 := bcell HB hx110_0
            replace hx110_1 := bcell HB hx110_1
            replace hx110_2 := bcell HB hx110_2
            replace p110 := eq_true p110
            replace q110 := eq_true q110
            go_wp2
            go_ret
            exact ⟨endA, belowA⟩
          · rw [if_neg c33] at H
            exact absurd H (by simp)
        · rw [if_neg c32] at H
          have c32b0 : (x3_1 == 3) = false := beq_eq_false_iff_ne.mpr c32
          have c32b1 : (x3_1 != 3) = true := bne_iff_ne.mpr c32
          obtain rfl := Option.some.inj H
          go_wp2
          go_ret
          exact ⟨endA, belowA⟩

end Go.Proofs.YtdapbpgooehibaaDoor.P
