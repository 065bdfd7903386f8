-- Written by wip/tools/pprint.py (a program of this session) over the kit's printer; not trusted: Lean checks it.
import Derived.Test.YtdapbpgooehibaaDoorPx0
import Derived.Test.YtdapbpgooehibaaDoorTreeW
import Derived.Test.YtdapbpgooehibaaDoorPx1
import Derived.Test.YtdapbpgooehibaaDoorPx4
import Derived.Test.YtdapbpgooehibaaDoorPx5
import Derived.Test.YtdapbpgooehibaaDoorPx6
import Derived.Test.YtdapbpgooehibaaDoorV
namespace Go.Proofs.YtdapbpgooehibaaDoor.P
open Go.RowKit Go.Proofs.YtdapbpgooehibaaDoorW.PrintWords Go.Proofs.YtdapbpgooehibaaDoorW.PrintLast Go.Proofs.YtdapbpgooehibaaDoorW.PrintMore
attribute [local go_sem] cell_set_set cell_set_far_set max2_int min2_int max_two min_two max_three min_three max_four min_four   -- for this text's walks alone
set_option linter.unusedVariables false
set_option linter.unusedSimpArgs false

/-! ### spec_l71Tree: function 30 -/
mutual
def spec_l71Tree.l0 : Nat → List (S29) → Int → List Int → Int → Option ((List (S29)) × Int)
  | 0, _, _, _, _ => none
  | k + 1, x3, x4, x1000, x1001 => if x4 > 0 then (if (x3.length : Int) > 3 then ((spec_l6Rd_pick.f k x1000 x1001 3).bind fun bt279 => (spec_l71Tree.j1 k x3 x4 1 (decide (bt279.1 > 0)) x1000 bt279.2)) else (spec_l71Tree.j1 k x3 x4 1 false x1000 x1001)) else (spec_l71Tree.l1 k x3 0 x1000 x1001)
def spec_l71Tree.j1 : Nat → List (S29) → Int → Int → Bool → List Int → Int → Option ((List (S29)) × Int)
  | 0, _, _, _, _, _, _ => none
  | k + 1, x3, x4, x5, x23, x1000, x1001 => if x23 = true then ((spec_l6Rd_pick.f k x1000 x1001 (x3.length : Int)).bind fun bt281 => (if 0 ≤ bt281.1 then (if bt281.1 < (x3.length : Int) then (spec_l71Tree.j2 k x3 x4 ((rd_T29 x3 bt281.1).f0) x1000 bt281.2) else (none)) else (none))) else (spec_l71Tree.j2 k x3 x4 x5 x1000 x1001)
def spec_l71Tree.j2 : Nat → List (S29) → Int → Int → List Int → Int → Option ((List (S29)) × Int)
  | 0, _, _, _, _, _ => none
  | k + 1, x3, x4, x5, x1000, x1001 => (spec_l2Kids.f k x3 x5).bind fun t284 => (if (t284.length : Int) > 0 then ((spec_l6Rd_pick.f k x1000 x1001 2).bind fun bt287 => (spec_l71Tree.j3 k x3 x4 x5 t284 0 (bt287.1 == 0) x1000 bt287.2)) else (spec_l71Tree.j3 k x3 x4 x5 t284 0 false x1000 x1001))
def spec_l71Tree.j3 : Nat → List (S29) → Int → Int → List Int → Int → Bool → List Int → Int → Option ((List (S29)) × Int)
  | 0, _, _, _, _, _, _, _, _ => none
  | k + 1, x3, x4, x5, x6, x7, x42, x1000, x1001 => if x42 = true then ((spec_l6Rd_pick.f k x1000 x1001 (x6.length : Int)).bind fun bt289 => (if 0 ≤ bt289.1 then (if bt289.1 < (x6.length : Int) then ((spec_l71Id.f k x1000 bt289.2).bind fun bt292 => ((spec_l71Text.f k x1000 bt292.2).bind fun bt294 => ((spec_l3Do.f k x3 1 bt292.1 x5 (rd x6 bt289.1) bt294.1).bind fun t296 => (spec_l71Tree.l0 k t296 (wrap64 (x4 - 1)) x1000 bt294.2)))) else (none)) else (none))) else ((spec_l71Id.f k x1000 x1001).bind fun bt299 => ((spec_l71Text.f k x1000 bt299.2).bind fun bt301 => ((spec_l3Do.f k x3 1 bt299.1 x5 x7 bt301.1).bind fun t303 => (spec_l71Tree.l0 k t303 (wrap64 (x4 - 1)) x1000 bt301.2))))
def spec_l71Tree.l1 : Nat → List (S29) → Int → List Int → Int → Option ((List (S29)) × Int)
  | 0, _, _, _, _ => none
  | k + 1, x3, x8, x1000, x1001 => if x8 < (x3.length : Int) then (if 0 ≤ x8 then ((spec_l1Text.f k ((rd_T29 x3 x8).f2)).bind fun t307 => (if t307 = true then (spec_l71Tree.l1 k x3 (wrap64 (x8 + 1)) x1000 x1001) else ((spec_l6Rd_pick.f k x1000 x1001 2).bind fun bt308 => (if bt308.1 = 0 then (spec_l71Tree.l1 k (x3.set (x8 : Int).toNat (⟨(rd_T29 x3 x8).f0, (rd_T29 x3 x8).f1, (⟨#[]⟩ : ByteArray)⟩ : S29)) (wrap64 (x8 + 1)) x1000 bt308.2) else (spec_l71Tree.l1 k x3 (wrap64 (x8 + 1)) x1000 bt308.2))))) else (none)) else ((spec_l6Rd_pick.f k x1000 x1001 24).bind fun bt311 => (if bt311.1 = 0 then ((spec_l6Rd_pick.f k x1000 bt311.2 (x3.length : Int)).bind fun bt313 => ((spec_l6Rd_pick.f k x1000 bt313.2 5).bind fun bt315 => (if 0 ≤ bt313.1 then (if bt313.1 < (x3.length : Int) then (some ((x3.set (bt313.1 : Int).toNat (⟨(rd_T29 x3 bt313.1).f0, bt315.1, (rd_T29 x3 bt313.1).f2⟩ : S29)), bt315.2)) else (none)) else (none)))) else (if bt311.1 = 1 then ((spec_l6Rd_pick.f k x1000 bt311.2 (x3.length : Int)).bind fun bt318 => (if 0 ≤ bt318.1 then (if bt318.1 < (x3.length : Int) then (if x3.length < 4398046511104 then (some ((x3 ++ [(⟨(rd_T29 x3 bt318.1).f0, (rd_T29 x3 bt318.1).f1, (rd_T29 x3 bt318.1).f2⟩ : S29)]), bt318.2)) else (none)) else (none)) else (none))) else (if bt311.1 = 2 then (if 1 ≤ (x3.length : Int) then (some ((x3.drop (1 : Int).toNat), bt311.2)) else (none)) else (some (x3, bt311.2))))))
end
def spec_l71Tree.f (k : Nat) (s0_0 : List Int) (s0_1 : Int) : Option ((List (S29)) × Int) := (spec_TreeNew.f).bind fun t274 => ((spec_l6Rd_pick.f k s0_0 s0_1 11).bind fun bt277 => (spec_l71Tree.l0 k t274 bt277.1 s0_0 bt277.2))
theorem spec_l71Tree.mono_l : ∀ k, (∀ y0 y1 y2 y3, LeO (spec_l71Tree.l0 k y0 y1 y2 y3) (spec_l71Tree.l0 (k + 1) y0 y1 y2 y3)) ∧ (∀ y0 y1 y2 y3 y4 y5, LeO (spec_l71Tree.j1 k y0 y1 y2 y3 y4 y5) (spec_l71Tree.j1 (k + 1) y0 y1 y2 y3 y4 y5)) ∧ (∀ y0 y1 y2 y3 y4, LeO (spec_l71Tree.j2 k y0 y1 y2 y3 y4) (spec_l71Tree.j2 (k + 1) y0 y1 y2 y3 y4)) ∧ (∀ y0 y1 y2 y3 y4 y5 y6 y7, LeO (spec_l71Tree.j3 k y0 y1 y2 y3 y4 y5 y6 y7) (spec_l71Tree.j3 (k + 1) y0 y1 y2 y3 y4 y5 y6 y7)) ∧ (∀ y0 y1 y2 y3, LeO (spec_l71Tree.l1 k y0 y1 y2 y3) (spec_l71Tree.l1 (k + 1) y0 y1 y2 y3))
  | 0 => ⟨fun _ _ _ _ r h => by simp [spec_l71Tree.l0] at h, fun _ _ _ _ _ _ r h => by simp [spec_l71Tree.j1] at h, fun _ _ _ _ _ r h => by simp [spec_l71Tree.j2] at h, fun _ _ _ _ _ _ _ _ r h => by simp [spec_l71Tree.j3] at h, fun _ _ _ _ r h => by simp [spec_l71Tree.l1] at h⟩
  | k + 1 => by
    obtain ⟨ih0, ih1, ih2, ih3, ih4⟩ := spec_l71Tree.mono_l k
    refine ⟨?_, ?_, ?_, ?_, ?_⟩
    · intro y0 y1 y2 y3
      unfold spec_l71Tree.l0
      repeat' first
      | (with_reducible exact ih0 _ _ _ _)
      | (with_reducible exact ih1 _ _ _ _ _ _)
      | (with_reducible exact ih2 _ _ _ _ _)
      | (with_reducible exact ih3 _ _ _ _ _ _ _ _)
      | (with_reducible exact ih4 _ _ _ _)
      | (with_reducible exact spec_l1Text.mono _ _)
      | (with_reducible exact spec_l2Kids.mono _ _ _)
      | (with_reducible exact spec_l3Do.mono _ _ _ _ _ _ _)
      | (with_reducible exact spec_l6Rd_pick.mono _ _ _ _)
      | (with_reducible exact spec_l71Id.mono _ _ _)
      | (with_reducible exact spec_l71Text.mono _ _ _)
      | (with_reducible exact LeO.refl _)
      | (with_reducible exact LeO.none _)
      | (with_reducible refine LeO.ite ?_ ?_)
      | (with_reducible refine LeO.bind ?_ (fun _ => ?_))
      | exact ih0 _ _ _ _
      | exact ih1 _ _ _ _ _ _
      | exact ih2 _ _ _ _ _
      | exact ih3 _ _ _ _ _ _ _ _
      | exact ih4 _ _ _ _
      | exact spec_l1Text.mono _ _
      | exact spec_l2Kids.mono _ _ _
      | exact spec_l3Do.mono _ _ _ _ _ _ _
      | exact spec_l6Rd_pick.mono _ _ _ _
      | exact spec_l71Id.mono _ _ _
      | exact spec_l71Text.mono _ _ _
      | exact LeO.none _
      | refine LeO.ite ?_ ?_
      | refine LeO.bind ?_ (fun _ => ?_)
    · intro y0 y1 y2 y3 y4 y5
      unfold spec_l71Tree.j1
      repeat' first
      | (with_reducible exact ih0 _ _ _ _)
      | (with_reducible exact ih1 _ _ _ _ _ _)
      | (with_reducible exact ih2 _ _ _ _ _)
      | (with_reducible exact ih3 _ _ _ _ _ _ _ _)
      | (with_reducible exact ih4 _ _ _ _)
      | (with_reducible exact spec_l1Text.mono _ _)
      | (with_reducible exact spec_l2Kids.mono _ _ _)
      | (with_reducible exact spec_l3Do.mono _ _ _ _ _ _ _)
      | (with_reducible exact spec_l6Rd_pick.mono _ _ _ _)
      | (with_reducible exact spec_l71Id.mono _ _ _)
      | (with_reducible exact spec_l71Text.mono _ _ _)
      | (with_reducible exact LeO.refl _)
      | (with_reducible exact LeO.none _)
      | (with_reducible refine LeO.ite ?_ ?_)
      | (with_reducible refine LeO.bind ?_ (fun _ => ?_))
      | exact ih0 _ _ _ _
      | exact ih1 _ _ _ _ _ _
      | exact ih2 _ _ _ _ _
      | exact ih3 _ _ _ _ _ _ _ _
      | exact ih4 _ _ _ _
      | exact spec_l1Text.mono _ _
      | exact spec_l2Kids.mono _ _ _
      | exact spec_l3Do.mono _ _ _ _ _ _ _
      | exact spec_l6Rd_pick.mono _ _ _ _
      | exact spec_l71Id.mono _ _ _
      | exact spec_l71Text.mono _ _ _
      | exact LeO.none _
      | refine LeO.ite ?_ ?_
      | refine LeO.bind ?_ (fun _ => ?_)
    · intro y0 y1 y2 y3 y4
      unfold spec_l71Tree.j2
      repeat' first
      | (with_reducible exact ih0 _ _ _ _)
      | (with_reducible exact ih1 _ _ _ _ _ _)
      | (with_reducible exact ih2 _ _ _ _ _)
      | (with_reducible exact ih3 _ _ _ _ _ _ _ _)
      | (with_reducible exact ih4 _ _ _ _)
      | (with_reducible exact spec_l1Text.mono _ _)
      | (with_reducible exact spec_l2Kids.mono _ _ _)
      | (with_reducible exact spec_l3Do.mono _ _ _ _ _ _ _)
      | (with_reducible exact spec_l6Rd_pick.mono _ _ _ _)
      | (with_reducible exact spec_l71Id.mono _ _ _)
      | (with_reducible exact spec_l71Text.mono _ _ _)
      | (with_reducible exact LeO.refl _)
      | (with_reducible exact LeO.none _)
      | (with_reducible refine LeO.ite ?_ ?_)
      | (with_reducible refine LeO.bind ?_ (fun _ => ?_))
      | exact ih0 _ _ _ _
      | exact ih1 _ _ _ _ _ _
      | exact ih2 _ _ _ _ _
      | exact ih3 _ _ _ _ _ _ _ _
      | exact ih4 _ _ _ _
      | exact spec_l1Text.mono _ _
      | exact spec_l2Kids.mono _ _ _
      | exact spec_l3Do.mono _ _ _ _ _ _ _
      | exact spec_l6Rd_pick.mono _ _ _ _
      | exact spec_l71Id.mono _ _ _
      | exact spec_l71Text.mono _ _ _
      | exact LeO.none _
      | refine LeO.ite ?_ ?_
      | refine LeO.bind ?_ (fun _ => ?_)
    · intro y0 y1 y2 y3 y4 y5 y6 y7
      unfold spec_l71Tree.j3
      repeat' first
      | (with_reducible exact ih0 _ _ _ _)
      | (with_reducible exact ih1 _ _ _ _ _ _)
      | (with_reducible exact ih2 _ _ _ _ _)
      | (with_reducible exact ih3 _ _ _ _ _ _ _ _)
      | (with_reducible exact ih4 _ _ _ _)
      | (with_reducible exact spec_l1Text.mono _ _)
      | (with_reducible exact spec_l2Kids.mono _ _ _)
      | (with_reducible exact spec_l3Do.mono _ _ _ _ _ _ _)
      | (with_reducible exact spec_l6Rd_pick.mono _ _ _ _)
      | (with_reducible exact spec_l71Id.mono _ _ _)
      | (with_reducible exact spec_l71Text.mono _ _ _)
      | (with_reducible exact LeO.refl _)
      | (with_reducible exact LeO.none _)
      | (with_reducible refine LeO.ite ?_ ?_)
      | (with_reducible refine LeO.bind ?_ (fun _ => ?_))
      | exact ih0 _ _ _ _
      | exact ih1 _ _ _ _ _ _
      | exact ih2 _ _ _ _ _
      | exact ih3 _ _ _ _ _ _ _ _
      | exact ih4 _ _ _ _
      | exact spec_l1Text.mono _ _
      | exact spec_l2Kids.mono _ _ _
      | exact spec_l3Do.mono _ _ _ _ _ _ _
      | exact spec_l6Rd_pick.mono _ _ _ _
      | exact spec_l71Id.mono _ _ _
      | exact spec_l71Text.mono _ _ _
      | exact LeO.none _
      | refine LeO.ite ?_ ?_
      | refine LeO.bind ?_ (fun _ => ?_)
    · intro y0 y1 y2 y3
      unfold spec_l71Tree.l1
      repeat' first
      | (with_reducible exact ih0 _ _ _ _)
      | (with_reducible exact ih1 _ _ _ _ _ _)
      | (with_reducible exact ih2 _ _ _ _ _)
      | (with_reducible exact ih3 _ _ _ _ _ _ _ _)
      | (with_reducible exact ih4 _ _ _ _)
      | (with_reducible exact spec_l1Text.mono _ _)
      | (with_reducible exact spec_l2Kids.mono _ _ _)
      | (with_reducible exact spec_l3Do.mono _ _ _ _ _ _ _)
      | (with_reducible exact spec_l6Rd_pick.mono _ _ _ _)
      | (with_reducible exact spec_l71Id.mono _ _ _)
      | (with_reducible exact spec_l71Text.mono _ _ _)
      | (with_reducible exact LeO.refl _)
      | (with_reducible exact LeO.none _)
      | (with_reducible refine LeO.ite ?_ ?_)
      | (with_reducible refine LeO.bind ?_ (fun _ => ?_))
      | exact ih0 _ _ _ _
      | exact ih1 _ _ _ _ _ _
      | exact ih2 _ _ _ _ _
      | exact ih3 _ _ _ _ _ _ _ _
      | exact ih4 _ _ _ _
      | exact spec_l1Text.mono _ _
      | exact spec_l2Kids.mono _ _ _
      | exact spec_l3Do.mono _ _ _ _ _ _ _
      | exact spec_l6Rd_pick.mono _ _ _ _
      | exact spec_l71Id.mono _ _ _
      | exact spec_l71Text.mono _ _ _
      | exact LeO.none _
      | refine LeO.ite ?_ ?_
      | refine LeO.bind ?_ (fun _ => ?_)
theorem spec_l71Tree.mono : ∀ a0 a1 k, LeO (spec_l71Tree.f k a0 a1) (spec_l71Tree.f (k + 1) a0 a1) := by
  intro a0 a1 k
  obtain ⟨ih0, ih1, ih2, ih3, ih4⟩ := spec_l71Tree.mono_l k
  unfold spec_l71Tree.f
  repeat' first
      | (with_reducible exact ih0 _ _ _ _)
      | (with_reducible exact ih1 _ _ _ _ _ _)
      | (with_reducible exact ih2 _ _ _ _ _)
      | (with_reducible exact ih3 _ _ _ _ _ _ _ _)
      | (with_reducible exact ih4 _ _ _ _)
      | (with_reducible exact spec_l1Text.mono _ _)
      | (with_reducible exact spec_l2Kids.mono _ _ _)
      | (with_reducible exact spec_l3Do.mono _ _ _ _ _ _ _)
      | (with_reducible exact spec_l6Rd_pick.mono _ _ _ _)
      | (with_reducible exact spec_l71Id.mono _ _ _)
      | (with_reducible exact spec_l71Text.mono _ _ _)
      | (with_reducible exact LeO.refl _)
      | (with_reducible exact LeO.none _)
      | (with_reducible refine LeO.ite ?_ ?_)
      | (with_reducible refine LeO.bind ?_ (fun _ => ?_))
      | exact ih0 _ _ _ _
      | exact ih1 _ _ _ _ _ _
      | exact ih2 _ _ _ _ _
      | exact ih3 _ _ _ _ _ _ _ _
      | exact ih4 _ _ _ _
      | exact spec_l1Text.mono _ _
      | exact spec_l2Kids.mono _ _ _
      | exact spec_l3Do.mono _ _ _ _ _ _ _
      | exact spec_l6Rd_pick.mono _ _ _ _
      | exact spec_l71Id.mono _ _ _
      | exact spec_l71Text.mono _ _ _
      | exact LeO.none _
      | refine LeO.ite ?_ ?_
      | refine LeO.bind ?_ (fun _ => ?_)
set_option maxHeartbeats 8000000 in
set_option maxRecDepth 100000 in
theorem spec_l71Tree.calls (k : Nat) (g : Nat) (s0_0 : List Int) (s0_1 : Int) (r1 : List (S29)) (r2 : Int) (w0 w : World) (hI : IsS92 w0 w g s0_0 s0_1) (hB : Below w0.heap.size w0 w) (h : spec_l71Tree.f k s0_0 s0_1 = some (r1, r2)) :
    Calls Tryd.prog 30 #[.pointer (some ⟨g, 0, none⟩)] w fun e w' => ∃ v0_ : Value, e = .returned (v0_) ∧ Kd.Q k29 29 w' w.heap.size (fun _ => True) v0_ r1 ∧ IsS92 w0 w' g s0_0 r2 ∧ Below w0.heap.size w0 w' ∧ KeepBut w w' g none := by
  have hu37 := Tryd.underlying37
  have hu29 := Tryd.underlying29
  have HI0 := Aside0.mk hI
  have HK := Aside0.mk (KeepBut.refl w g none)
  have HL := Aside0.mk hB.size
  clear hI
  have HW0 := Aside0.mk hB.size
  have HB := Aside0.mk hB
  clear hB
  have H : ((spec_TreeNew.f).bind fun t274 => ((spec_l6Rd_pick.f k s0_0 s0_1 11).bind fun bt277 => (spec_l71Tree.l0 k t274 bt277.1 s0_0 bt277.2))) = some (r1, r2) := h
  clear h
  replace H := Option.bind_eq_some_iff.mp H
  obtain ⟨t274, A20, H⟩ := H
  (try dsimp only at H)
  have A2 := Aside0.mk A20
  clear A20
  replace H := Option.bind_eq_some_iff.mp H
  obtain ⟨⟨t277, t278⟩, A30, H⟩ := H
  (try dsimp only at H)
  have A3 := Aside0.mk A30
  clear A30
  have H' := Aside0.mk H
  clear H
  go_enter Tryd.func30, Tryd.ntmps30
  go_wp2_with (first | ((with_reducible refine gate_callee (f := 56) rfl ?_); refine goesL_ (some 9) rfl rfl Tryd.func56 (by kernel_rfl) rfl #[] rfl argsA ?_; (with_reducible refine (spec_TreeNew.calls  t274 _ A2.out).mono ?_); rintro e w4 ⟨v275, rfl, ho0, hb⟩; refine ⟨_, rfl, ?_⟩; have n0_ := Aside0.mk (Kd.R_lower ho0 (keep_size (w := w) (g := g) (row := none) keepA)); have n1_ := Aside0.mk (IsS92.below stA hb); have n2_ := Aside0.mk (KeepBut.trans keepA (KeepBut.of_below hb g none) (.inl rfl)); have n3_ := Aside0.mk (below_step belowA hb); clear HI0; clear HK; clear HB; have HO276 := n0_; have HI0 := n1_; have HK := n2_; have HB := n3_; clear n0_ n1_ n2_ n3_; (try clear hb); (try clear hb2); (try clear hk); (try clear hi); (try clear ho0)) | ((with_reducible refine gate_callee (f := 31) rfl ?_); refine goesL_ (some 11) rfl rfl Tryd.func31 (by kernel_rfl) rfl #[.pointer (some ⟨g, 0, none⟩), .int .i64 11] rfl argsA ?_; (with_reducible refine (spec_l6Rd_pick.calls k g s0_0 s0_1 11 t277 t278 w0 _ ?side1 ?side2 A3.out).mono ?_); (case side1 => exact stA); (case side2 => exact belowA); rintro e w5 ⟨rfl, hi, hb, hk⟩; refine ⟨_, rfl, ?_⟩; have n0_ := Aside0.mk (Kd.R_mono (Kd.R_keep (IsS92.apart (show IsS92 w0 _ g s0_0 s0_1 from stA) (RA HO276) (by decide)) hk (fun _ h => h.2)) (fun _ h => h.1)); have n1_ := Aside0.mk (KeepBut.trans keepA hk (.inl rfl)); have n2_ := Aside0.mk (hb); have n3_ := Aside0.mk (hi); clear HO276; clear HK; clear HB; clear HI0; have HO276 := n0_; have HK := n1_; have HB := n2_; have HI0 := n3_; clear n0_ n1_ n2_ n3_; (try clear hb); (try clear hb2); (try clear hk); (try clear hi)))
  go_loopg [3, 4] k (fun kq v3 v4 w' => ∃ (x3_1 : List (S29)) (x4_1 : Int) (x1001_1 : Int), v4 = .int .i64 x4_1 ∧ Aside0 (spec_l71Tree.l0 kq x3_1 x4_1 s0_0 x1001_1 = some (r1, r2)) ∧ Aside0 (kq ≤ k) ∧ Aside0 (Kd.R k29 29 w' w.heap.size (fun _ => True) v3 x3_1) ∧ Aside0 (IsS92 w0 w' g s0_0 x1001_1) ∧ Aside0 (KeepBut w w' g none) ∧ Aside0 (Below w0.heap.size w0 w'))
  case atStart => exact ⟨(t274), (t277), (t278), (by first | rfl | (simp; done) | (simp [*]; done)), H', ⟨Nat.le_refl _⟩, ⟨RA HO276⟩, ⟨stA⟩, ⟨keepA⟩, ⟨belowA⟩⟩
  case round =>
    clear H'
    try clear p2
    try clear c3
    try clear c5
    obtain ⟨x3_1, x4_1, x1001_1, rfl, HA, HK1, HO_3, HI0, HK, HB⟩ := hrel
    cases gk with
    | zero => exact absurd HA.out (by simp [spec_l71Tree.l0])
    | succ k1 =>
      have H := HA.out
      clear HA
      simp only [spec_l71Tree.l0] at H
      by_cases c6 : x4_1 > 0
      · rw [if_pos c6] at H
        have c6b0 : decide (0 < x4_1) = true := decide_eq_true c6
        clear c6
        have HC7 := Aside0.mk H
        clear H
        go_upto_region 6 with (fail)
        go_cut [23] (fun v23 wc => ∃ (kq : Nat) (x23_6 : Bool) (x1001_6 : Int), v23 = .bool x23_6 ∧ Aside0 (spec_l71Tree.j1 kq x3_1 x4_1 1 x23_6 s0_0 x1001_6 = some (r1, r2)) ∧ Aside0 (kq ≤ k1) ∧ Aside0 (Kd.R k29 29 wc w.heap.size (fun _ => True) u3 x3_1) ∧ Aside0 (IsS92 w0 wc g s0_0 x1001_6) ∧ Aside0 (KeepBut w wc g none) ∧ Aside0 (Below w0.heap.size w0 wc))
        case first =>
          have H := HC7.out
          clear HC7
          by_cases c8 : (x3_1.length : Int) > 3
          · rw [if_pos c8] at H
            have c8b0 : decide (3 < (x3_1.length : Int)) = true := decide_eq_true c8
            have c8b1 : decide (3 < x3_1.length) = true := decide_eq_true (by omega)
            clear c8
            (first | rw [c8b0] | (simp only [i64_w, i32_w]; rw [c8b0]) | skip)
            replace H := Option.bind_eq_some_iff.mp H
            obtain ⟨⟨t279, t280⟩, A90, H⟩ := H
            (try dsimp only at H)
            have A9 := Aside0.mk A90
            clear A90
            have H' := Aside0.mk H
            clear H
            obtain ⟨Ao10, co10, eo10⟩ := Kd.R_slice HO_3.out
            subst eo10
            go_wp2_with (first | (go_at_call 31; (with_reducible refine (spec_l6Rd_pick.calls k1 g s0_0 x1001_1 3 t279 t280 w0 _ ?side1 ?side2 A9.out).mono ?_); (case side1 => exact stA); (case side2 => exact belowA); rintro e w11 ⟨rfl, hi, hb, hk⟩; have n0_ := Aside0.mk (Kd.R_mono (Kd.R_keep (IsS92.apart (show IsS92 w0 _ g s0_0 x1001_1 from stA) (RA HO_3) (by decide)) hk (fun _ h => h.2)) (fun _ h => h.1)); have n1_ := Aside0.mk (KeepBut.trans keepA hk (.inl rfl)); have n2_ := Aside0.mk (hb); have n3_ := Aside0.mk (hi); clear HO_3; clear HK; clear HB; clear HI0; have HO_3 := n0_; have HK := n1_; have HB := n2_; have HI0 := n3_; clear n0_ n1_ n2_ n3_; (try clear hb); (try clear hb2); (try clear hk); (try clear hi)))
            go_meet
            case rel => exact ⟨_, (decide (t279 > 0)), (t280), (by first | rfl | (simp; done) | (simp [*]; done)), H', ⟨by have := HK1.out; first | omega | exact Nat.le_refl _⟩, ⟨RA HO_3⟩, ⟨stA⟩, ⟨keepA⟩, ⟨belowA⟩⟩
          · rw [if_neg c8] at H
            have c8b0 : decide (3 < (x3_1.length : Int)) = false := decide_eq_false c8
            have c8b1 : decide (3 < x3_1.length) = false := decide_eq_false (by omega)
            clear c8
            (first | rw [c8b0] | (simp only [i64_w, i32_w]; rw [c8b0]) | skip)
            have H' := Aside0.mk H
            clear H
            obtain ⟨Ao12, co12, eo12⟩ := Kd.R_slice HO_3.out
            subst eo12
            go_wp2
            go_meet
            case rel => exact ⟨_, (false), (x1001_1), (by first | rfl | (simp; done) | (simp [*]; done)), H', ⟨by have := HK1.out; first | omega | exact Nat.le_refl _⟩, ⟨RA HO_3⟩, ⟨stA⟩, ⟨keepA⟩, ⟨belowA⟩⟩
        case rest =>
          clear HC7
          try clear p2
          try clear c3
          try clear c5
          try clear c6
          try clear c6b0
          try clear c8
          try clear c8b0
          try clear c8b1
          try clear p2
          obtain ⟨kq, x23_6, x1001_6, rfl, HA, HJ6, HO_3, HI0, HK, HB⟩ := hcut
          cases kq with
          | zero => exact absurd HA.out (by simp [spec_l71Tree.j1])
          | succ kj6 =>
            have H := HA.out
            clear HA
            simp only [spec_l71Tree.j1] at H
            have HC13 := Aside0.mk H
            clear H
            go_upto_if 23 with (fail)
            go_cut [5] (fun v5 wc => ∃ (kq : Nat) (x5_12 : Int) (x1001_12 : Int), v5 = .int .i64 x5_12 ∧ Aside0 (spec_l71Tree.j2 kq x3_1 x4_1 x5_12 s0_0 x1001_12 = some (r1, r2)) ∧ Aside0 (kq ≤ kj6) ∧ Aside0 (Kd.R k29 29 wc w.heap.size (fun _ => True) u3 x3_1) ∧ Aside0 (IsS92 w0 wc g s0_0 x1001_12) ∧ Aside0 (KeepBut w wc g none) ∧ Aside0 (Below w0.heap.size w0 wc))
            case first =>
              have H := HC13.out
              clear HC13
              by_cases c14 : x23_6 = true
              · subst c14
                have H1 : ((spec_l6Rd_pick.f kj6 s0_0 x1001_6 (x3_1.length : Int)).bind fun bt281 => (if 0 ≤ bt281.1 then (if bt281.1 < (x3_1.length : Int) then (spec_l71Tree.j2 kj6 x3_1 x4_1 ((rd_T29 x3_1 bt281.1).f0) s0_0 bt281.2) else (none)) else (none))) = some (r1, r2) := by rw [if_pos rfl] at H; exact H
                clear H
                have H := H1
                clear H1
                replace H := Option.bind_eq_some_iff.mp H
                obtain ⟨⟨t281, t282⟩, A150, H⟩ := H
                (try dsimp only at H)
                have A15 := Aside0.mk A150
                clear A150
                by_cases c16 : 0 ≤ t281
                · rw [if_pos c16] at H
                  have c16b0 : decide (0 ≤ t281) = true := decide_eq_true c16
                  clear c16
                  (first | rw [c16b0] | (simp only [i64_w, i32_w]; rw [c16b0]) | skip)
                  by_cases c17 : t281 < (x3_1.length : Int)
                  · rw [if_pos c17] at H
                    have c17b0 : decide (t281 < (x3_1.length : Int)) = true := decide_eq_true c17
                    clear c17
                    have H' := Aside0.mk H
                    clear H
                    obtain ⟨Ao18, co18, eo18⟩ := Kd.R_slice HO_3.out
                    subst eo18
                    go_wp2_with (first | ((with_reducible refine gate_callee (f := 31) rfl ?_); refine goesL_ (some 28) rfl rfl Tryd.func31 (by kernel_rfl) rfl #[.pointer (some ⟨g, 0, none⟩), .int .i64 (x3_1.length : Int)] rfl argsA ?_; (with_reducible refine (spec_l6Rd_pick.calls kj6 g s0_0 x1001_6 (x3_1.length : Int) t281 t282 w0 _ ?side1 ?side2 A15.out).mono ?_); (case side1 => exact stA); (case side2 => exact belowA); rintro e w19 ⟨rfl, hi, hb, hk⟩; refine ⟨_, rfl, ?_⟩; have n0_ := Aside0.mk (Kd.R_mono (Kd.R_keep (IsS92.apart (show IsS92 w0 _ g s0_0 x1001_6 from stA) (RA HO_3) (by decide)) hk (fun _ h => h.2)) (fun _ h => h.1)); have n1_ := Aside0.mk (KeepBut.trans keepA hk (.inl rfl)); have n2_ := Aside0.mk (hb); have n3_ := Aside0.mk (hi); clear HO_3; clear HK; clear HB; clear HI0; have HO_3 := n0_; have HK := n1_; have HB := n2_; have HI0 := n3_; clear n0_ n1_ n2_ n3_; (try clear hb); (try clear hb2); (try clear hk); (try clear hi); have p283 : 0 ≤ (t281 : Int) := of_decide_eq_true (by first | (with_reducible assumption) | assumption); have q283 : t281 < (x3_1.length : Int) := of_decide_eq_true (by first | (with_reducible assumption) | assumption); obtain ⟨ad283, e283, hx283_0, hx283_1, hx283_2⟩ := at_T29 (Kd.R_reads' HO_3.out).2.2 t281 p283 q283; cases e283; replace p283 := eq_true p283; replace q283 := eq_true q283))
                    go_meet
                    case rel => exact ⟨_, ((rd_T29 x3_1 t281).f0), (t282), (by first | rfl | (simp; done) | (simp [*]; done)), H', ⟨by have := HK1.out; have := HJ6.out; first | omega | exact Nat.le_refl _⟩, ⟨RA HO_3⟩, ⟨stA⟩, ⟨keepA⟩, ⟨belowA⟩⟩
                  · rw [if_neg c17] at H
                    exact absurd H (by simp)
                · rw [if_neg c16] at H
                  exact absurd H (by simp)
              · replace c14 := Bool.eq_false_iff.mpr c14
                subst c14
                have H1 : (spec_l71Tree.j2 kj6 x3_1 x4_1 1 s0_0 x1001_6) = some (r1, r2) := by rw [if_neg (show ¬ (false = true) by decide)] at H; exact H
                clear H
                have H := H1
                clear H1
                have H' := Aside0.mk H
                clear H
                go_wp2
                go_meet
                case rel => exact ⟨_, (1), (x1001_6), (by first | rfl | (simp; done) | (simp [*]; done)), H', ⟨by have := HK1.out; have := HJ6.out; first | omega | exact Nat.le_refl _⟩, ⟨RA HO_3⟩, ⟨stA⟩, ⟨keepA⟩, ⟨belowA⟩⟩
            case rest =>
              clear HC13
              try clear c1
              try clear p2
              try clear q2
              try clear hx2
              try clear c3
              try clear c5
              try clear c6
              try clear c6b0
              try clear c8
              try clear c8b0
              try clear c8b1
              try clear c14
              try clear c16
              try clear c16b0
              try clear c17
              try clear c17b0
              try clear hx283_0
              try clear hx283_1
              try clear hx283_2
              try clear p2
              try clear p283
              try clear q283
              obtain ⟨kq, x5_12, x1001_12, rfl, HA, HJ12, HO_3, HI0, HK, HB⟩ := hcut
              cases kq with
              | zero => exact absurd HA.out (by simp [spec_l71Tree.j2])
              | succ kj12 =>
                have H := HA.out
                clear HA
                simp only [spec_l71Tree.j2] at H
                replace H := Option.bind_eq_some_iff.mp H
                obtain ⟨t284, A200, H⟩ := H
                (try dsimp only at H)
                have A20 := Aside0.mk A200
                clear A200
                have HC21 := Aside0.mk H
                clear H
                obtain ⟨Ao22, co22, eo22⟩ := Kd.R_slice HO_3.out
                subst eo22
                go_upto_region 10 with (first | ((with_reducible refine gate_callee (f := 57) rfl ?_); refine goesL_ (some 34) rfl rfl Tryd.func57 (by kernel_rfl) rfl #[.slice Ao22 x3_1.length co22, .int .i64 x5_12] rfl argsA ?_; (with_reducible refine (spec_l2Kids.calls kj12 _ _ x3_1 x5_12 t284 _ ?side1 ?side2 A20.out).mono ?_); (case side1 => repeat (first | exact (Kd.R_reads' HO_3.out).2.2 | (with_reducible refine Kd.C_alloc ?_ _) | (with_reducible refine Kd.C_drewN ?_ _) | (with_reducible refine Kd.C_drew ?_))); (case side2 => exact (Kd.R_reads' HO_3.out).2.1); rintro e w23 ⟨v285, rfl, ho0, hb⟩; refine ⟨_, rfl, ?_⟩; have n0_ := Aside0.mk (Kd.R_below (RA HO_3) hb); have n1_ := Aside0.mk (Kd.R_lower ho0 (keep_size (w := w) (g := g) (row := none) keepA)); have n2_ := Aside0.mk (IsS92.below stA hb); have n3_ := Aside0.mk (KeepBut.trans keepA (KeepBut.of_below hb g none) (.inl rfl)); have n4_ := Aside0.mk (below_step belowA hb); clear HO_3; clear HI0; clear HK; clear HB; have HO_3 := n0_; have HO286 := n1_; have HI0 := n2_; have HK := n3_; have HB := n4_; clear n0_ n1_ n2_ n3_ n4_; (try clear hb); (try clear hb2); (try clear hk); (try clear hi); (try clear ho0)))
                (try simp only [Act.put, List.setIfInBounds_toArray, List.set_cons_zero, List.set_cons_succ])
                go_cut [42] (fun v42 wc => ∃ (kq : Nat) (x42_20 : Bool) (x1001_20 : Int), v42 = .bool x42_20 ∧ Aside0 (spec_l71Tree.j3 kq x3_1 x4_1 x5_12 t284 0 x42_20 s0_0 x1001_20 = some (r1, r2)) ∧ Aside0 (kq ≤ kj12) ∧ Aside0 (Kd.R k29 29 wc w.heap.size (fun _ => True) (.slice Ao22 x3_1.length co22) x3_1) ∧ Aside0 (Kd.R (Kd.int .i64) 3 wc w.heap.size (fun _ => True) v285 t284) ∧ Aside0 (IsS92 w0 wc g s0_0 x1001_20) ∧ Aside0 (KeepBut w wc g none) ∧ Aside0 (Below w0.heap.size w0 wc))
                case first =>
                  have H := HC21.out
                  clear HC21
                  by_cases c24 : (t284.length : Int) > 0
                  · rw [if_pos c24] at H
                    have c24b0 : decide (0 < (t284.length : Int)) = true := decide_eq_true c24
                    have c24b1 : decide (0 < t284.length) = true := decide_eq_true (by omega)
                    clear c24
                    (first | rw [c24b0] | (simp only [i64_w, i32_w]; rw [c24b0]) | skip)
                    replace H := Option.bind_eq_some_iff.mp H
                    obtain ⟨⟨t287, t288⟩, A250, H⟩ := H
                    (try dsimp only at H)
                    have A25 := Aside0.mk A250
                    clear A250
                    have H' := Aside0.mk H
                    clear H
                    obtain ⟨Ao26, co26, eo26⟩ := Kd.R_slice HO286.out
                    subst eo26
                    go_wp2_with (first | (go_at_call 31; (with_reducible refine (spec_l6Rd_pick.calls kj12 g s0_0 x1001_12 2 t287 t288 w0 _ ?side1 ?side2 A25.out).mono ?_); (case side1 => exact stA); (case side2 => exact belowA); rintro e w27 ⟨rfl, hi, hb, hk⟩; have n0_ := Aside0.mk (Kd.R_mono (Kd.R_keep (IsS92.apart (show IsS92 w0 _ g s0_0 x1001_12 from stA) (RA HO_3) (by decide)) hk (fun _ h => h.2)) (fun _ h => h.1)); have n1_ := Aside0.mk (Kd.R_mono (Kd.R_keep (IsS92.apart (show IsS92 w0 _ g s0_0 x1001_12 from stA) (RA HO286) (by decide)) hk (fun _ h => h.2)) (fun _ h => h.1)); have n2_ := Aside0.mk (KeepBut.trans keepA hk (.inl rfl)); have n3_ := Aside0.mk (hb); have n4_ := Aside0.mk (hi); clear HO_3; clear HO286; clear HK; clear HB; clear HI0; have HO_3 := n0_; have HO286 := n1_; have HK := n2_; have HB := n3_; have HI0 := n4_; clear n0_ n1_ n2_ n3_ n4_; (try clear hb); (try clear hb2); (try clear hk); (try clear hi)))
                    go_meet
                    case rel => exact ⟨_, ((t287 == 0)), (t288), (by first | rfl | (simp; done) | (simp [*]; done)), H', ⟨by have := HK1.out; have := HJ6.out; have := HJ12.out; first | omega | exact Nat.le_refl _⟩, ⟨RA HO_3⟩, ⟨RA HO286⟩, ⟨stA⟩, ⟨keepA⟩, ⟨belowA⟩⟩
                  · rw [if_neg c24] at H
                    have c24b0 : decide (0 < (t284.length : Int)) = false := decide_eq_false c24
                    have c24b1 : decide (0 < t284.length) = false := decide_eq_false (by omega)
                    clear c24
                    (first | rw [c24b0] | (simp only [i64_w, i32_w]; rw [c24b0]) | skip)
                    have H' := Aside0.mk H
                    clear H
                    obtain ⟨Ao28, co28, eo28⟩ := Kd.R_slice HO286.out
                    subst eo28
                    go_wp2
                    go_meet
                    case rel => exact ⟨_, (false), (x1001_12), (by first | rfl | (simp; done) | (simp [*]; done)), H', ⟨by have := HK1.out; have := HJ6.out; have := HJ12.out; first | omega | exact Nat.le_refl _⟩, ⟨RA HO_3⟩, ⟨RA HO286⟩, ⟨stA⟩, ⟨keepA⟩, ⟨belowA⟩⟩
                case rest =>
                  clear HC21
                  try clear c1
                  try clear c2
                  try clear p2
                  try clear q2
                  try clear hx2
                  try clear c3
                  try clear c5
                  try clear c6
                  try clear c6b0
                  try clear c8
                  try clear c8b0
                  try clear c8b1
                  try clear c14
                  try clear c16
                  try clear c16b0
                  try clear c17
                  try clear c17b0
                  try clear c24
                  try clear c24b0
                  try clear c24b1
                  try clear p28
                  try clear q28
                  try clear hx28
                  try clear hx283_0
                  try clear hx283_1
                  try clear hx283_2
                  try clear p2
                  try clear p283
                  try clear q2
                  try clear q283
                  obtain ⟨kq, x42_20, x1001_20, rfl, HA, HJ20, HO_3, HO_6, HI0, HK, HB⟩ := hcut
                  cases kq with
                  | zero => exact absurd HA.out (by simp [spec_l71Tree.j3])
                  | succ kj20 =>
                    have H := HA.out
                    clear HA
                    simp only [spec_l71Tree.j3] at H
                    by_cases c29 : x42_20 = true
                    · subst c29
                      have H1 : ((spec_l6Rd_pick.f kj20 s0_0 x1001_20 (t284.length : Int)).bind fun bt289 => (if 0 ≤ bt289.1 then (if bt289.1 < (t284.length : Int) then ((spec_l71Id.f kj20 s0_0 bt289.2).bind fun bt292 => ((spec_l71Text.f kj20 s0_0 bt292.2).bind fun bt294 => ((spec_l3Do.f kj20 x3_1 1 bt292.1 x5_12 (rd t284 bt289.1) bt294.1).bind fun t296 => (spec_l71Tree.l0 kj20 t296 (wrap64 (x4_1 - 1)) s0_0 bt294.2)))) else (none)) else (none))) = some (r1, r2) := by rw [if_pos rfl] at H; exact H
                      clear H
                      have H := H1
                      clear H1
                      replace H := Option.bind_eq_some_iff.mp H
                      obtain ⟨⟨t289, t290⟩, A300, H⟩ := H
                      (try dsimp only at H)
                      have A30 := Aside0.mk A300
                      clear A300
                      by_cases c31 : 0 ≤ t289
                      · rw [if_pos c31] at H
                        have c31b0 : decide (0 ≤ t289) = true := decide_eq_true c31
                        clear c31
                        by_cases c32 : t289 < (t284.length : Int)
                        · rw [if_pos c32] at H
                          have c32b0 : decide (t289 < (t284.length : Int)) = true := decide_eq_true c32
                          clear c32
                          replace H := Option.bind_eq_some_iff.mp H
                          obtain ⟨⟨t292, t293⟩, A330, H⟩ := H
                          (try dsimp only at H)
                          have A33 := Aside0.mk A330
                          clear A330
                          replace H := Option.bind_eq_some_iff.mp H
                          obtain ⟨⟨t294, t295⟩, A340, H⟩ := H
                          (try dsimp only at H)
                          have A34 := Aside0.mk A340
                          clear A340
                          replace H := Option.bind_eq_some_iff.mp H
                          obtain ⟨t296, A350, H⟩ := H
                          (try dsimp only at H)
                          have A35 := Aside0.mk A350
                          clear A350
                          have H' := Aside0.mk H
                          clear H
                          obtain ⟨Ao36, co36, eo36⟩ := Kd.R_slice HO_6.out
                          subst eo36
                          go_wp2_with (first | ((with_reducible refine gate_callee (f := 31) rfl ?_); refine goesL_ (some 47) rfl rfl Tryd.func31 (by kernel_rfl) rfl #[.pointer (some ⟨g, 0, none⟩), .int .i64 (t284.length : Int)] rfl argsA ?_; (with_reducible refine (spec_l6Rd_pick.calls kj20 g s0_0 x1001_20 (t284.length : Int) t289 t290 w0 _ ?side1 ?side2 A30.out).mono ?_); (case side1 => exact stA); (case side2 => exact belowA); rintro e w37 ⟨rfl, hi, hb, hk⟩; refine ⟨_, rfl, ?_⟩; have n0_ := Aside0.mk (Kd.R_mono (Kd.R_keep (IsS92.apart (show IsS92 w0 _ g s0_0 x1001_20 from stA) (RA HO_3) (by decide)) hk (fun _ h => h.2)) (fun _ h => h.1)); have n1_ := Aside0.mk (Kd.R_mono (Kd.R_keep (IsS92.apart (show IsS92 w0 _ g s0_0 x1001_20 from stA) (RA HO_6) (by decide)) hk (fun _ h => h.2)) (fun _ h => h.1)); have n2_ := Aside0.mk (KeepBut.trans keepA hk (.inl rfl)); have n3_ := Aside0.mk (hb); have n4_ := Aside0.mk (hi); clear HO_3; clear HO_6; clear HK; clear HB; clear HI0; have HO_3 := n0_; have HO_6 := n1_; have HK := n2_; have HB := n3_; have HI0 := n4_; clear n0_ n1_ n2_ n3_ n4_; (try clear hb); (try clear hb2); (try clear hk); (try clear hi); have p291 : 0 ≤ (t289 : Int) := of_decide_eq_true (by first | (with_reducible assumption) | assumption); have q291 : t289 < (t284.length : Int) := of_decide_eq_true (by first | (with_reducible assumption) | assumption); obtain ⟨ad291, e291, hx291_0⟩ := Kd.at_int (Kd.R_reads' HO_6.out).2.2 t289 p291 q291; cases e291; replace p291 := eq_true p291; replace q291 := eq_true q291) | ((with_reducible refine gate_callee (f := 59) rfl ?_); refine goesL_ (some 52) rfl rfl Tryd.func59 (by kernel_rfl) rfl #[.pointer (some ⟨g, 0, none⟩)] rfl argsA ?_; (with_reducible refine (spec_l71Id.calls kj20 g s0_0 t290 t292 t293 w0 _ ?side1 ?side2 A33.out).mono ?_); (case side1 => exact stA); (case side2 => exact belowA); rintro e w38 ⟨rfl, hi, hb, hk⟩; refine ⟨_, rfl, ?_⟩; have n0_ := Aside0.mk (Kd.R_mono (Kd.R_keep (IsS92.apart (show IsS92 w0 _ g s0_0 t290 from stA) (RA HO_3) (by decide)) hk (fun _ h => h.2)) (fun _ h => h.1)); have n1_ := Aside0.mk (Kd.R_mono (Kd.R_keep (IsS92.apart (show IsS92 w0 _ g s0_0 t290 from stA) (RA HO_6) (by decide)) hk (fun _ h => h.2)) (fun _ h => h.1)); have n2_ := Aside0.mk (KeepBut.trans keepA hk (.inl rfl)); have n3_ := Aside0.mk (hb); have n4_ := Aside0.mk (hi); clear HO_3; clear HO_6; clear HK; clear HB; clear HI0; have HO_3 := n0_; have HO_6 := n1_; have HK := n2_; have HB := n3_; have HI0 := n4_; clear n0_ n1_ n2_ n3_ n4_; (try clear hb); (try clear hb2); (try clear hk); (try clear hi)) | ((with_reducible refine gate_callee (f := 44) rfl ?_); refine goesL_ (some 56) rfl rfl Tryd.func44 (by kernel_rfl) rfl #[.pointer (some ⟨g, 0, none⟩)] rfl argsA ?_; (with_reducible refine (spec_l71Text.calls kj20 g s0_0 t293 t294 t295 w0 _ ?side1 ?side2 A34.out).mono ?_); (case side1 => exact stA); (case side2 => exact belowA); rintro e w39 ⟨rfl, hi, hb, hk⟩; refine ⟨_, rfl, ?_⟩; have n0_ := Aside0.mk (Kd.R_mono (Kd.R_keep (IsS92.apart (show IsS92 w0 _ g s0_0 t293 from stA) (RA HO_3) (by decide)) hk (fun _ h => h.2)) (fun _ h => h.1)); have n1_ := Aside0.mk (Kd.R_mono (Kd.R_keep (IsS92.apart (show IsS92 w0 _ g s0_0 t293 from stA) (RA HO_6) (by decide)) hk (fun _ h => h.2)) (fun _ h => h.1)); have n2_ := Aside0.mk (KeepBut.trans keepA hk (.inl rfl)); have n3_ := Aside0.mk (hb); have n4_ := Aside0.mk (hi); clear HO_3; clear HO_6; clear HK; clear HB; clear HI0; have HO_3 := n0_; have HO_6 := n1_; have HK := n2_; have HB := n3_; have HI0 := n4_; clear n0_ n1_ n2_ n3_ n4_; (try clear hb); (try clear hb2); (try clear hk); (try clear hi)) | ((with_reducible refine gate_callee (f := 58) rfl ?_); refine goesL_ (some 58) rfl rfl Tryd.func58 (by kernel_rfl) rfl #[.slice Ao22 x3_1.length co22, .agg #[.int .i64 1, .int .i64 t292, .int .i64 x5_12, .int .i64 (rd t284 t289), .string t294]] rfl argsA ?_; (with_reducible refine (spec_l3Do.calls kj20 _ _ x3_1 1 t292 x5_12 (rd t284 t289) t294 t296 _ ?side1 ?side2 A35.out).mono ?_); (case side1 => repeat (first | exact (Kd.R_reads' HO_3.out).2.2 | (with_reducible refine Kd.C_alloc ?_ _) | (with_reducible refine Kd.C_drewN ?_ _) | (with_reducible refine Kd.C_drew ?_))); (case side2 => exact (Kd.R_reads' HO_3.out).2.1); rintro e w40 ⟨v297, rfl, ho0, hb⟩; refine ⟨_, rfl, ?_⟩; have n0_ := Aside0.mk (Kd.R_elder' (RA HO_3) (Kd.R_base ho0) hb); have n1_ := Aside0.mk (Kd.R_below (RA HO_6) hb); have n2_ := Aside0.mk (Kd.R_lower (Kd.R_new' ho0 (Kd.R_lt (RA HO_3))) (keep_size (w := w) (g := g) (row := none) keepA)); have n3_ := Aside0.mk (IsS92.below stA hb); have n4_ := Aside0.mk (KeepBut.trans keepA (KeepBut.of_below hb g none) (.inl rfl)); have n5_ := Aside0.mk (below_step belowA hb); clear HO_3; clear HO_6; clear HI0; clear HK; clear HB; have HO_3 := n0_; have HO_6 := n1_; have HO298 := n2_; have HI0 := n3_; have HK := n4_; have HB := n5_; clear n0_ n1_ n2_ n3_ n4_ n5_; (try clear hb); (try clear hb2); (try clear hk); (try clear hi); (try clear ho0)))
                          go_roundg kj20
                          case measure => have := HK1.out; have := HJ6.out; have := HJ12.out; have := HJ20.out; omega
                          case rel => exact ⟨(t296), (wrap64 (x4_1 - 1)), (t295), (by first | rfl | (simp; done) | (simp [*]; done)), H', ⟨by have := HK1.out; have := HJ6.out; have := HJ12.out; have := HJ20.out; omega⟩, ⟨by (with_reducible repeat (first | apply Kd.R_alloc | apply Kd.R_drewN | apply Kd.R_drew)); exact Kd.R_mono HO298.out (fun _ hk => trivial)⟩, ⟨stA⟩, ⟨keepA⟩, ⟨belowA⟩⟩
                        · rw [if_neg c32] at H
                          exact absurd H (by simp)
                      · rw [if_neg c31] at H
                        exact absurd H (by simp)
                    · replace c29 := Bool.eq_false_iff.mpr c29
                      subst c29
                      have H1 : ((spec_l71Id.f kj20 s0_0 x1001_20).bind fun bt299 => ((spec_l71Text.f kj20 s0_0 bt299.2).bind fun bt301 => ((spec_l3Do.f kj20 x3_1 1 bt299.1 x5_12 0 bt301.1).bind fun t303 => (spec_l71Tree.l0 kj20 t303 (wrap64 (x4_1 - 1)) s0_0 bt301.2)))) = some (r1, r2) := by rw [if_neg (show ¬ (false = true) by decide)] at H; exact H
                      clear H
                      have H := H1
                      clear H1
                      replace H := Option.bind_eq_some_iff.mp H
                      obtain ⟨⟨t299, t300⟩, A410, H⟩ := H
                      (try dsimp only at H)
                      have A41 := Aside0.mk A410
                      clear A410
                      replace H := Option.bind_eq_some_iff.mp H
                      obtain ⟨⟨t301, t302⟩, A420, H⟩ := H
                      (try dsimp only at H)
                      have A42 := Aside0.mk A420
                      clear A420
                      replace H := Option.bind_eq_some_iff.mp H
                      obtain ⟨t303, A430, H⟩ := H
                      (try dsimp only at H)
                      have A43 := Aside0.mk A430
                      clear A430
                      have H' := Aside0.mk H
                      clear H
                      go_wp2_with (first | ((with_reducible refine gate_callee (f := 59) rfl ?_); refine goesL_ (some 52) rfl rfl Tryd.func59 (by kernel_rfl) rfl #[.pointer (some ⟨g, 0, none⟩)] rfl argsA ?_; (with_reducible refine (spec_l71Id.calls kj20 g s0_0 x1001_20 t299 t300 w0 _ ?side1 ?side2 A41.out).mono ?_); (case side1 => exact stA); (case side2 => exact belowA); rintro e w44 ⟨rfl, hi, hb, hk⟩; refine ⟨_, rfl, ?_⟩; have n0_ := Aside0.mk (Kd.R_mono (Kd.R_keep (IsS92.apart (show IsS92 w0 _ g s0_0 x1001_20 from stA) (RA HO_3) (by decide)) hk (fun _ h => h.2)) (fun _ h => h.1)); have n1_ := Aside0.mk (Kd.R_mono (Kd.R_keep (IsS92.apart (show IsS92 w0 _ g s0_0 x1001_20 from stA) (RA HO_6) (by decide)) hk (fun _ h => h.2)) (fun _ h => h.1)); have n2_ := Aside0.mk (KeepBut.trans keepA hk (.inl rfl)); have n3_ := Aside0.mk (hb); have n4_ := Aside0.mk (hi); clear HO_3; clear HO_6; clear HK; clear HB; clear HI0; have HO_3 := n0_; have HO_6 := n1_; have HK := n2_; have HB := n3_; have HI0 := n4_; clear n0_ n1_ n2_ n3_ n4_; (try clear hb); (try clear hb2); (try clear hk); (try clear hi)) | ((with_reducible refine gate_callee (f := 44) rfl ?_); refine goesL_ (some 56) rfl rfl Tryd.func44 (by kernel_rfl) rfl #[.pointer (some ⟨g, 0, none⟩)] rfl argsA ?_; (with_reducible refine (spec_l71Text.calls kj20 g s0_0 t300 t301 t302 w0 _ ?side1 ?side2 A42.out).mono ?_); (case side1 => exact stA); (case side2 => exact belowA); rintro e w45 ⟨rfl, hi, hb, hk⟩; refine ⟨_, rfl, ?_⟩; have n0_ := Aside0.mk (Kd.R_mono (Kd.R_keep (IsS92.apart (show IsS92 w0 _ g s0_0 t300 from stA) (RA HO_3) (by decide)) hk (fun _ h => h.2)) (fun _ h => h.1)); have n1_ := Aside0.mk (Kd.R_mono (Kd.R_keep (IsS92.apart (show IsS92 w0 _ g s0_0 t300 from stA) (RA HO_6) (by decide)) hk (fun _ h => h.2)) (fun _ h => h.1)); have n2_ := Aside0.mk (KeepBut.trans keepA hk (.inl rfl)); have n3_ := Aside0.mk (hb); have n4_ := Aside0.mk (hi); clear HO_3; clear HO_6; clear HK; clear HB; clear HI0; have HO_3 := n0_; have HO_6 := n1_; have HK := n2_; have HB := n3_; have HI0 := n4_; clear n0_ n1_ n2_ n3_ n4_; (try clear hb); (try clear hb2); (try clear hk); (try clear hi)) | ((with_reducible refine gate_callee (f := 58) rfl ?_); refine goesL_ (some 58) rfl rfl Tryd.func58 (by kernel_rfl) rfl #[.slice Ao22 x3_1.length co22, .agg #[.int .i64 1, .int .i64 t299, .int .i64 x5_12, .int .i64 0, .string t301]] rfl argsA ?_; (with_reducible refine (spec_l3Do.calls kj20 _ _ x3_1 1 t299 x5_12 0 t301 t303 _ ?side1 ?side2 A43.out).mono ?_); (case side1 => repeat (first | exact (Kd.R_reads' HO_3.out).2.2 | (with_reducible refine Kd.C_alloc ?_ _) | (with_reducible refine Kd.C_drewN ?_ _) | (with_reducible refine Kd.C_drew ?_))); (case side2 => exact (Kd.R_reads' HO_3.out).2.1); rintro e w46 ⟨v304, rfl, ho0, hb⟩; refine ⟨_, rfl, ?_⟩; have n0_ := Aside0.mk (Kd.R_elder' (RA HO_3) (Kd.R_base ho0) hb); have n1_ := Aside0.mk (Kd.R_below (RA HO_6) hb); have n2_ := Aside0.mk (Kd.R_lower (Kd.R_new' ho0 (Kd.R_lt (RA HO_3))) (keep_size (w := w) (g := g) (row := none) keepA)); have n3_ := Aside0.mk (IsS92.below stA hb); have n4_ := Aside0.mk (KeepBut.trans keepA (KeepBut.of_below hb g none) (.inl rfl)); have n5_ := Aside0.mk (below_step belowA hb); clear HO_3; clear HO_6; clear HI0; clear HK; clear HB; have HO_3 := n0_; have HO_6 := n1_; have HO305 := n2_; have HI0 := n3_; have HK := n4_; have HB := n5_; clear n0_ n1_ n2_ n3_ n4_ n5_; (try clear hb); (try clear hb2); (try clear hk); (try clear hi); (try clear ho0)))
                      go_roundg kj20
                      case measure => have := HK1.out; have := HJ6.out; have := HJ12.out; have := HJ20.out; omega
                      case rel => exact ⟨(t303), (wrap64 (x4_1 - 1)), (t302), (by first | rfl | (simp; done) | (simp [*]; done)), H', ⟨by have := HK1.out; have := HJ6.out; have := HJ12.out; have := HJ20.out; omega⟩, ⟨by (with_reducible repeat (first | apply Kd.R_alloc | apply Kd.R_drewN | apply Kd.R_drew)); exact Kd.R_mono HO305.out (fun _ hk => trivial)⟩, ⟨stA⟩, ⟨keepA⟩, ⟨belowA⟩⟩
      · rw [if_neg c6] at H
        have c6b0 : decide (0 < x4_1) = false := decide_eq_false c6
        clear c6
        have H' := Aside0.mk H
        clear H
        go_wp2
        go_loopg [8] k1 (fun kq v8 w' => ∃ (x3_2 : List (S29)) (x8_2 : Int) (x1001_2 : Int), v8 = .int .i64 x8_2 ∧ Aside0 (spec_l71Tree.l1 kq x3_2 x8_2 s0_0 x1001_2 = some (r1, r2)) ∧ Aside0 (kq ≤ k1) ∧ Aside0 (Kd.R k29 29 w' w.heap.size (fun _ => True) u3 x3_2) ∧ Aside0 (IsS92 w0 w' g s0_0 x1001_2) ∧ Aside0 (KeepBut w w' g none) ∧ Aside0 (Below w0.heap.size w0 w'))
        case atStart => exact ⟨(x3_1), (0), (x1001_1), (by first | rfl | (simp; done) | (simp [*]; done)), H', ⟨Nat.le_refl _⟩, ⟨RA HO_3⟩, ⟨stA⟩, ⟨keepA⟩, ⟨belowA⟩⟩
        case round =>
          clear H'
          try clear c1
          try clear c2
          try clear p2
          try clear q2
          try clear hx2
          try clear c3
          try clear c4
          try clear c5
          try clear c6
          try clear c6b0
          try clear p6
          try clear c8
          try clear c8b0
          try clear c8b1
          try clear c14
          try clear c16
          try clear c16b0
          try clear c17
          try clear c17b0
          try clear c24
          try clear c24b0
          try clear c24b1
          try clear p28
          try clear q28
          try clear hx28
          try clear c29
          try clear p29
          try clear q29
          try clear hx29
          try clear c30
          try clear c31
          try clear c31b0
          try clear c32
          try clear c32b0
          try clear c44
          try clear hx283_0
          try clear hx283_1
          try clear hx283_2
          try clear hx291_0
          try clear p2
          try clear p28
          try clear p283
          try clear p291
          try clear q2
          try clear q28
          try clear q283
          try clear q291
          obtain ⟨x3_2, x8_2, x1001_2, rfl, HA, HK2, HO_3, HI0, HK, HB⟩ := hrel
          cases gk with
          | zero => exact absurd HA.out (by simp [spec_l71Tree.l1])
          | succ k2 =>
            have H := HA.out
            clear HA
            simp only [spec_l71Tree.l1] at H
            by_cases c47 : x8_2 < (x3_2.length : Int)
            · rw [if_pos c47] at H
              have c47b0 : decide (x8_2 < (x3_2.length : Int)) = true := decide_eq_true c47
              clear c47
              by_cases c48 : 0 ≤ x8_2
              · rw [if_pos c48] at H
                have c48b0 : decide (0 ≤ x8_2) = true := decide_eq_true c48
                clear c48
                replace H := Option.bind_eq_some_iff.mp H
                obtain ⟨t307, A490, H⟩ := H
                (try dsimp only at H)
                have A49 := Aside0.mk A490
                clear A490
                by_cases c50 : t307 = true
                · subst c50
                  have H1 : (spec_l71Tree.l1 k2 x3_2 (wrap64 (x8_2 + 1)) s0_0 x1001_2) = some (r1, r2) := by rw [if_pos rfl] at H; exact H
                  clear H
                  have H := H1
                  clear H1
                  have H' := Aside0.mk H
                  clear H
                  obtain ⟨Ao51, co51, eo51⟩ := Kd.R_slice HO_3.out
                  subst eo51
                  have p306 : 0 ≤ (x8_2 : Int) := of_decide_eq_true (by first | (with_reducible assumption) | assumption)
                  have q306 : x8_2 < (x3_2.length : Int) := of_decide_eq_true (by first | (with_reducible assumption) | assumption)
                  obtain ⟨ad306, e306, hx306_0, hx306_1, hx306_2⟩ := at_T29 (Kd.R_reads' HO_3.out).2.2 x8_2 p306 q306
                  cases e306
                  replace p306 := eq_true p306
                  replace q306 := eq_true q306
                  go_wp2_with (first | ((with_reducible refine gate_callee (f := 60) rfl ?_); refine goesL_ (some 70) rfl rfl Tryd.func60 (by kernel_rfl) rfl #[.string ((rd_T29 x3_2 x8_2).f2)] rfl argsA ?_; (with_reducible refine (spec_l1Text.calls k2 ((rd_T29 x3_2 x8_2).f2) true _ A49.out).mono ?_); rintro e w' ⟨rfl, ⟨nd, rfl⟩⟩; refine ⟨_, rfl, ?_⟩))
                  go_roundg k2
                  case measure => have := HK1.out; have := HK2.out; omega
                  case rel => exact ⟨(x3_2), (wrap64 (x8_2 + 1)), (x1001_2), (by first | rfl | (simp; done) | (simp [*]; done)), H', ⟨by have := HK1.out; have := HK2.out; omega⟩, ⟨RA HO_3⟩, ⟨stA⟩, ⟨keepA⟩, ⟨belowA⟩⟩
                · replace c50 := Bool.eq_false_iff.mpr c50
                  subst c50
                  have H1 : ((spec_l6Rd_pick.f k2 s0_0 x1001_2 2).bind fun bt308 => (if bt308.1 = 0 then (spec_l71Tree.l1 k2 (x3_2.set (x8_2 : Int).toNat (⟨(rd_T29 x3_2 x8_2).f0, (rd_T29 x3_2 x8_2).f1, (⟨#[]⟩ : ByteArray)⟩ : S29)) (wrap64 (x8_2 + 1)) s0_0 bt308.2) else (spec_l71Tree.l1 k2 x3_2 (wrap64 (x8_2 + 1)) s0_0 bt308.2))) = some (r1, r2) := by rw [if_neg (show ¬ (false = true) by decide)] at H; exact H
                  clear H
                  have H := H1
                  clear H1
                  replace H := Option.bind_eq_some_iff.mp H
                  obtain ⟨⟨t308, t309⟩, A520, H⟩ := H
                  (try dsimp only at H)
                  have A52 := Aside0.mk A520
                  clear A520
                  by_cases c53 : t308 = 0
                  · rw [if_pos c53] at H
                    have c53b0 : (t308 == 0) = true := beq_iff_eq.mpr c53
                    have c53b1 : (t308 != 0) = false := bne_eq_false_iff_eq.mpr c53
                    clear c53
                    obtain ⟨y310, hy310⟩ : ∃ y_ : List (S29), y_ = (x3_2.set (x8_2 : Int).toNat (⟨(rd_T29 x3_2 x8_2).f0, (rd_T29 x3_2 x8_2).f1, (⟨#[]⟩ : ByteArray)⟩ : S29)) := ⟨_, rfl⟩
                    replace H : (spec_l71Tree.l1 k2 y310 (wrap64 (x8_2 + 1)) s0_0 t309) = some (r1, r2) := by first | (rw [hy310]; with_reducible exact H) | (have H2_ := (Option.bind_some _ _).symm.trans H; rw [hy310]; with_reducible exact H2_) | (have H2_ := (Option.bind_some _ _).symm.trans H; with_reducible exact H2_) | with_reducible exact H | (rw [hy310]; exact H) | exact H
                    have Ny310 := Aside0.mk hy310
                    clear hy310
                    have H' := Aside0.mk H
                    clear H
                    obtain ⟨Ao55, co55, eo55⟩ := Kd.R_slice HO_3.out
                    subst eo55
                    have p306 : 0 ≤ (x8_2 : Int) := of_decide_eq_true (by first | (with_reducible assumption) | assumption)
                    have q306 : x8_2 < (x3_2.length : Int) := of_decide_eq_true (by first | (with_reducible assumption) | assumption)
                    obtain ⟨ad306, e306, hx306_0, hx306_1, hx306_2⟩ := at_T29 (Kd.R_reads' HO_3.out).2.2 x8_2 p306 q306
                    cases e306
                    replace p306 := eq_true p306
                    replace q306 := eq_true q306
                    go_wp2_with (first | ((with_reducible refine gate_callee (f := 60) rfl ?_); refine goesL_ (some 70) rfl rfl Tryd.func60 (by kernel_rfl) rfl #[.string ((rd_T29 x3_2 x8_2).f2)] rfl argsA ?_; (with_reducible refine (spec_l1Text.calls k2 ((rd_T29 x3_2 x8_2).f2) false _ A49.out).mono ?_); rintro e w' ⟨rfl, ⟨nd, rfl⟩⟩; refine ⟨_, rfl, ?_⟩; (try (rw [drewN_self wr]; generalize hq_ : World.drewN wr _ = wr; have n0_ : Aside0 (Kd.R k29 29 wr w.heap.size (fun _ => True) (.slice (some ad306) x3_2.length co55) x3_2) := ⟨by rw [← hq_]; exact (RA HO_3)⟩; have n1_ : Aside0 (IsS92 w0 wr g s0_0 x1001_2) := ⟨by rw [← hq_]; exact stA⟩; have n2_ : Aside0 (KeepBut w wr g none) := ⟨by rw [← hq_]; exact keepA⟩; have n3_ : Aside0 (Below w0.heap.size w0 wr) := ⟨by rw [← hq_]; exact belowA⟩; clear HO_3 HI0 HK HB hq_; have HO_3 := n0_; have HI0 := n1_; have HK := n2_; have HB := n3_; clear n0_ n1_ n2_ n3_))) | (go_at_call 31; (with_reducible refine (spec_l6Rd_pick.calls k2 g s0_0 x1001_2 2 t308 t309 w0 _ ?side1 ?side2 A52.out).mono ?_); (case side1 => exact stA); (case side2 => exact belowA); rintro e w56 ⟨rfl, hi, hb, hk⟩; have n0_ := Aside0.mk (Kd.R_mono (Kd.R_keep (IsS92.apart (show IsS92 w0 _ g s0_0 x1001_2 from stA) (RA HO_3) (by decide)) hk (fun _ h => h.2)) (fun _ h => h.1)); have n1_ := Aside0.mk (KeepBut.trans keepA hk (.inl rfl)); have n2_ := Aside0.mk (hb); have n3_ := Aside0.mk (hi); clear HO_3; clear HK; clear HB; clear HI0; have HO_3 := n0_; have HK := n1_; have HB := n2_; have HI0 := n3_; clear n0_ n1_ n2_ n3_; (try clear hb); (try clear hb2); (try clear hk); (try clear hi); have p54 : 0 ≤ (x8_2 : Int) := of_decide_eq_true (by first | (with_reducible assumption) | assumption); have q54 : (x8_2 : Int) < ((x3_2.length : Int) : Int) := of_decide_eq_true (by first | (with_reducible assumption) | assumption); obtain ⟨go54, co54, eo54, gb54, gl54, cl54, HG54⟩ := Kd.R_form HO_3.out (by omega); (first | cases eo54 | (injection eo54 with ea_ en_ ec_; (first | subst ea_ | (injection ea_ with ea_; subst ea_)); subst ec_; clear en_)); have GB54 := Aside0.mk gb54; have GG54 := Aside0.mk HG54; clear gb54 gl54 HG54; (first | simp only [add_plain] at hx306_0 | skip); (first | simp only [add_plain] at hx306_1 | skip); (first | simp only [add_plain] at hx306_2 | skip); obtain ⟨ce54, hcl54, hM54, hcc54, hfr54⟩ := Kd.R_elem HO_3.out z29 (x8_2 : Int) p54 q54; obtain rfl := k29_openM hM54; have hx54_0 : w56.cell? ⟨go54, (x8_2 : Int).toNat * 3, none⟩ = some (.int .i64 ((rd_T29 x3_2 x8_2).f0)) := hcc54 0 _ rfl; have hx54_1 : w56.cell? ⟨go54, (x8_2 : Int).toNat * 3 + 1, none⟩ = some (.int .i64 ((rd_T29 x3_2 x8_2).f1)) := hcc54 1 _ rfl; have hx54_2 : w56.cell? ⟨go54, (x8_2 : Int).toNat * 3 + 2, none⟩ = some (.string ((rd_T29 x3_2 x8_2).f2)) := hcc54 2 _ rfl; have hf54_0 : w56.frozen? ⟨go54, (x8_2 : Int).toNat * 3, none⟩ = false := hfr54 0; have hf54_1 : w56.frozen? ⟨go54, (x8_2 : Int).toNat * 3 + 1, none⟩ = false := hfr54 1; have hf54_2 : w56.frozen? ⟨go54, (x8_2 : Int).toNat * 3 + 2, none⟩ = false := hfr54 2; clear hcl54 hcc54 hfr54 hM54; replace p54 := eq_true p54; replace q54 := eq_true q54; have HX57 := Aside0.mk (show Kd.R k29 29 w56 w.heap.size (fun _ => True) (.slice (some ⟨go54, 0, none⟩) x3_2.length co55) x3_2 from (RA HO_3)); obtain ⟨ce57, hcl57, hM57, hcc57, hfr57⟩ := Kd.R_elem HX57.out z29 (x8_2 : Int) (of_decide_eq_true (by first | (with_reducible assumption) | assumption)) (by have h_ : (x8_2 : Int) < ((x3_2.length : Int) : Int) := of_decide_eq_true (by first | (with_reducible assumption) | assumption); first | exact h_ | (have e_ := (Kd.R_reads' HO_3.out).1; omega) | simpa using h_); obtain rfl := k29_openM hM57; have HP57 := Kd.R_seg HX57.out (x8_2 : Int) (of_decide_eq_true (by first | (with_reducible assumption) | assumption)) (by have h_ : (x8_2 : Int) < ((x3_2.length : Int) : Int) := of_decide_eq_true (by first | (with_reducible assumption) | assumption); first | exact h_ | (have e_ := (Kd.R_reads' HO_3.out).1; omega) | simpa using h_) (seg := [.string (⟨#[]⟩ : ByteArray)]) (j := 2) hcl57 hcc57 (show 3 ≤ 3 from by decide) (x' := (⟨(rd_T29 x3_2 x8_2).f0, (rd_T29 x3_2 x8_2).f1, (⟨#[]⟩ : ByteArray)⟩ : S29)) (k29_mkM _ _ _ (⟨(rd_T29 x3_2 x8_2).f0, (rd_T29 x3_2 x8_2).f1, (⟨#[]⟩ : ByteArray)⟩ : S29) ) (fun _ hk => hk); have hx57_2 := hcc57 2 _ rfl; (try simp only [show (k29).sz = 3 from rfl, Nat.mul_one, Nat.add_zero] at hx57_2); have hf57_2 := hfr57 2; (try simp only [show (k29).sz = 3 from rfl, Nat.mul_one, Nat.add_zero] at hf57_2); clear hcl57 hcc57 hfr57 hM57) | ((with_reducible refine gate_store (t := 9) (p := 80) rfl ?_); refine store_event (t := 9) (p := 80) (v := ?vo_w58) (w1 := (w56.setCell ⟨go54, (x8_2 : Int).toNat * 3 + 2, none⟩ (.string (⟨#[]⟩ : ByteArray)))) ?hg ?ho ?hn ?hr ?_; (case ho => rfl); (case hg => rfl); (case hn => rfl); (case hr => first | (go_simp; done) | (go_simp; rfl)); intro w58 hw; have hg : w56.grownBy w58 (some go54) := (by rw [hw]; exact HP57.2); have hp_ : Kd.R k29 29 w58 w.heap.size (fun _ => True) (.slice (some ⟨go54, 0, none⟩) x3_2.length co55) y310 := (by rw [hw, Ny310.out]; exact HP57.1); clear HP57; have n0_ := Aside0.mk (hp_); have n1_ := Aside0.mk (IsS92.grown stA hg (IsS92.own_ne HI0.out HO_3.out (by decide))); have n2_ := Aside0.mk ((by rw [hw]; exact below_set (HB.out) (Nat.le_trans HL.out GB54.out) : Below w0.heap.size w0 w58)); have n3_ := Aside0.mk (KeepBut.trans keepA (KeepBut.of_grown hg g) (Kd.R_base2 HO_3.out)); clear HO_3; clear HI0; clear HB; clear HK; have HO_3 := n0_; have HI0 := n1_; have HB := n2_; have HK := n3_; clear n0_ n1_ n2_ n3_; clear hg hw hp_))
                    go_roundg k2
                    case measure => have := HK1.out; have := HK2.out; omega
                    case rel => exact ⟨(y310), (wrap64 (x8_2 + 1)), (t309), (by first | rfl | (simp; done) | (simp [*]; done)), H', ⟨by have := HK1.out; have := HK2.out; omega⟩, ⟨RA HO_3⟩, ⟨stA⟩, ⟨keepA⟩, ⟨belowA⟩⟩
                  · rw [if_neg c53] at H
                    have c53b0 : (t308 == 0) = false := beq_eq_false_iff_ne.mpr c53
                    have c53b1 : (t308 != 0) = true := bne_iff_ne.mpr c53
                    have H' := Aside0.mk H
                    clear H
                    obtain ⟨Ao59, co59, eo59⟩ := Kd.R_slice HO_3.out
                    subst eo59
                    have p306 : 0 ≤ (x8_2 : Int) := of_decide_eq_true (by first | (with_reducible assumption) | assumption)
                    have q306 : x8_2 < (x3_2.length : Int) := of_decide_eq_true (by first | (with_reducible assumption) | assumption)
                    obtain ⟨ad306, e306, hx306_0, hx306_1, hx306_2⟩ := at_T29 (Kd.R_reads' HO_3.out).2.2 x8_2 p306 q306
                    cases e306
                    replace p306 := eq_true p306
                    replace q306 := eq_true q306
                    go_wp2_with (first | ((with_reducible refine gate_callee (f := 60) rfl ?_); refine goesL_ (some 70) rfl rfl Tryd.func60 (by kernel_rfl) rfl #[.string ((rd_T29 x3_2 x8_2).f2)] rfl argsA ?_; (with_reducible refine (spec_l1Text.calls k2 ((rd_T29 x3_2 x8_2).f2) false _ A49.out).mono ?_); rintro e w' ⟨rfl, ⟨nd, rfl⟩⟩; refine ⟨_, rfl, ?_⟩) | (go_at_call 31; (with_reducible refine (spec_l6Rd_pick.calls k2 g s0_0 x1001_2 2 t308 t309 w0 _ ?side1 ?side2 A52.out).mono ?_); (case side1 => exact stA); (case side2 => exact belowA); rintro e w60 ⟨rfl, hi, hb, hk⟩; have n0_ := Aside0.mk (Kd.R_mono (Kd.R_keep (IsS92.apart (show IsS92 w0 _ g s0_0 x1001_2 from stA) (RA HO_3) (by decide)) hk (fun _ h => h.2)) (fun _ h => h.1)); have n1_ := Aside0.mk (KeepBut.trans keepA hk (.inl rfl)); have n2_ := Aside0.mk (hb); have n3_ := Aside0.mk (hi); clear HO_3; clear HK; clear HB; clear HI0; have HO_3 := n0_; have HK := n1_; have HB := n2_; have HI0 := n3_; clear n0_ n1_ n2_ n3_; (try clear hb); (try clear hb2); (try clear hk); (try clear hi)))
                    go_roundg k2
                    case measure => have := HK1.out; have := HK2.out; omega
                    case rel => exact ⟨(x3_2), (wrap64 (x8_2 + 1)), (t309), (by first | rfl | (simp; done) | (simp [*]; done)), H', ⟨by have := HK1.out; have := HK2.out; omega⟩, ⟨RA HO_3⟩, ⟨stA⟩, ⟨keepA⟩, ⟨belowA⟩⟩
              · rw [if_neg c48] at H
                exact absurd H (by simp)
            · rw [if_neg c47] at H
              have c47b0 : decide (x8_2 < (x3_2.length : Int)) = false := decide_eq_false c47
              clear c47
              replace H := Option.bind_eq_some_iff.mp H
              obtain ⟨⟨t311, t312⟩, A610, H⟩ := H
              (try dsimp only at H)
              have A61 := Aside0.mk A610
              clear A610
              by_cases c62 : t311 = 0
              · rw [if_pos c62] at H
                have c62b0 : (t311 == 0) = true := beq_iff_eq.mpr c62
                have c62b1 : (t311 != 0) = false := bne_eq_false_iff_eq.mpr c62
                clear c62
                replace H := Option.bind_eq_some_iff.mp H
                obtain ⟨⟨t313, t314⟩, A630, H⟩ := H
                (try dsimp only at H)
                have A63 := Aside0.mk A630
                clear A630
                replace H := Option.bind_eq_some_iff.mp H
                obtain ⟨⟨t315, t316⟩, A640, H⟩ := H
                (try dsimp only at H)
                have A64 := Aside0.mk A640
                clear A640
                by_cases c65 : 0 ≤ t313
                · rw [if_pos c65] at H
                  have c65b0 : decide (0 ≤ t313) = true := decide_eq_true c65
                  clear c65
                  by_cases c66 : t313 < (x3_2.length : Int)
                  · rw [if_pos c66] at H
                    have c66b0 : decide (t313 < (x3_2.length : Int)) = true := decide_eq_true c66
                    clear c66
                    obtain ⟨y317, hy317⟩ : ∃ y_ : List (S29), y_ = (x3_2.set (t313 : Int).toNat (⟨(rd_T29 x3_2 t313).f0, t315, (rd_T29 x3_2 t313).f2⟩ : S29)) := ⟨_, rfl⟩
                    replace H : (some (y317, t316)) = some (r1, r2) := by first | (rw [hy317]; with_reducible exact H) | (have H2_ := (Option.bind_some _ _).symm.trans H; rw [hy317]; with_reducible exact H2_) | (have H2_ := (Option.bind_some _ _).symm.trans H; with_reducible exact H2_) | with_reducible exact H | (rw [hy317]; exact H) | exact H
                    have Ny317 := Aside0.mk hy317
                    clear hy317
                    simp only [Option.some.injEq, Prod.mk.injEq] at H
                    obtain ⟨rfl, rfl⟩ := H
                    obtain ⟨Ao68, co68, eo68⟩ := Kd.R_slice HO_3.out
                    subst eo68
                    go_wp2_with (first | ((with_reducible refine gate_callee (f := 31) rfl ?_); refine goesL_ (some 82) rfl rfl Tryd.func31 (by kernel_rfl) rfl #[.pointer (some ⟨g, 0, none⟩), .int .i64 24] rfl argsA ?_; (with_reducible refine (spec_l6Rd_pick.calls k2 g s0_0 x1001_2 24 t311 t312 w0 _ ?side1 ?side2 A61.out).mono ?_); (case side1 => exact stA); (case side2 => exact belowA); rintro e w69 ⟨rfl, hi, hb, hk⟩; refine ⟨_, rfl, ?_⟩; have n0_ := Aside0.mk (Kd.R_mono (Kd.R_keep (IsS92.apart (show IsS92 w0 _ g s0_0 x1001_2 from stA) (RA HO_3) (by decide)) hk (fun _ h => h.2)) (fun _ h => h.1)); have n1_ := Aside0.mk (KeepBut.trans keepA hk (.inl rfl)); have n2_ := Aside0.mk (hb); have n3_ := Aside0.mk (hi); clear HO_3; clear HK; clear HB; clear HI0; have HO_3 := n0_; have HK := n1_; have HB := n2_; have HI0 := n3_; clear n0_ n1_ n2_ n3_; (try clear hb); (try clear hb2); (try clear hk); (try clear hi)) | ((with_reducible refine gate_callee (f := 31) rfl ?_); refine goesL_ (some 89) rfl rfl Tryd.func31 (by kernel_rfl) rfl #[.pointer (some ⟨g, 0, none⟩), .int .i64 (x3_2.length : Int)] rfl argsA ?_; (with_reducible refine (spec_l6Rd_pick.calls k2 g s0_0 t312 (x3_2.length : Int) t313 t314 w0 _ ?side1 ?side2 A63.out).mono ?_); (case side1 => exact stA); (case side2 => exact belowA); rintro e w70 ⟨rfl, hi, hb, hk⟩; refine ⟨_, rfl, ?_⟩; have n0_ := Aside0.mk (Kd.R_mono (Kd.R_keep (IsS92.apart (show IsS92 w0 _ g s0_0 t312 from stA) (RA HO_3) (by decide)) hk (fun _ h => h.2)) (fun _ h => h.1)); have n1_ := Aside0.mk (KeepBut.trans keepA hk (.inl rfl)); have n2_ := Aside0.mk (hb); have n3_ := Aside0.mk (hi); clear HO_3; clear HK; clear HB; clear HI0; have HO_3 := n0_; have HK := n1_; have HB := n2_; have HI0 := n3_; clear n0_ n1_ n2_ n3_; (try clear hb); (try clear hb2); (try clear hk); (try clear hi)) | ((with_reducible refine gate_callee (f := 31) rfl ?_); refine goesL_ (some 91) rfl rfl Tryd.func31 (by kernel_rfl) rfl #[.pointer (some ⟨g, 0, none⟩), .int .i64 5] rfl argsA ?_; (with_reducible refine (spec_l6Rd_pick.calls k2 g s0_0 t314 5 t315 t316 w0 _ ?side1 ?side2 A64.out).mono ?_); (case side1 => exact stA); (case side2 => exact belowA); rintro e w71 ⟨rfl, hi, hb, hk⟩; refine ⟨_, rfl, ?_⟩; have n0_ := Aside0.mk (Kd.R_mono (Kd.R_keep (IsS92.apart (show IsS92 w0 _ g s0_0 t314 from stA) (RA HO_3) (by decide)) hk (fun _ h => h.2)) (fun _ h => h.1)); have n1_ := Aside0.mk (KeepBut.trans keepA hk (.inl rfl)); have n2_ := Aside0.mk (hb); have n3_ := Aside0.mk (hi); clear HO_3; clear HK; clear HB; clear HI0; have HO_3 := n0_; have HK := n1_; have HB := n2_; have HI0 := n3_; clear n0_ n1_ n2_ n3_; (try clear hb); (try clear hb2); (try clear hk); (try clear hi); have p67 : 0 ≤ (t313 : Int) := of_decide_eq_true (by first | (with_reducible assumption) | assumption); have q67 : (t313 : Int) < ((x3_2.length : Int) : Int) := of_decide_eq_true (by first | (with_reducible assumption) | assumption); obtain ⟨go67, co67, eo67, gb67, gl67, cl67, HG67⟩ := Kd.R_form HO_3.out (by omega); (first | cases eo67 | (injection eo67 with ea_ en_ ec_; (first | subst ea_ | (injection ea_ with ea_; subst ea_)); subst ec_; clear en_)); have GB67 := Aside0.mk gb67; have GG67 := Aside0.mk HG67; clear gb67 gl67 HG67; obtain ⟨ce67, hcl67, hM67, hcc67, hfr67⟩ := Kd.R_elem HO_3.out z29 (t313 : Int) p67 q67; obtain rfl := k29_openM hM67; have hx67_0 : w71.cell? ⟨go67, (t313 : Int).toNat * 3, none⟩ = some (.int .i64 ((rd_T29 x3_2 t313).f0)) := hcc67 0 _ rfl; have hx67_1 : w71.cell? ⟨go67, (t313 : Int).toNat * 3 + 1, none⟩ = some (.int .i64 ((rd_T29 x3_2 t313).f1)) := hcc67 1 _ rfl; have hx67_2 : w71.cell? ⟨go67, (t313 : Int).toNat * 3 + 2, none⟩ = some (.string ((rd_T29 x3_2 t313).f2)) := hcc67 2 _ rfl; have hf67_0 : w71.frozen? ⟨go67, (t313 : Int).toNat * 3, none⟩ = false := hfr67 0; have hf67_1 : w71.frozen? ⟨go67, (t313 : Int).toNat * 3 + 1, none⟩ = false := hfr67 1; have hf67_2 : w71.frozen? ⟨go67, (t313 : Int).toNat * 3 + 2, none⟩ = false := hfr67 2; clear hcl67 hcc67 hfr67 hM67; replace p67 := eq_true p67; replace q67 := eq_true q67; have HX72 := Aside0.mk (show Kd.R k29 29 w71 w.heap.size (fun _ => True) (.slice (some ⟨go67, 0, none⟩) x3_2.length co68) x3_2 from (RA HO_3)); obtain ⟨ce72, hcl72, hM72, hcc72, hfr72⟩ := Kd.R_elem HX72.out z29 (t313 : Int) (of_decide_eq_true (by first | (with_reducible assumption) | assumption)) (by have h_ : (t313 : Int) < ((x3_2.length : Int) : Int) := of_decide_eq_true (by first | (with_reducible assumption) | assumption); first | exact h_ | (have e_ := (Kd.R_reads' HO_3.out).1; omega) | simpa using h_); obtain rfl := k29_openM hM72; have HP72 := Kd.R_seg HX72.out (t313 : Int) (of_decide_eq_true (by first | (with_reducible assumption) | assumption)) (by have h_ : (t313 : Int) < ((x3_2.length : Int) : Int) := of_decide_eq_true (by first | (with_reducible assumption) | assumption); first | exact h_ | (have e_ := (Kd.R_reads' HO_3.out).1; omega) | simpa using h_) (seg := [.int .i64 t315]) (j := 1) hcl72 hcc72 (show 2 ≤ 3 from by decide) (x' := (⟨(rd_T29 x3_2 t313).f0, t315, (rd_T29 x3_2 t313).f2⟩ : S29)) (k29_mkM _ _ _ (⟨(rd_T29 x3_2 t313).f0, t315, (rd_T29 x3_2 t313).f2⟩ : S29) ) (fun _ hk => hk); have hx72_1 := hcc72 1 _ rfl; (try simp only [show (k29).sz = 3 from rfl, Nat.mul_one, Nat.add_zero] at hx72_1); have hf72_1 := hfr72 1; (try simp only [show (k29).sz = 3 from rfl, Nat.mul_one, Nat.add_zero] at hf72_1); clear hcl72 hcc72 hfr72 hM72) | ((with_reducible refine gate_store (t := 3) (p := 93) rfl ?_); refine store_event (t := 3) (p := 93) (v := ?vo_w73) (w1 := (w71.setCell ⟨go67, (t313 : Int).toNat * 3 + 1, none⟩ (.int .i64 t315))) ?hg ?ho ?hn ?hr ?_; (case ho => rfl); (case hg => rfl); (case hn => rfl); (case hr => first | (go_simp; done) | (go_simp; rfl)); intro w73 hw; have hg : w71.grownBy w73 (some go67) := (by rw [hw]; exact HP72.2); have hp_ : Kd.R k29 29 w73 w.heap.size (fun _ => True) (.slice (some ⟨go67, 0, none⟩) x3_2.length co68) y317 := (by rw [hw, Ny317.out]; exact HP72.1); clear HP72; have n0_ := Aside0.mk (hp_); have n1_ := Aside0.mk (IsS92.grown stA hg (IsS92.own_ne HI0.out HO_3.out (by decide))); have n2_ := Aside0.mk ((by rw [hw]; exact below_set (HB.out) (Nat.le_trans HL.out GB67.out) : Below w0.heap.size w0 w73)); have n3_ := Aside0.mk (KeepBut.trans keepA (KeepBut.of_grown hg g) (Kd.R_base2 HO_3.out)); clear HO_3; clear HI0; clear HB; clear HK; have HO_3 := n0_; have HI0 := n1_; have HB := n2_; have HK := n3_; clear n0_ n1_ n2_ n3_; clear hg hw hp_))
                    go_ret
                    exact ⟨_, endA, Kd.Q_of_R (RA HO_3), stA, belowA, keepA⟩
                  · rw [if_neg c66] at H
                    exact absurd H (by simp)
                · rw [if_neg c65] at H
                  exact absurd H (by simp)
              · rw [if_neg c62] at H
                have c62b0 : (t311 == 0) = false := beq_eq_false_iff_ne.mpr c62
                have c62b1 : (t311 != 0) = true := bne_iff_ne.mpr c62
                by_cases c74 : t311 = 1
                · rw [if_pos c74] at H
                  have c74b0 : (t311 == 1) = true := beq_iff_eq.mpr c74
                  have c74b1 : (t311 != 1) = false := bne_eq_false_iff_eq.mpr c74
                  clear c74
                  replace H := Option.bind_eq_some_iff.mp H
                  obtain ⟨⟨t318, t319⟩, A750, H⟩ := H
                  (try dsimp only at H)
                  have A75 := Aside0.mk A750
                  clear A750
                  by_cases c76 : 0 ≤ t318
                  · rw [if_pos c76] at H
                    have c76b0 : decide (0 ≤ t318) = true := decide_eq_true c76
                    clear c76
                    by_cases c77 : t318 < (x3_2.length : Int)
                    · rw [if_pos c77] at H
                      have c77b0 : decide (t318 < (x3_2.length : Int)) = true := decide_eq_true c77
                      clear c77
                      by_cases c78 : x3_2.length < 4398046511104
                      · rw [if_pos c78] at H
                        have LMc78 := Aside0.mk c78
                        clear c78
                        obtain ⟨y321, hy321⟩ : ∃ y_ : List (S29), y_ = (x3_2 ++ [(⟨(rd_T29 x3_2 t318).f0, (rd_T29 x3_2 t318).f1, (rd_T29 x3_2 t318).f2⟩ : S29)]) := ⟨_, rfl⟩
                        replace H : (some (y321, t319)) = some (r1, r2) := by first | (rw [hy321]; with_reducible exact H) | (have H2_ := (Option.bind_some _ _).symm.trans H; rw [hy321]; with_reducible exact H2_) | (have H2_ := (Option.bind_some _ _).symm.trans H; with_reducible exact H2_) | with_reducible exact H | (rw [hy321]; exact H) | exact H
                        have Ny321 := Aside0.mk hy321
                        clear hy321
                        simp only [Option.some.injEq, Prod.mk.injEq] at H
                        obtain ⟨rfl, rfl⟩ := H
                        obtain ⟨Ao79, co79, eo79⟩ := Kd.R_slice HO_3.out
                        subst eo79
                        go_wp2_with (first | ((with_reducible refine gate_callee (f := 31) rfl ?_); refine goesL_ (some 82) rfl rfl Tryd.func31 (by kernel_rfl) rfl #[.pointer (some ⟨g, 0, none⟩), .int .i64 24] rfl argsA ?_; (with_reducible refine (spec_l6Rd_pick.calls k2 g s0_0 x1001_2 24 t311 t312 w0 _ ?side1 ?side2 A61.out).mono ?_); (case side1 => exact stA); (case side2 => exact belowA); rintro e w80 ⟨rfl, hi, hb, hk⟩; refine ⟨_, rfl, ?_⟩; have n0_ := Aside0.mk (Kd.R_mono (Kd.R_keep (IsS92.apart (show IsS92 w0 _ g s0_0 x1001_2 from stA) (RA HO_3) (by decide)) hk (fun _ h => h.2)) (fun _ h => h.1)); have n1_ := Aside0.mk (KeepBut.trans keepA hk (.inl rfl)); have n2_ := Aside0.mk (hb); have n3_ := Aside0.mk (hi); clear HO_3; clear HK; clear HB; clear HI0; have HO_3 := n0_; have HK := n1_; have HB := n2_; have HI0 := n3_; clear n0_ n1_ n2_ n3_; (try clear hb); (try clear hb2); (try clear hk); (try clear hi)) | ((with_reducible refine gate_callee (f := 31) rfl ?_); refine goesL_ (some 101) rfl rfl Tryd.func31 (by kernel_rfl) rfl #[.pointer (some ⟨g, 0, none⟩), .int .i64 (x3_2.length : Int)] rfl argsA ?_; (with_reducible refine (spec_l6Rd_pick.calls k2 g s0_0 t312 (x3_2.length : Int) t318 t319 w0 _ ?side1 ?side2 A75.out).mono ?_); (case side1 => exact stA); (case side2 => exact belowA); rintro e w81 ⟨rfl, hi, hb, hk⟩; refine ⟨_, rfl, ?_⟩; have n0_ := Aside0.mk (Kd.R_mono (Kd.R_keep (IsS92.apart (show IsS92 w0 _ g s0_0 t312 from stA) (RA HO_3) (by decide)) hk (fun _ h => h.2)) (fun _ h => h.1)); have n1_ := Aside0.mk (KeepBut.trans keepA hk (.inl rfl)); have n2_ := Aside0.mk (hb); have n3_ := Aside0.mk (hi); clear HO_3; clear HK; clear HB; clear HI0; have HO_3 := n0_; have HK := n1_; have HB := n2_; have HI0 := n3_; clear n0_ n1_ n2_ n3_; (try clear hb); (try clear hb2); (try clear hk); (try clear hi); have p320 : 0 ≤ (t318 : Int) := of_decide_eq_true (by first | (with_reducible assumption) | assumption); have q320 : t318 < (x3_2.length : Int) := of_decide_eq_true (by first | (with_reducible assumption) | assumption); obtain ⟨ad320, e320, hx320_0, hx320_1, hx320_2⟩ := at_T29 (Kd.R_reads' HO_3.out).2.2 t318 p320 q320; cases e320; replace p320 := eq_true p320; replace q320 := eq_true q320) | ((with_reducible refine gate_builtin (b := .append) (xs := #[.tmp 96, .tmp 104]) rfl ?_); at_builtin; refine Kd.R_append k29 w.heap.size rfl (.tmp 96) (.tmp 104) 23 29 (.agg #[(.int .i64 0), (.int .i64 0), (.string ⟨#[]⟩)]) 32 rfl Tryd.underlying23 info29 rfl (by decide) (by omega) (.slice (some ad320) x3_2.length co79) x3_2 (⟨(rd_T29 x3_2 t318).f0, (rd_T29 x3_2 t318).f1, (rd_T29 x3_2 t318).f2⟩ : S29) [.int .i64 ((rd_T29 x3_2 t318).f0), .int .i64 ((rd_T29 x3_2 t318).f1), .string ((rd_T29 x3_2 t318).f2)] (fun _ => True) (fun _ => False) rfl rfl ?aP (fun _ hk => hk.elim) ?aF ?aO (Below.refl _ _) ?aS ?aL ?_; (case aP => exact k29_mkM _ _ _ (⟨(rd_T29 x3_2 t318).f0, (rd_T29 x3_2 t318).f1, (rd_T29 x3_2 t318).f2⟩ : S29)); (case aF => exact (fun _ _ => trivial)); (case aO => exact (RA HO_3)); (case aS => exact (keep_size (w := w) (g := g) (row := none) keepA)); (case aL => have := LMc78.out; omega); intro v322 w82 ho hb hg hat; rw [← Ny321.out] at ho; have n0_ := Aside0.mk (IsS92.grown stA hg (IsS92.own_ne HI0.out HO_3.out (by decide))); have n1_ := Aside0.mk (below_weaken belowA HL.out hb); have n2_ := Aside0.mk (KeepBut.trans keepA (KeepBut.of_grown hg g) (Kd.R_base2 HO_3.out)); have n3_ := Aside0.mk (ho); clear HI0; clear HB; clear HK; clear HO_3; have HI0 := n0_; have HB := n1_; have HK := n2_; have HO323 := n3_; clear n0_ n1_ n2_ n3_; clear ho hb hg hat))
                        go_ret
                        exact ⟨_, endA, Kd.Q_of_R (RA HO323), stA, belowA, keepA⟩
                      · rw [if_neg c78] at H
                        exact absurd H (by simp)
                    · rw [if_neg c77] at H
                      exact absurd H (by simp)
                  · rw [if_neg c76] at H
                    exact absurd H (by simp)
                · rw [if_neg c74] at H
                  have c74b0 : (t311 == 1) = false := beq_eq_false_iff_ne.mpr c74
                  have c74b1 : (t311 != 1) = true := bne_iff_ne.mpr c74
                  by_cases c83 : t311 = 2
                  · rw [if_pos c83] at H
                    have c83b0 : (t311 == 2) = true := beq_iff_eq.mpr c83
                    have c83b1 : (t311 != 2) = false := bne_eq_false_iff_eq.mpr c83
                    clear c83
                    by_cases c84 : 1 ≤ (x3_2.length : Int)
                    · rw [if_pos c84] at H
                      have c84b0 := eq_true c84
                      have c84b1 : decide (1 ≤ (x3_2.length : Int)) = true := decide_eq_true c84
                      clear c84
                      obtain ⟨y324, hy324⟩ : ∃ y_ : List (S29), y_ = (x3_2.drop (1 : Int).toNat) := ⟨_, rfl⟩
                      replace H : (some (y324, t312)) = some (r1, r2) := by first | (rw [hy324]; with_reducible exact H) | (have H2_ := (Option.bind_some _ _).symm.trans H; rw [hy324]; with_reducible exact H2_) | (have H2_ := (Option.bind_some _ _).symm.trans H; with_reducible exact H2_) | with_reducible exact H | (rw [hy324]; exact H) | exact H
                      have Ny324 := Aside0.mk hy324
                      clear hy324
                      simp only [Option.some.injEq, Prod.mk.injEq] at H
                      obtain ⟨rfl, rfl⟩ := H
                      obtain ⟨Ao85, co85, eo85⟩ := Kd.R_slice HO_3.out
                      subst eo85
                      go_wp2_with (first | ((with_reducible refine gate_callee (f := 31) rfl ?_); refine goesL_ (some 82) rfl rfl Tryd.func31 (by kernel_rfl) rfl #[.pointer (some ⟨g, 0, none⟩), .int .i64 24] rfl argsA ?_; (with_reducible refine (spec_l6Rd_pick.calls k2 g s0_0 x1001_2 24 t311 t312 w0 _ ?side1 ?side2 A61.out).mono ?_); (case side1 => exact stA); (case side2 => exact belowA); rintro e w86 ⟨rfl, hi, hb, hk⟩; refine ⟨_, rfl, ?_⟩; have n0_ := Aside0.mk (Kd.R_mono (Kd.R_keep (IsS92.apart (show IsS92 w0 _ g s0_0 x1001_2 from stA) (RA HO_3) (by decide)) hk (fun _ h => h.2)) (fun _ h => h.1)); have n1_ := Aside0.mk (KeepBut.trans keepA hk (.inl rfl)); have n2_ := Aside0.mk (hb); have n3_ := Aside0.mk (hi); clear HO_3; clear HK; clear HB; clear HI0; have HO_3 := n0_; have HK := n1_; have HB := n2_; have HI0 := n3_; clear n0_ n1_ n2_ n3_; (try clear hb); (try clear hb2); (try clear hk); (try clear hi); have q87 : (1 : Int) ≤ ((x3_2.length : Int) : Int) := of_decide_eq_true (by first | (with_reducible assumption) | assumption); obtain ⟨i087, hi087, _, hsz87, _⟩ := info_parts info29; have hcut87 := cut_from (P := Tryd.prog) 23 29 .i64 Tryd.underlying23 hi087 3 hsz87 Ao85 x3_2.length co85 1 (by omega) q87; have hr87 := Kd.Q_drop (k := (1 : Int).toNat) (Kd.Q_of_R HO_3.out) (by omega); obtain ⟨A87, hA87⟩ : ∃ A1, A1 = (if co85 = (1 : Int).toNat then Ao85 else (Ao85 : Option Addr).map (·.add ((1 : Int).toNat * 3))) := ⟨_, rfl⟩; obtain ⟨c87, hc87⟩ : ∃ c1, c1 = co85 - (1 : Int).toNat := ⟨_, rfl⟩; have hy87 : y324.length = x3_2.length - (1 : Int).toNat := (by rw [Ny324.out, List.length_drop]); rw [← Ny324.out] at hr87; rw [← hy87, ← hA87, ← hc87] at hcut87; replace hr87 : Kd.Q k29 29 w86 w.heap.size (fun _ => True) (.slice A87 y324.length c87) y324 := (by rw [hA87, hc87, hy87]; exact hr87); have HE87 : Aside0 ((Value.slice A87 y324.length c87).ownBlock = (.slice Ao85 x3_2.length co85 : Value).ownBlock) := ⟨by rw [hA87]; split <;> (cases (Ao85 : Option Addr) <;> rfl)⟩; clear hy87 hi087 hsz87 HO_3 hA87 hc87; have HO326 := Aside0.mk hr87; clear hr87; replace q87 := eq_true q87))
                      go_ret
                      exact ⟨_, endA, by (with_reducible repeat (first | apply Kd.Q_alloc | apply Kd.Q_drewN | apply Kd.Q_drew)); exact HO326.out, stA, belowA, keepA⟩
                    · rw [if_neg c84] at H
                      exact absurd H (by simp)
                  · rw [if_neg c83] at H
                    have c83b0 : (t311 == 2) = false := beq_eq_false_iff_ne.mpr c83
                    have c83b1 : (t311 != 2) = true := bne_iff_ne.mpr c83
                    simp only [Option.some.injEq, Prod.mk.injEq] at H
                    obtain ⟨rfl, rfl⟩ := H
                    obtain ⟨Ao88, co88, eo88⟩ := Kd.R_slice HO_3.out
                    subst eo88
                    go_wp2_with (first | ((with_reducible refine gate_callee (f := 31) rfl ?_); refine goesL_ (some 82) rfl rfl Tryd.func31 (by kernel_rfl) rfl #[.pointer (some ⟨g, 0, none⟩), .int .i64 24] rfl argsA ?_; (with_reducible refine (spec_l6Rd_pick.calls k2 g s0_0 x1001_2 24 t311 t312 w0 _ ?side1 ?side2 A61.out).mono ?_); (case side1 => exact stA); (case side2 => exact belowA); rintro e w89 ⟨rfl, hi, hb, hk⟩; refine ⟨_, rfl, ?_⟩; have n0_ := Aside0.mk (Kd.R_mono (Kd.R_keep (IsS92.apart (show IsS92 w0 _ g s0_0 x1001_2 from stA) (RA HO_3) (by decide)) hk (fun _ h => h.2)) (fun _ h => h.1)); have n1_ := Aside0.mk (KeepBut.trans keepA hk (.inl rfl)); have n2_ := Aside0.mk (hb); have n3_ := Aside0.mk (hi); clear HO_3; clear HK; clear HB; clear HI0; have HO_3 := n0_; have HK := n1_; have HB := n2_; have HI0 := n3_; clear n0_ n1_ n2_ n3_; (try clear hb); (try clear hb2); (try clear hk); (try clear hi)))
                    go_ret
                    exact ⟨_, endA, Kd.Q_of_R (RA HO_3), stA, belowA, keepA⟩

/-! ### spec_DrawTreeText: function 26 -/
def spec_DrawTreeText.f (k : Nat) (l0 : List Int) : Option ((List (S29))) := (spec_l6Open.f l0).bind fun bt327 => ((spec_l71Tree.f k bt327.1 bt327.2).bind fun bt330 => (some bt330.1))
theorem spec_DrawTreeText.mono : ∀ a0 k, LeO (spec_DrawTreeText.f k a0) (spec_DrawTreeText.f (k + 1) a0) := by
  intro a0 k
  unfold spec_DrawTreeText.f
  repeat' first
      | (with_reducible exact spec_l71Tree.mono _ _ _)
      | (with_reducible exact LeO.refl _)
      | (with_reducible exact LeO.none _)
      | (with_reducible refine LeO.ite ?_ ?_)
      | (with_reducible refine LeO.bind ?_ (fun _ => ?_))
      | exact spec_l71Tree.mono _ _ _
      | exact LeO.none _
      | refine LeO.ite ?_ ?_
      | refine LeO.bind ?_ (fun _ => ?_)
set_option maxHeartbeats 8000000 in
set_option maxRecDepth 100000 in
theorem spec_DrawTreeText.calls (k : Nat) (A0 : Option Addr) (c0 : Nat) (l0 : List Int) (r : List (S29)) (w : World) (hr0 : Kd.C (Kd.int .u8) w A0 l0.length l0) (hc0 : l0.length ≤ c0) (h : spec_DrawTreeText.f k l0 = some r) :
    Calls Tryd.prog 26 #[.slice A0 l0.length c0] w fun e w' => ∃ v0_ : Value, e = .returned (v0_) ∧ Kd.Q k29 29 w' w.heap.size (fun _ => True) v0_ r ∧ Below w.heap.size w w' := by
  have HR0 := Aside0.mk hr0
  have HC0 := Aside0.mk hc0
  clear hr0 hc0
  have HB := Aside0.mk (Below.refl w.heap.size w)
  have H : ((spec_l6Open.f l0).bind fun bt327 => ((spec_l71Tree.f k bt327.1 bt327.2).bind fun bt330 => (some bt330.1))) = some r := h
  clear h
  replace H := Option.bind_eq_some_iff.mp H
  obtain ⟨⟨t327, t328⟩, A20, H⟩ := H
  (try dsimp only at H)
  have A2 := Aside0.mk A20
  clear A20
  replace H := Option.bind_eq_some_iff.mp H
  obtain ⟨⟨t330, t333⟩, A30, H⟩ := H
  (try dsimp only at H)
  have A3 := Aside0.mk A30
  clear A30
  obtain rfl := Option.some.inj H
  go_enter Tryd.func26, Tryd.ntmps26
  go_wp2_with (first | ((with_reducible refine gate_callee (f := 29) rfl ?_); refine goesL_ (some 4) rfl rfl Tryd.func29 (by kernel_rfl) rfl #[.slice A0 l0.length c0] rfl argsA ?_; (with_reducible refine (spec_l6Open.calls _ _ l0 t327 t328 w _ ?side1 ?side2 ?side3 A2.out).mono ?_); (case side1 => exact belowA); (case side2 => exact HR0.out); (case side3 => exact HC0.out); rintro e w4 ⟨g329, rfl, hi, hb, hb2⟩; refine ⟨_, rfl, ?_⟩; have n0_ := Aside0.mk (hb); have n1_ := Aside0.mk (hi); clear HB; have HB := n0_; have HI329 := n1_; clear n0_ n1_; (try clear hb); (try clear hb2); (try clear hk); (try clear hi)) | ((with_reducible refine gate_callee (f := 30) rfl ?_); refine goesL_ (some 5) rfl rfl Tryd.func30 (by kernel_rfl) rfl #[.pointer (some ⟨g329, 0, none⟩)] rfl argsA ?_; (with_reducible refine (spec_l71Tree.calls k g329 t327 t328 t330 t333 w _ ?side1 ?side2 A3.out).mono ?_); (case side1 => exact stA); (case side2 => exact belowA); rintro e w5 ⟨v331, rfl, ho0, hi, hb, hk⟩; refine ⟨_, rfl, ?_⟩; have n0_ := Aside0.mk (Kd.Q_lower ho0 (below_size belowA)); have n1_ := Aside0.mk (hb); have n2_ := Aside0.mk (hi); clear HB; clear HI329; have HO332 := n0_; have HB := n1_; have HI329 := n2_; clear n0_ n1_ n2_; (try clear hb); (try clear hb2); (try clear hk); (try clear hi); (try clear ho0)))
  go_ret
  exact ⟨_, endA, by (with_reducible repeat (first | apply Kd.Q_alloc | apply Kd.Q_drewN | apply Kd.Q_drew)); exact HO332.out, belowA⟩

/-! ### impl_TreeUnder: function 28 -/
def impl_TreeUnder.f (l0 : List (S29)) (a1 : Int) (a2 : Int) : Option Bool := some (treeUnder l0 a1 a2)
theorem impl_TreeUnder.calls (A0 : Option Addr) (c0 : Nat) (l0 : List (S29)) (a1 : Int) (a2 : Int) (r : Bool) (w : World) (hr0 : Kd.C k29 w A0 l0.length l0) (hc0 : l0.length ≤ c0) (ht : TabOk w) (h : impl_TreeUnder.f l0 a1 a2 = some r) :
    Calls Tryd.prog 28 #[.slice A0 l0.length c0, .int .i64 a1, .int .i64 a2] w fun e w' => e = .returned (.bool r) ∧ Below w.heap.size w w' := by
  have h2 := treeUnder_calls A0 c0 l0 a1 a2 w hr0 hc0 ht
  rw [show treeUnder l0 a1 a2 = r from Option.some.inj h] at h2
  exact h2


end Go.Proofs.YtdapbpgooehibaaDoor.P
