-- Written by wip/tools/pprint.py (a program of this session) over the kit's printer; not trusted: Lean checks it.
import Derived.Test.YtkoodlmedgfdjaaGreatDoorPx0
import Derived.Test.YtkoodlmedgfdjaaGreatDoorCutC
import Derived.Test.YtkoodlmedgfdjaaGreatDoorPx2
import Derived.Test.YtkoodlmedgfdjaaGreatDoorPx3
import Derived.Test.YtkoodlmedgfdjaaGreatDoorPx4
import Derived.Test.YtkoodlmedgfdjaaGreatDoorWApart
import Derived.Test.YtkoodlmedgfdjaaGreatDoorWFoot
import Derived.Test.YtkoodlmedgfdjaaGreatDoorWKept
import Derived.Test.YtkoodlmedgfdjaaGreatDoorWLast
import Derived.Test.YtkoodlmedgfdjaaGreatDoorWMore
import Derived.Test.YtkoodlmedgfdjaaGreatDoorWN
import Derived.Test.YtkoodlmedgfdjaaGreatDoorWRepsOne
import Derived.Test.YtkoodlmedgfdjaaGreatDoorWShare
import Derived.Test.YtkoodlmedgfdjaaGreatDoorWTab
import Derived.Test.YtkoodlmedgfdjaaGreatDoorWWords
namespace Go.Proofs.YtkoodlmedgfdjaaGreatDoor.P
open Go.RowKit Go.Proofs.YtkoodlmedgfdjaaGreatDoorW.PrintWords Go.Proofs.YtkoodlmedgfdjaaGreatDoorW.PrintLast Go.Proofs.YtkoodlmedgfdjaaGreatDoorW.PrintMore
attribute [local go_sem] cell_set_set cell_set_far_set max2_int min2_int max_two min_two max_three min_three max_four min_four   -- for this text's walks alone
set_option linter.unusedVariables false
set_option linter.unusedSimpArgs false

/-! ### spec_DrawOpRead: function 11 -/
def spec_DrawOpRead.f (k : Nat) (l0 : List Int) : Option (ByteArray) := (spec_l6Open.f l0).bind fun bt192 => ((spec_l71Op.f k bt192.1 bt192.2).bind fun bt195 => ((spec_OpShow.f k bt195.1 bt195.2.1 bt195.2.2.1 bt195.2.2.2.1 bt195.2.2.2.2.1).bind fun t201 => ((spec_l6Rd_pick.f k bt192.1 bt195.2.2.2.2.2 (wrap64 ((t201.size : Int) + 1))).bind fun bt202 => ((spec_l6Rd_pick.f k bt192.1 bt202.2 7).bind fun bt204 => (if bt204.1 = 0 then (if 0 ≤ bt202.1 then (if bt202.1 ≤ (t201.size : Int) then (some (t201.extract 0 (bt202.1 : Int).toNat)) else (none)) else (none)) else (if bt204.1 = 1 then (if 0 ≤ bt202.1 then (if bt202.1 ≤ (t201.size : Int) then ((spec_l6Rd_of.f k bt192.1 bt204.2 (([(⟨#[48]⟩ : ByteArray), (⟨#[32]⟩ : ByteArray), (⟨#[49]⟩ : ByteArray), (⟨#[97]⟩ : ByteArray), (⟨#[39]⟩ : ByteArray)] : List ByteArray))).bind fun bt209 => (if (t201.extract 0 (bt202.1 : Int).toNat).size + bt209.1.size ≤ 9223372036854775807 then (if ((t201.extract 0 (bt202.1 : Int).toNat) ++ bt209.1).size + (t201.extract (bt202.1 : Int).toNat t201.size).size ≤ 9223372036854775807 then (some (((t201.extract 0 (bt202.1 : Int).toNat) ++ bt209.1) ++ (t201.extract (bt202.1 : Int).toNat t201.size))) else (none)) else (none))) else (none)) else (none)) else (some t201)))))))
theorem spec_DrawOpRead.mono : ∀ a0 k, LeO (spec_DrawOpRead.f k a0) (spec_DrawOpRead.f (k + 1) a0) := by
  intro a0 k
  unfold spec_DrawOpRead.f
  repeat' first
      | (with_reducible exact spec_OpShow.mono _ _ _ _ _ _)
      | (with_reducible exact spec_l6Rd_of.mono _ _ _ _)
      | (with_reducible exact spec_l6Rd_pick.mono _ _ _ _)
      | (with_reducible exact spec_l71Op.mono _ _ _)
      | (with_reducible exact LeO.refl _)
      | (with_reducible exact LeO.none _)
      | (with_reducible refine LeO.ite ?_ ?_)
      | (with_reducible refine LeO.bind ?_ (fun _ => ?_))
      | exact spec_OpShow.mono _ _ _ _ _ _
      | exact spec_l6Rd_of.mono _ _ _ _
      | exact spec_l6Rd_pick.mono _ _ _ _
      | exact spec_l71Op.mono _ _ _
      | exact LeO.none _
      | refine LeO.ite ?_ ?_
      | refine LeO.bind ?_ (fun _ => ?_)
def spec_DrawOpRead.T8 : Bool × List (List Nat × List Nat) := (true, [([], []), ([], []), ([0, 1], [0, 1]), ([], []), ([], []), ([3, 4], [3, 4]), ([2, 5], [2, 5]), ([], []), ([], []), ([7, 8], [7, 8]), ([6, 9], [6, 9]), ([10, 5, 0, 1, 2, 3, 4, 5, 6, 7, 8, 9, 10], [10])])
def spec_DrawOpRead.B8 : List Nat := [0, 0, 3, 0, 0, 24, 63, 0, 0, 384, 1023, 2047]
theorem spec_DrawOpRead.tab8 : rtab .any (opsOf Tryz.f11 8) = spec_DrawOpRead.T8 := by kernel_rfl
theorem spec_DrawOpRead.bits8 : waitsOk spec_DrawOpRead.T8.2 spec_DrawOpRead.B8 = true := by kernel_rfl
set_option maxHeartbeats 8000000 in
set_option maxRecDepth 100000 in
theorem spec_DrawOpRead.calls (k : Nat) (A0 : Option Addr) (c0 : Nat) (l0 : List Int) (r : ByteArray) (w : World) (hr0 : Kd.C (Kd.int .u8) w A0 l0.length l0) (hc0 : l0.length ≤ c0) (h : spec_DrawOpRead.f k l0 = some r) :
    Calls Tryz.prog 11 #[.slice A0 l0.length c0] w fun e w' => e = .returned (.string r) ∧ Below w.heap.size w w' := by
  have HR0 := Aside0.mk hr0
  have HC0 := Aside0.mk hc0
  clear hr0 hc0
  have HB := Aside0.mk (Below.refl w.heap.size w)
  have H : ((spec_l6Open.f l0).bind fun bt192 => ((spec_l71Op.f k bt192.1 bt192.2).bind fun bt195 => ((spec_OpShow.f k bt195.1 bt195.2.1 bt195.2.2.1 bt195.2.2.2.1 bt195.2.2.2.2.1).bind fun t201 => ((spec_l6Rd_pick.f k bt192.1 bt195.2.2.2.2.2 (wrap64 ((t201.size : Int) + 1))).bind fun bt202 => ((spec_l6Rd_pick.f k bt192.1 bt202.2 7).bind fun bt204 => (if bt204.1 = 0 then (if 0 ≤ bt202.1 then (if bt202.1 ≤ (t201.size : Int) then (some (t201.extract 0 (bt202.1 : Int).toNat)) else (none)) else (none)) else (if bt204.1 = 1 then (if 0 ≤ bt202.1 then (if bt202.1 ≤ (t201.size : Int) then ((spec_l6Rd_of.f k bt192.1 bt204.2 (([(⟨#[48]⟩ : ByteArray), (⟨#[32]⟩ : ByteArray), (⟨#[49]⟩ : ByteArray), (⟨#[97]⟩ : ByteArray), (⟨#[39]⟩ : ByteArray)] : List ByteArray))).bind fun bt209 => (if (t201.extract 0 (bt202.1 : Int).toNat).size + bt209.1.size ≤ 9223372036854775807 then (if ((t201.extract 0 (bt202.1 : Int).toNat) ++ bt209.1).size + (t201.extract (bt202.1 : Int).toNat t201.size).size ≤ 9223372036854775807 then (some (((t201.extract 0 (bt202.1 : Int).toNat) ++ bt209.1) ++ (t201.extract (bt202.1 : Int).toNat t201.size))) else (none)) else (none))) else (none)) else (none)) else (some t201)))))))) = some r := h
  clear h
  replace H := Option.bind_eq_some_iff.mp H
  obtain ⟨⟨t192, t193⟩, A20, H⟩ := H
  (try dsimp only at H)
  have A2 := Aside0.mk A20
  clear A20
  replace H := Option.bind_eq_some_iff.mp H
  obtain ⟨⟨t195, t196, t197, t198, t199, t200⟩, A30, H⟩ := H
  (try dsimp only at H)
  have A3 := Aside0.mk A30
  clear A30
  replace H := Option.bind_eq_some_iff.mp H
  obtain ⟨t201, A40, H⟩ := H
  (try dsimp only at H)
  have A4 := Aside0.mk A40
  clear A40
  replace H := Option.bind_eq_some_iff.mp H
  obtain ⟨⟨t202, t203⟩, A50, H⟩ := H
  (try dsimp only at H)
  have A5 := Aside0.mk A50
  clear A50
  replace H := Option.bind_eq_some_iff.mp H
  obtain ⟨⟨t204, t205⟩, A60, H⟩ := H
  (try dsimp only at H)
  have A6 := Aside0.mk A60
  clear A60
  by_cases c7 : t204 = 0
  · rw [if_pos c7] at H
    have c7b0 : (t204 == 0) = true := beq_iff_eq.mpr c7
    have c7b1 : (t204 != 0) = false := bne_eq_false_iff_eq.mpr c7
    clear c7
    by_cases c8 : 0 ≤ t202
    · rw [if_pos c8] at H
      have c8b0 := eq_true c8
      have c8b1 : decide (0 ≤ t202) = true := decide_eq_true c8
      clear c8
      by_cases c9 : t202 ≤ (t201.size : Int)
      · rw [if_pos c9] at H
        have c9b0 := eq_true c9
        have c9b1 : decide (t202 ≤ (t201.size : Int)) = true := decide_eq_true c9
        clear c9
        obtain rfl := Option.some.inj H
        go_enter Tryz.func11, Tryz.ntmps11
        go_wp2_with (first | ((with_reducible refine gate_callee (f := 14) rfl ?_); refine goesL_ (some 7) rfl rfl Tryz.func14 (by kernel_rfl) rfl #[.slice A0 l0.length c0] rfl argsA ?_; (with_reducible refine (spec_l6Open.calls _ _ l0 t192 t193 w _ ?side1 ?side2 ?side3 A2.out).mono ?_); (case side1 => exact belowA); (case side2 => exact HR0.out); (case side3 => exact HC0.out); rintro e w10 ⟨g194, rfl, hi, hb, hb2⟩; refine ⟨_, rfl, ?_⟩; have n0_ := Aside0.mk (hb); have n1_ := Aside0.mk (hi); clear HB; have HB := n0_; have HI194 := n1_; clear n0_ n1_; (try clear hb); (try clear hb2); (try clear hk); (try clear hi)) | ((with_reducible refine gate_callee (f := 13) rfl ?_); refine goesL_ (some 9) rfl rfl Tryz.func13 (by kernel_rfl) rfl #[.pointer (some ⟨g194, 0, none⟩)] rfl argsA ?_; (with_reducible refine (spec_l71Op.calls k g194 t192 t193 t195 t196 t197 t198 t199 t200 w _ ?side1 ?side2 A3.out).mono ?_); (case side1 => exact stA); (case side2 => exact belowA); rintro e w11 ⟨rfl, hi, hb, hk⟩; refine ⟨_, rfl, ?_⟩; have n0_ := Aside0.mk (hb); have n1_ := Aside0.mk (hi); clear HB; clear HI194; have HB := n0_; have HI194 := n1_; clear n0_ n1_; (try clear hb); (try clear hb2); (try clear hk); (try clear hi)) | ((with_reducible refine gate_callee (f := 8) rfl ?_); refine goesL_ (some 10) rfl rfl Tryz.func8 (by kernel_rfl) rfl #[.agg #[.int .i64 t195, .int .i64 t196, .int .i64 t197, .int .i64 t198, .string t199]] rfl argsA ?_; (with_reducible refine (spec_OpShow.calls k t195 t196 t197 t198 t199 t201 _ A4.out).mono ?_); rintro e w12 ⟨rfl, hb⟩; refine ⟨_, rfl, ?_⟩; have n0_ := Aside0.mk (IsS58.below stA hb); have n1_ := Aside0.mk (below_step belowA hb); clear HI194; clear HB; have HI194 := n0_; have HB := n1_; clear n0_ n1_; (try clear hb); (try clear hb2); (try clear hk); (try clear hi)) | ((with_reducible refine gate_callee (f := 22) rfl ?_); refine goesL_ (some 15) rfl rfl Tryz.func22 (by kernel_rfl) rfl #[.pointer (some ⟨g194, 0, none⟩), .int .i64 (wrap64 ((t201.size : Int) + 1))] rfl argsA ?_; (with_reducible refine (spec_l6Rd_pick.calls k g194 t192 t200 (wrap64 ((t201.size : Int) + 1)) t202 t203 w _ ?side1 ?side2 A5.out).mono ?_); (case side1 => exact stA); (case side2 => exact belowA); rintro e w13 ⟨rfl, hi, hb, hk⟩; refine ⟨_, rfl, ?_⟩; have n0_ := Aside0.mk (hb); have n1_ := Aside0.mk (hi); clear HB; clear HI194; have HB := n0_; have HI194 := n1_; clear n0_ n1_; (try clear hb); (try clear hb2); (try clear hk); (try clear hi)) | ((with_reducible refine gate_callee (f := 22) rfl ?_); refine goesL_ (some 17) rfl rfl Tryz.func22 (by kernel_rfl) rfl #[.pointer (some ⟨g194, 0, none⟩), .int .i64 7] rfl argsA ?_; (with_reducible refine (spec_l6Rd_pick.calls k g194 t192 t203 7 t204 t205 w _ ?side1 ?side2 A6.out).mono ?_); (case side1 => exact stA); (case side2 => exact belowA); rintro e w14 ⟨rfl, hi, hb, hk⟩; refine ⟨_, rfl, ?_⟩; have n0_ := Aside0.mk (hb); have n1_ := Aside0.mk (hi); clear HB; clear HI194; have HB := n0_; have HI194 := n1_; clear n0_ n1_; (try clear hb); (try clear hb2); (try clear hk); (try clear hi)))
        go_ret
        exact ⟨endA, belowA⟩
      · rw [if_neg c9] at H
        exact absurd H (by simp)
    · rw [if_neg c8] at H
      exact absurd H (by simp)
  · rw [if_neg c7] at H
    have c7b0 : (t204 == 0) = false := beq_eq_false_iff_ne.mpr c7
    have c7b1 : (t204 != 0) = true := bne_iff_ne.mpr c7
    by_cases c15 : t204 = 1
    · rw [if_pos c15] at H
      have c15b0 : (t204 == 1) = true := beq_iff_eq.mpr c15
      have c15b1 : (t204 != 1) = false := bne_eq_false_iff_eq.mpr c15
      clear c15
      by_cases c16 : 0 ≤ t202
      · rw [if_pos c16] at H
        have c16b0 := eq_true c16
        have c16b1 : decide (0 ≤ t202) = true := decide_eq_true c16
        clear c16
        by_cases c17 : t202 ≤ (t201.size : Int)
        · rw [if_pos c17] at H
          have c17b0 := eq_true c17
          have c17b1 : decide (t202 ≤ (t201.size : Int)) = true := decide_eq_true c17
          clear c17
          obtain ⟨y206, hy206⟩ : ∃ y_ : List ByteArray, y_ = (([(⟨#[48]⟩ : ByteArray), (⟨#[32]⟩ : ByteArray), (⟨#[49]⟩ : ByteArray), (⟨#[97]⟩ : ByteArray), (⟨#[39]⟩ : ByteArray)] : List ByteArray)) := ⟨_, rfl⟩
          replace H : ((spec_l6Rd_of.f k t192 t205 y206).bind fun bt209 => (if (t201.extract 0 (t202 : Int).toNat).size + bt209.1.size ≤ 9223372036854775807 then (if ((t201.extract 0 (t202 : Int).toNat) ++ bt209.1).size + (t201.extract (t202 : Int).toNat t201.size).size ≤ 9223372036854775807 then (some (((t201.extract 0 (t202 : Int).toNat) ++ bt209.1) ++ (t201.extract (t202 : Int).toNat t201.size))) else (none)) else (none))) = some r := by first | (rw [hy206]; with_reducible exact H) | (have H2_ := (Option.bind_some _ _).symm.trans H; rw [hy206]; with_reducible exact H2_) | (have H2_ := (Option.bind_some _ _).symm.trans H; with_reducible exact H2_) | with_reducible exact H | (rw [hy206]; exact H) | exact H
          have Ny206 := Aside0.mk hy206
          clear hy206
          replace H := Option.bind_eq_some_iff.mp H
          obtain ⟨⟨t209, t210⟩, A180, H⟩ := H
          (try dsimp only at H)
          have A18 := Aside0.mk A180
          clear A180
          by_cases c19 : (t201.extract 0 (t202 : Int).toNat).size + t209.size ≤ 9223372036854775807
          · rw [if_pos c19] at H
            have c19b0 := eq_true c19
            have c19b1 : decide ((t201.extract 0 (t202 : Int).toNat).size + t209.size ≤ 9223372036854775807) = true := decide_eq_true c19
            try have c19b2 : (9223372036854775807 < (t201.extract 0 (t202 : Int).toNat).size + t209.size) = False := eq_false (Nat.not_lt.2 c19)
            have c19u : (9223372036854775807 < t202.toNat + t209.size) = False := eq_false (by have h1 := c19; have h2 : t202 ≤ (t201.size : Int) := of_decide_eq_true (by assumption); rw [ByteArray.size_extract] at h1; omega)
            have c20b0 := eq_true (of_decide_eq_true (by first | (with_reducible assumption) | assumption) : 0 ≤ t202)
            have c21b0 := eq_true (of_decide_eq_true (by first | (with_reducible assumption) | assumption) : t202 ≤ (t201.size : Int))
            by_cases c22 : ((t201.extract 0 (t202 : Int).toNat) ++ t209).size + (t201.extract (t202 : Int).toNat t201.size).size ≤ 9223372036854775807
            · rw [if_pos c22] at H
              have c22b0 := eq_true c22
              have c22b1 : decide (((t201.extract 0 (t202 : Int).toNat) ++ t209).size + (t201.extract (t202 : Int).toNat t201.size).size ≤ 9223372036854775807) = true := decide_eq_true c22
              try have c22b2 : (9223372036854775807 < ((t201.extract 0 (t202 : Int).toNat) ++ t209).size + (t201.extract (t202 : Int).toNat t201.size).size) = False := eq_false (Nat.not_lt.2 c22)
              have c22s := c22
              (try simp only [ByteArray.size_append', ByteArray.size_mk', List.size_toArray, List.length_cons, List.length_nil, Nat.zero_add, Nat.reduceAdd] at c22s)
              have c22t := eq_false (Nat.not_lt.2 c22s)
              clear c22s
              have c22u : (9223372036854775807 < t202.toNat + t209.size + (t201.size - t202.toNat)) = False := eq_false (by have h1 := c22; have h2 : t202 ≤ (t201.size : Int) := of_decide_eq_true (by assumption); rw [ByteArray.size_append, ByteArray.size_extract, ByteArray.size_extract] at h1; omega)
              obtain rfl := Option.some.inj H
              go_enter Tryz.func11, Tryz.ntmps11
              try go_wp2_with (first | ((with_reducible refine gate_callee (f := 14) rfl ?_); refine goesL_ (some 7) rfl rfl Tryz.func14 (by kernel_rfl) rfl #[.slice A0 l0.length c0] rfl argsA ?_; (with_reducible refine (spec_l6Open.calls _ _ l0 t192 t193 w _ ?side1 ?side2 ?side3 A2.out).mono ?_); (case side1 => exact belowA); (case side2 => exact HR0.out); (case side3 => exact HC0.out); rintro e w23 ⟨g194, rfl, hi, hb, hb2⟩; refine ⟨_, rfl, ?_⟩; have n0_ := Aside0.mk (hb); have n1_ := Aside0.mk (hi); clear HB; have HB := n0_; have HI194 := n1_; clear n0_ n1_; (try clear hb); (try clear hb2); (try clear hk); (try clear hi)) | ((with_reducible refine gate_callee (f := 13) rfl ?_); refine goesL_ (some 9) rfl rfl Tryz.func13 (by kernel_rfl) rfl #[.pointer (some ⟨g194, 0, none⟩)] rfl argsA ?_; (with_reducible refine (spec_l71Op.calls k g194 t192 t193 t195 t196 t197 t198 t199 t200 w _ ?side1 ?side2 A3.out).mono ?_); (case side1 => exact stA); (case side2 => exact belowA); rintro e w24 ⟨rfl, hi, hb, hk⟩; refine ⟨_, rfl, ?_⟩; have n0_ := Aside0.mk (hb); have n1_ := Aside0.mk (hi); clear HB; clear HI194; have HB := n0_; have HI194 := n1_; clear n0_ n1_; (try clear hb); (try clear hb2); (try clear hk); (try clear hi)) | ((with_reducible refine gate_callee (f := 8) rfl ?_); refine goesL_ (some 10) rfl rfl Tryz.func8 (by kernel_rfl) rfl #[.agg #[.int .i64 t195, .int .i64 t196, .int .i64 t197, .int .i64 t198, .string t199]] rfl argsA ?_; (with_reducible refine (spec_OpShow.calls k t195 t196 t197 t198 t199 t201 _ A4.out).mono ?_); rintro e w25 ⟨rfl, hb⟩; refine ⟨_, rfl, ?_⟩; have n0_ := Aside0.mk (IsS58.below stA hb); have n1_ := Aside0.mk (below_step belowA hb); clear HI194; clear HB; have HI194 := n0_; have HB := n1_; clear n0_ n1_; (try clear hb); (try clear hb2); (try clear hk); (try clear hi)) | ((with_reducible refine gate_callee (f := 22) rfl ?_); refine goesL_ (some 15) rfl rfl Tryz.func22 (by kernel_rfl) rfl #[.pointer (some ⟨g194, 0, none⟩), .int .i64 (wrap64 ((t201.size : Int) + 1))] rfl argsA ?_; (with_reducible refine (spec_l6Rd_pick.calls k g194 t192 t200 (wrap64 ((t201.size : Int) + 1)) t202 t203 w _ ?side1 ?side2 A5.out).mono ?_); (case side1 => exact stA); (case side2 => exact belowA); rintro e w26 ⟨rfl, hi, hb, hk⟩; refine ⟨_, rfl, ?_⟩; have n0_ := Aside0.mk (hb); have n1_ := Aside0.mk (hi); clear HB; clear HI194; have HB := n0_; have HI194 := n1_; clear n0_ n1_; (try clear hb); (try clear hb2); (try clear hk); (try clear hi)) | ((with_reducible refine gate_callee (f := 22) rfl ?_); refine goesL_ (some 17) rfl rfl Tryz.func22 (by kernel_rfl) rfl #[.pointer (some ⟨g194, 0, none⟩), .int .i64 7] rfl argsA ?_; (with_reducible refine (spec_l6Rd_pick.calls k g194 t192 t203 7 t204 t205 w _ ?side1 ?side2 A6.out).mono ?_); (case side1 => exact stA); (case side2 => exact belowA); rintro e w27 ⟨rfl, hi, hb, hk⟩; refine ⟨_, rfl, ?_⟩; have n0_ := Aside0.mk (hb); have n1_ := Aside0.mk (hi); clear HB; clear HI194; have HB := n0_; have HI194 := n1_; clear n0_ n1_; (try clear hb); (try clear hb2); (try clear hk); (try clear hi)))
              have n0_ := Aside0.mk (IsS58.drew HI194.out)
              have n1_ := Aside0.mk (below_drew1 HB.out)
              clear HI194
              clear HB
              have HI194 := n0_
              have HB := n1_
              clear n0_ n1_
              refine start_ (n := 12) (S := fun w' => True) (ds := []) (tf 0 12) (by kernel_rfl) rfl rfl trivial (fun hHeld => ?_); refine with_tabW spec_DrawOpRead.tab8 spec_DrawOpRead.bits8 (fun HT_ HW_ => ?_)
              generalize w27.drew = w28 at HI194 HB hHeld ⊢
              refine pure_ (i := 0) (N := some 25) (tf 1 11) rfl rfl (anA HT_) (fun _ _ _ h => h) yldA putA ?_
              refine pure_ (i := 1) (N := some 26) (tf 2 10) rfl rfl (anA HT_) (fun _ _ _ h => h) yldA putA ?_
              refine pure_ (i := 2) (N := some 27) (tf 3 9) rfl rfl (anA HT_) (fun _ _ _ h => h) yldA putA ?_
              refine pure_ (i := 3) (N := some 28) (tf 4 8) rfl rfl (anA HT_) (fun _ _ _ h => h) yldA putA ?_
              refine pure_ (i := 7) (N := some 32) #[true, true, true, true, false, false, false, true, false, false, false, false] rfl rfl (anA HT_) (fun _ _ _ h => h) yldA putA ?_
              refine pure_ (i := 8) (N := some 33) #[true, true, true, true, false, false, false, true, true, false, false, false] rfl rfl (anA HT_) (fun _ _ _ h => h) yldA putA ?_
              refine pure_ (i := 9) (N := some 34) #[true, true, true, true, false, false, false, true, true, true, false, false] rfl rfl (anA HT_) (fun _ _ _ h => h) yldA putA ?_
              refine one_ (i := 4) (N := some 29) #[true, true, true, true, true, false, false, true, true, true, false, false] rfl rfl (one_of HT_.out (by kernel_rfl)) (by decide) (fun K hK => ?_)
              refine Kd.R_lit_step Kd.string _ 9 ?hg (N := 29) ?hd (xs := ([(⟨#[48]⟩ : ByteArray), (⟨#[32]⟩ : ByteArray), (⟨#[49]⟩ : ByteArray), (⟨#[97]⟩ : ByteArray), (⟨#[39]⟩ : ByteArray)] : List ByteArray)) (inner := [.string (⟨#[48]⟩ : ByteArray), .string (⟨#[32]⟩ : ByteArray), .string (⟨#[49]⟩ : ByteArray), .string (⟨#[97]⟩ : ByteArray), .string (⟨#[39]⟩ : ByteArray)]) (ok := fun _ => True) (okp := fun _ => True) ?hr ?hp (fun _ hk => hk) trivial (Below.refl _ _) (Nat.le_refl _) (by simp) ?_; (case hd => rfl); (case hg => rfl); (case hr => first | (go_simp; done) | (go_simp; rfl)); (case hp => exact (Reps.one (show Kd.M Kd.string _ _ _ (⟨#[48]⟩ : ByteArray) [.string (⟨#[48]⟩ : ByteArray)] from rfl) (Reps.one (show Kd.M Kd.string _ _ _ (⟨#[32]⟩ : ByteArray) [.string (⟨#[32]⟩ : ByteArray)] from rfl) (Reps.one (show Kd.M Kd.string _ _ _ (⟨#[49]⟩ : ByteArray) [.string (⟨#[49]⟩ : ByteArray)] from rfl) (Reps.one (show Kd.M Kd.string _ _ _ (⟨#[97]⟩ : ByteArray) [.string (⟨#[97]⟩ : ByteArray)] from rfl) (Reps.one (show Kd.M Kd.string _ _ _ (⟨#[39]⟩ : ByteArray) [.string (⟨#[39]⟩ : ByteArray)] from rfl) (Reps.none _ _)))))))
              intro v207 w29 ho30 hb hg_ hnew_
              clear hg_ hnew_
              (first | rw [← Ny206.out] at ho30 | (simp only [Int.reduceToNat] at ho30; rw [← Ny206.out] at ho30))
              have n0_ := Aside0.mk (Kd.R_lower ho30 (below_size belowA))
              have n1_ := Aside0.mk (IsS58.below stA hb)
              have n2_ := Aside0.mk (below_step belowA hb)
              clear HI194
              clear HB
              have HO208 := n0_
              have HI194 := n1_
              have HB := n2_
              clear n0_ n1_ n2_
              clear hb ho30
              obtain ⟨Ao31, co31, eo31⟩ := Kd.R_slice HO208.out
              (first | subst eo31 | (injection eo31 with f1_ f2_ f3_; have f4_ := f1_.symm; have f5_ := f3_.symm; clear f1_ f2_ f3_; subst f4_; subst f5_))
              refine hK.out _ _ trivial (fun hHeld => ?_)
              clear hK K
              refine norm_ (a' := ?_) ?_ ?_
              rotate_left
              · show Act.put _ (some 29) _ = _
                simp only [Act.put, List.setIfInBounds_toArray, List.set_cons_zero, List.set_cons_succ, i64_w, i32_w]
                rfl
              refine one_ (i := 5) (N := some 30) #[true, true, true, true, true, true, false, true, true, true, false, false] rfl rfl (one_of HT_.out (by kernel_rfl)) (by decide) (fun K hK => ?_)
              refine goes_ Tryz.func23 (by kernel_rfl) rfl #[.pointer (some ⟨g194, 0, none⟩), .slice Ao31 y206.length co31] (by rfl) rfl rfl argsA ?_
              with_reducible refine (spec_l6Rd_of.calls k g194 t192 t205 _ _ y206 t209 t210 w _ ?side1 ?side2 ?side3 ?side4 ?side5 A18.out).mono ?_
              (case side1 => exact stA)
              (case side2 => exact belowA)
              (case side3 => repeat (first | exact (Kd.R_reads' HO208.out).2.2 | (with_reducible refine Kd.C_alloc ?_ _) | (with_reducible refine Kd.C_drewN ?_ _) | (with_reducible refine Kd.C_drew ?_)))
              (case side4 => exact (Kd.R_reads' HO208.out).2.1)
              (case side5 => exact far_slice (IsS58.own_ne HI194.out HO208.out (by decide)))
              rintro e w32 ⟨rfl, hi, hb, hk⟩
              refine ⟨_, rfl, ?_⟩
              have n0_ := Aside0.mk (Kd.R_mono (Kd.R_keep (IsS58.apart (show IsS58 w _ g194 t192 t205 from stA) (RA HO208) (by decide)) hk (fun _ h => h.2)) (fun _ h => h.1))
              have n1_ := Aside0.mk (hb)
              have n2_ := Aside0.mk (hi)
              clear HO208
              clear HB
              clear HI194
              have HO208 := n0_
              have HB := n1_
              have HI194 := n2_
              clear n0_ n1_ n2_
              (try clear hb)
              (try clear hb2)
              (try clear hk)
              (try clear hi)
              refine hK.out _ _ trivial (fun hHeld => ?_)
              clear hK K
              refine norm_ (a' := ?_) ?_ ?_
              rotate_left
              · show Act.put _ (some 30) _ = _
                simp only [Act.put, List.setIfInBounds_toArray, List.set_cons_zero, List.set_cons_succ, i64_w, i32_w]
                rfl
              refine pure_ (i := 6) (N := some 31) (tf 10 2) rfl rfl (anA HT_) (fun _ _ _ h => h) yldA putA ?_
              refine pure_ (i := 10) (N := some 35) (tf 11 1) rfl rfl (anA HT_) (fun _ _ _ h => h) yldA putA ?_
              refine pure_ (i := 11) (N := some 2) (tf 12 0) rfl rfl (anA HT_) (fun _ _ _ h => h) yldA putA ?_
              refine done_ (done_of HT_.out (by kernel_rfl)) ?_
              try go_wp2
              go_ret
              exact ⟨endA, belowA⟩
            · rw [if_neg c22] at H
              exact absurd H (by simp)
          · rw [if_neg c19] at H
            exact absurd H (by simp)
        · rw [if_neg c17] at H
          exact absurd H (by simp)
      · rw [if_neg c16] at H
        exact absurd H (by simp)
    · rw [if_neg c15] at H
      have c15b0 : (t204 == 1) = false := beq_eq_false_iff_ne.mpr c15
      have c15b1 : (t204 != 1) = true := bne_iff_ne.mpr c15
      obtain rfl := Option.some.inj H
      go_enter Tryz.func11, Tryz.ntmps11
      go_wp2_with (first | ((with_reducible refine gate_callee (f := 14) rfl ?_); refine goesL_ (some 7) rfl rfl Tryz.func14 (by kernel_rfl) rfl #[.slice A0 l0.length c0] rfl argsA ?_; (with_reducible refine (spec_l6Open.calls _ _ l0 t192 t193 w _ ?side1 ?side2 ?side3 A2.out).mono ?_); (case side1 => exact belowA); (case side2 => exact HR0.out); (case side3 => exact HC0.out); rintro e w33 ⟨g194, rfl, hi, hb, hb2⟩; refine ⟨_, rfl, ?_⟩; have n0_ := Aside0.mk (hb); have n1_ := Aside0.mk (hi); clear HB; have HB := n0_; have HI194 := n1_; clear n0_ n1_; (try clear hb); (try clear hb2); (try clear hk); (try clear hi)) | ((with_reducible refine gate_callee (f := 13) rfl ?_); refine goesL_ (some 9) rfl rfl Tryz.func13 (by kernel_rfl) rfl #[.pointer (some ⟨g194, 0, none⟩)] rfl argsA ?_; (with_reducible refine (spec_l71Op.calls k g194 t192 t193 t195 t196 t197 t198 t199 t200 w _ ?side1 ?side2 A3.out).mono ?_); (case side1 => exact stA); (case side2 => exact belowA); rintro e w34 ⟨rfl, hi, hb, hk⟩; refine ⟨_, rfl, ?_⟩; have n0_ := Aside0.mk (hb); have n1_ := Aside0.mk (hi); clear HB; clear HI194; have HB := n0_; have HI194 := n1_; clear n0_ n1_; (try clear hb); (try clear hb2); (try clear hk); (try clear hi)) | ((with_reducible refine gate_callee (f := 8) rfl ?_); refine goesL_ (some 10) rfl rfl Tryz.func8 (by kernel_rfl) rfl #[.agg #[.int .i64 t195, .int .i64 t196, .int .i64 t197, .int .i64 t198, .string t199]] rfl argsA ?_; (with_reducible refine (spec_OpShow.calls k t195 t196 t197 t198 t199 t201 _ A4.out).mono ?_); rintro e w35 ⟨rfl, hb⟩; refine ⟨_, rfl, ?_⟩; have n0_ := Aside0.mk (IsS58.below stA hb); have n1_ := Aside0.mk (below_step belowA hb); clear HI194; clear HB; have HI194 := n0_; have HB := n1_; clear n0_ n1_; (try clear hb); (try clear hb2); (try clear hk); (try clear hi)) | ((with_reducible refine gate_callee (f := 22) rfl ?_); refine goesL_ (some 15) rfl rfl Tryz.func22 (by kernel_rfl) rfl #[.pointer (some ⟨g194, 0, none⟩), .int .i64 (wrap64 ((t201.size : Int) + 1))] rfl argsA ?_; (with_reducible refine (spec_l6Rd_pick.calls k g194 t192 t200 (wrap64 ((t201.size : Int) + 1)) t202 t203 w _ ?side1 ?side2 A5.out).mono ?_); (case side1 => exact stA); (case side2 => exact belowA); rintro e w36 ⟨rfl, hi, hb, hk⟩; refine ⟨_, rfl, ?_⟩; have n0_ := Aside0.mk (hb); have n1_ := Aside0.mk (hi); clear HB; clear HI194; have HB := n0_; have HI194 := n1_; clear n0_ n1_; (try clear hb); (try clear hb2); (try clear hk); (try clear hi)) | ((with_reducible refine gate_callee (f := 22) rfl ?_); refine goesL_ (some 17) rfl rfl Tryz.func22 (by kernel_rfl) rfl #[.pointer (some ⟨g194, 0, none⟩), .int .i64 7] rfl argsA ?_; (with_reducible refine (spec_l6Rd_pick.calls k g194 t192 t203 7 t204 t205 w _ ?side1 ?side2 A6.out).mono ?_); (case side1 => exact stA); (case side2 => exact belowA); rintro e w37 ⟨rfl, hi, hb, hk⟩; refine ⟨_, rfl, ?_⟩; have n0_ := Aside0.mk (hb); have n1_ := Aside0.mk (hi); clear HB; clear HI194; have HB := n0_; have HI194 := n1_; clear n0_ n1_; (try clear hb); (try clear hb2); (try clear hk); (try clear hi)))
      go_ret
      exact ⟨endA, belowA⟩

/-! ### spec_l3Cut: function 24 -/
def spec_l3Cut.f (a0 : ByteArray) (a1 : Int) : Option (List ByteArray) := cutTold a0 a1
theorem spec_l3Cut.calls (a0 : ByteArray) (a1 : Int) (r : List ByteArray) (w : World) (h : spec_l3Cut.f a0 a1 = some r) :
    Calls Tryz.prog 24 #[.string a0, .int .u8 a1] w fun e w' => ∃ v0_ : Value, e = .returned (v0_) ∧ Kd.R Kd.string 9 w' w.heap.size (fun _ => True) v0_ r ∧ Below w.heap.size w w' := cut_told a0 a1 r w h


/-! ### spec_l3Num: function 25 -/
mutual
def spec_l3Num.j0 : Nat → List ByteArray → Int → Bool → Option (Int)
  | 0, _, _, _ => none
  | k + 1, x0, x1, x19 => if x19 = true then (some (-1)) else (spec_l3Num.l0 k x0 x1 0 0)
def spec_l3Num.l0 : Nat → List ByteArray → Int → Int → Int → Option (Int)
  | 0, _, _, _, _ => none
  | k + 1, x0, x1, x5, x6 => if 0 ≤ x1 then (if x1 < (x0.length : Int) then (if x6 < ((rdOf ByteArray.empty x0 x1).size : Int) then (if 0 ≤ x6 then (if (bt (rdOf ByteArray.empty x0 x1) x6) < 48 then (some (-1)) else (if (bt (rdOf ByteArray.empty x0 x1) x6) > 57 then (some (-1)) else (spec_l3Num.l0 k x0 x1 (wrap64 ((wrap64 (10 * x5)) + (((bt (rdOf ByteArray.empty x0 x1) x6) - 48) % 256))) (wrap64 (x6 + 1))))) else (none)) else (some x5)) else (none)) else (none)
end
def spec_l3Num.f (k : Nat) (l0 : List ByteArray) (a1 : Int) : Option (Int) := if a1 ≥ (l0.length : Int) then (spec_l3Num.j0 k l0 a1 true) else (if 0 ≤ a1 then (if a1 < (l0.length : Int) then ((spec_l6In.f ((rdOf ByteArray.empty l0 a1).size : Int) 1 2).bind fun t212 => (spec_l3Num.j0 k l0 a1 (!t212))) else (none)) else (none))
theorem spec_l3Num.mono_l : ∀ k, (∀ y0 y1 y2, LeO (spec_l3Num.j0 k y0 y1 y2) (spec_l3Num.j0 (k + 1) y0 y1 y2)) ∧ (∀ y0 y1 y2 y3, LeO (spec_l3Num.l0 k y0 y1 y2 y3) (spec_l3Num.l0 (k + 1) y0 y1 y2 y3))
  | 0 => ⟨fun _ _ _ r h => by simp [spec_l3Num.j0] at h, fun _ _ _ _ r h => by simp [spec_l3Num.l0] at h⟩
  | k + 1 => by
    obtain ⟨ih0, ih1⟩ := spec_l3Num.mono_l k
    refine ⟨?_, ?_⟩
    · intro y0 y1 y2
      unfold spec_l3Num.j0
      repeat' first
      | (with_reducible exact ih0 _ _ _)
      | (with_reducible exact ih1 _ _ _ _)
      | (with_reducible exact LeO.refl _)
      | (with_reducible exact LeO.none _)
      | (with_reducible refine LeO.ite ?_ ?_)
      | (with_reducible refine LeO.bind ?_ (fun _ => ?_))
      | exact ih0 _ _ _
      | exact ih1 _ _ _ _
      | exact LeO.none _
      | refine LeO.ite ?_ ?_
      | refine LeO.bind ?_ (fun _ => ?_)
    · intro y0 y1 y2 y3
      unfold spec_l3Num.l0
      repeat' first
      | (with_reducible exact ih0 _ _ _)
      | (with_reducible exact ih1 _ _ _ _)
      | (with_reducible exact LeO.refl _)
      | (with_reducible exact LeO.none _)
      | (with_reducible refine LeO.ite ?_ ?_)
      | (with_reducible refine LeO.bind ?_ (fun _ => ?_))
      | exact ih0 _ _ _
      | exact ih1 _ _ _ _
      | exact LeO.none _
      | refine LeO.ite ?_ ?_
      | refine LeO.bind ?_ (fun _ => ?_)
theorem spec_l3Num.mono : ∀ a0 a1 k, LeO (spec_l3Num.f k a0 a1) (spec_l3Num.f (k + 1) a0 a1) := by
  intro a0 a1 k
  obtain ⟨ih0, ih1⟩ := spec_l3Num.mono_l k
  unfold spec_l3Num.f
  repeat' first
      | (with_reducible exact ih0 _ _ _)
      | (with_reducible exact ih1 _ _ _ _)
      | (with_reducible exact LeO.refl _)
      | (with_reducible exact LeO.none _)
      | (with_reducible refine LeO.ite ?_ ?_)
      | (with_reducible refine LeO.bind ?_ (fun _ => ?_))
      | exact ih0 _ _ _
      | exact ih1 _ _ _ _
      | exact LeO.none _
      | refine LeO.ite ?_ ?_
      | refine LeO.bind ?_ (fun _ => ?_)
set_option maxHeartbeats 8000000 in
set_option maxRecDepth 100000 in
theorem spec_l3Num.calls (k : Nat) (A0 : Option Addr) (c0 : Nat) (l0 : List ByteArray) (a1 : Int) (r : Int) (w : World) (hr0 : Kd.C Kd.string w A0 l0.length l0) (hc0 : l0.length ≤ c0) (h : spec_l3Num.f k l0 a1 = some r) :
    Calls Tryz.prog 25 #[.slice A0 l0.length c0, .int .i64 a1] w fun e w' => e = .returned (.int .i64 r) ∧ Drawn0 w w' := by
  have HR0 := Aside0.mk hr0
  have HC0 := Aside0.mk hc0
  clear hr0 hc0
  have H : (if a1 ≥ (l0.length : Int) then (spec_l3Num.j0 k l0 a1 true) else (if 0 ≤ a1 then (if a1 < (l0.length : Int) then ((spec_l6In.f ((rdOf ByteArray.empty l0 a1).size : Int) 1 2).bind fun t212 => (spec_l3Num.j0 k l0 a1 (!t212))) else (none)) else (none))) = some r := h
  clear h
  have HC3 := Aside0.mk H
  clear H
  go_enter Tryz.func25, Tryz.ntmps25
  go_upto_region 1 with (fail)
  go_cut [19] (fun v19 wc => ∃ (kq : Nat) (x19_2 : Bool), v19 = .bool x19_2 ∧ Aside0 (spec_l3Num.j0 kq l0 a1 x19_2 = some r) ∧ Aside0 (kq ≤ k) ∧ Drawn0 w wc)
  case first =>
    have H := HC3.out
    clear HC3
    by_cases c4 : a1 ≥ (l0.length : Int)
    · rw [if_pos c4] at H
      have c4b0 : decide ((l0.length : Int) ≤ a1) = true := decide_eq_true c4
      clear c4
      (first | rw [c4b0] | (simp only [i64_w, i32_w]; rw [c4b0]) | skip)
      have H' := Aside0.mk H
      clear H
      go_wp2
      go_meet
      case rel => exact ⟨_, (true), (by first | rfl | (simp; done) | (simp [*]; done)), H', ⟨by first | omega | exact Nat.le_refl _⟩, by repeat (first | exact Drawn0.refl _ | apply Drawn0.step)⟩
    · rw [if_neg c4] at H
      have c4b0 : decide ((l0.length : Int) ≤ a1) = false := decide_eq_false c4
      clear c4
      (first | rw [c4b0] | (simp only [i64_w, i32_w]; rw [c4b0]) | skip)
      by_cases c5 : 0 ≤ a1
      · rw [if_pos c5] at H
        have c5b0 : decide (0 ≤ a1) = true := decide_eq_true c5
        clear c5
        by_cases c6 : a1 < (l0.length : Int)
        · rw [if_pos c6] at H
          have c6b0 : decide (a1 < (l0.length : Int)) = true := decide_eq_true c6
          clear c6
          replace H := Option.bind_eq_some_iff.mp H
          obtain ⟨t212, A70, H⟩ := H
          (try dsimp only at H)
          have A7 := Aside0.mk A70
          clear A70
          have H' := Aside0.mk H
          clear H
          have p211 : 0 ≤ (a1 : Int) := of_decide_eq_true (by first | (with_reducible assumption) | assumption)
          have q211 : a1 < (l0.length : Int) := of_decide_eq_true (by first | (with_reducible assumption) | assumption)
          obtain ⟨ad211, e211, hx211_0⟩ := Kd.at_string HR0.out a1 p211 q211
          cases e211
          replace p211 := eq_true p211
          replace q211 := eq_true q211
          go_wp2_with (first | (go_at_call 41; (with_reducible refine (spec_l6In.calls ((rdOf ByteArray.empty l0 a1).size : Int) 1 2 t212 _ A7.out).mono ?_); rintro e w' ⟨rfl, ⟨nd, rfl⟩⟩))
          go_meet
          case rel => exact ⟨_, (!t212), (by first | rfl | (simp; done) | (simp [*]; done)), H', ⟨by first | omega | exact Nat.le_refl _⟩, by repeat (first | exact Drawn0.refl _ | apply Drawn0.step)⟩
        · rw [if_neg c6] at H
          exact absurd H (by simp)
      · rw [if_neg c5] at H
        exact absurd H (by simp)
  case rest =>
    clear HC3
    try clear c2
    try clear p2
    try clear q2
    try clear hx2
    try clear c4
    try clear c4b0
    try clear c5
    try clear c5b0
    try clear c6
    try clear c6b0
    try clear hx211_0
    try clear p211
    try clear q211
    obtain ⟨kq, x19_2, rfl, HA, HJ2, ⟨mc2, rfl⟩⟩ := hcut
    cases kq with
    | zero => exact absurd HA.out (by simp [spec_l3Num.j0])
    | succ kj2 =>
      have H := HA.out
      clear HA
      simp only [spec_l3Num.j0] at H
      by_cases c8 : x19_2 = true
      · subst c8
        have H1 : (some (-1)) = some r := by rw [if_pos rfl] at H; exact H
        clear H
        have H := H1
        clear H1
        obtain rfl := Option.some.inj H
        go_wp2
        go_ret
        exact ⟨by first | rfl | (simp; done) | (simp [*]; done), by repeat (first | exact Drawn0.refl _ | apply Drawn0.step)⟩
      · replace c8 := Bool.eq_false_iff.mpr c8
        subst c8
        have H1 : (spec_l3Num.l0 kj2 l0 a1 0 0) = some r := by rw [if_neg (show ¬ (false = true) by decide)] at H; exact H
        clear H
        have H := H1
        clear H1
        have H' := Aside0.mk H
        clear H
        go_wp2
        go_loopg [5, 6] kj2 (fun kq v5 v6 w' => ∃ (x5_2 : Int) (x6_2 : Int), v5 = .int .i64 x5_2 ∧ v6 = .int .i64 x6_2 ∧ Aside0 (spec_l3Num.l0 kq l0 a1 x5_2 x6_2 = some r) ∧ Aside0 (kq ≤ kj2) ∧ Drawn0 w w')
        case atStart => exact ⟨(0), (0), (by first | rfl | (simp; done) | (simp [*]; done)), (by first | rfl | (simp; done) | (simp [*]; done)), H', ⟨Nat.le_refl _⟩, by repeat (first | exact Drawn0.refl _ | apply Drawn0.step)⟩
        case round =>
          clear H'
          try clear c2
          try clear p2
          try clear q2
          try clear hx2
          try clear c4
          try clear c4b0
          try clear c5
          try clear c5b0
          try clear c6
          try clear c6b0
          try clear c8
          try clear hx211_0
          try clear p2
          try clear p211
          try clear q2
          try clear q211
          obtain ⟨x5_2, x6_2, rfl, rfl, HA, HK2, ⟨m2, rfl⟩⟩ := hrel
          cases gk with
          | zero => exact absurd HA.out (by simp [spec_l3Num.l0])
          | succ k2 =>
            have H := HA.out
            clear HA
            simp only [spec_l3Num.l0] at H
            by_cases c9 : 0 ≤ a1
            · rw [if_pos c9] at H
              have c9b0 : decide (0 ≤ a1) = true := decide_eq_true c9
              clear c9
              by_cases c10 : a1 < (l0.length : Int)
              · rw [if_pos c10] at H
                have c10b0 : decide (a1 < (l0.length : Int)) = true := decide_eq_true c10
                clear c10
                by_cases c11 : x6_2 < ((rdOf ByteArray.empty l0 a1).size : Int)
                · rw [if_pos c11] at H
                  have c11b0 : decide (x6_2 < ((rdOf ByteArray.empty l0 a1).size : Int)) = true := decide_eq_true c11
                  clear c11
                  by_cases c12 : 0 ≤ x6_2
                  · rw [if_pos c12] at H
                    have c12b0 : decide (0 ≤ x6_2) = true := decide_eq_true c12
                    clear c12
                    by_cases c14 : (bt (rdOf ByteArray.empty l0 a1) x6_2) < 48
                    · rw [if_pos c14] at H
                      have c14b0 : decide ((bt (rdOf ByteArray.empty l0 a1) x6_2) < 48) = true := decide_eq_true c14
                      clear c14
                      obtain rfl := Option.some.inj H
                      have p213 : 0 ≤ (a1 : Int) := of_decide_eq_true (by first | (with_reducible assumption) | assumption)
                      have q213 : a1 < (l0.length : Int) := of_decide_eq_true (by first | (with_reducible assumption) | assumption)
                      obtain ⟨ad213, e213, hx213_0⟩ := Kd.at_string HR0.out a1 p213 q213
                      cases e213
                      replace p213 := eq_true p213
                      replace q213 := eq_true q213
                      have p214 : 0 ≤ (a1 : Int) := of_decide_eq_true (by first | (with_reducible assumption) | assumption)
                      have q214 : a1 < (l0.length : Int) := of_decide_eq_true (by first | (with_reducible assumption) | assumption)
                      obtain ⟨ad214, e214, hx214_0⟩ := Kd.at_string HR0.out a1 p214 q214
                      obtain rfl : ad213 = ad214 := (by injection e214)
                      replace p214 := eq_true p214
                      replace q214 := eq_true q214
                      have p13 : 0 ≤ (x6_2 : Int) := of_decide_eq_true (by first | (with_reducible assumption) | assumption)
                      have q13 : x6_2 < ((rdOf ByteArray.empty l0 a1).size : Int) := of_decide_eq_true (by first | (with_reducible assumption) | assumption)
                      have hx13 := bt_at (rdOf ByteArray.empty l0 a1) x6_2
                      replace p13 := eq_true p13
                      replace q13 := eq_true q13
                      go_wp2
                      go_ret
                      exact ⟨by first | rfl | (simp; done) | (simp [*]; done), by repeat (first | exact Drawn0.refl _ | apply Drawn0.step)⟩
                    · rw [if_neg c14] at H
                      have c14b0 : decide ((bt (rdOf ByteArray.empty l0 a1) x6_2) < 48) = false := decide_eq_false c14
                      clear c14
                      by_cases c16 : (bt (rdOf ByteArray.empty l0 a1) x6_2) > 57
                      · rw [if_pos c16] at H
                        have c16b0 : decide (57 < (bt (rdOf ByteArray.empty l0 a1) x6_2)) = true := decide_eq_true c16
                        clear c16
                        obtain rfl := Option.some.inj H
                        have p213 : 0 ≤ (a1 : Int) := of_decide_eq_true (by first | (with_reducible assumption) | assumption)
                        have q213 : a1 < (l0.length : Int) := of_decide_eq_true (by first | (with_reducible assumption) | assumption)
                        obtain ⟨ad213, e213, hx213_0⟩ := Kd.at_string HR0.out a1 p213 q213
                        cases e213
                        replace p213 := eq_true p213
                        replace q213 := eq_true q213
                        have p214 : 0 ≤ (a1 : Int) := of_decide_eq_true (by first | (with_reducible assumption) | assumption)
                        have q214 : a1 < (l0.length : Int) := of_decide_eq_true (by first | (with_reducible assumption) | assumption)
                        obtain ⟨ad214, e214, hx214_0⟩ := Kd.at_string HR0.out a1 p214 q214
                        obtain rfl : ad213 = ad214 := (by injection e214)
                        replace p214 := eq_true p214
                        replace q214 := eq_true q214
                        have p13 : 0 ≤ (x6_2 : Int) := of_decide_eq_true (by first | (with_reducible assumption) | assumption)
                        have q13 : x6_2 < ((rdOf ByteArray.empty l0 a1).size : Int) := of_decide_eq_true (by first | (with_reducible assumption) | assumption)
                        have hx13 := bt_at (rdOf ByteArray.empty l0 a1) x6_2
                        replace p13 := eq_true p13
                        replace q13 := eq_true q13
                        have p215 : 0 ≤ (a1 : Int) := of_decide_eq_true (by first | (with_reducible assumption) | assumption)
                        have q215 : a1 < (l0.length : Int) := of_decide_eq_true (by first | (with_reducible assumption) | assumption)
                        obtain ⟨ad215, e215, hx215_0⟩ := Kd.at_string HR0.out a1 p215 q215
                        obtain rfl : ad213 = ad215 := (by injection e215)
                        replace p215 := eq_true p215
                        replace q215 := eq_true q215
                        have p15 : 0 ≤ (x6_2 : Int) := of_decide_eq_true (by first | (with_reducible assumption) | assumption)
                        have q15 : x6_2 < ((rdOf ByteArray.empty l0 a1).size : Int) := of_decide_eq_true (by first | (with_reducible assumption) | assumption)
                        have hx15 := bt_at (rdOf ByteArray.empty l0 a1) x6_2
                        replace p15 := eq_true p15
                        replace q15 := eq_true q15
                        go_wp2
                        go_ret
                        exact ⟨by first | rfl | (simp; done) | (simp [*]; done), by repeat (first | exact Drawn0.refl _ | apply Drawn0.step)⟩
                      · rw [if_neg c16] at H
                        have c16b0 : decide (57 < (bt (rdOf ByteArray.empty l0 a1) x6_2)) = false := decide_eq_false c16
                        clear c16
                        have H' := Aside0.mk H
                        clear H
                        have p213 : 0 ≤ (a1 : Int) := of_decide_eq_true (by first | (with_reducible assumption) | assumption)
                        have q213 : a1 < (l0.length : Int) := of_decide_eq_true (by first | (with_reducible assumption) | assumption)
                        obtain ⟨ad213, e213, hx213_0⟩ := Kd.at_string HR0.out a1 p213 q213
                        cases e213
                        replace p213 := eq_true p213
                        replace q213 := eq_true q213
                        have p214 : 0 ≤ (a1 : Int) := of_decide_eq_true (by first | (with_reducible assumption) | assumption)
                        have q214 : a1 < (l0.length : Int) := of_decide_eq_true (by first | (with_reducible assumption) | assumption)
                        obtain ⟨ad214, e214, hx214_0⟩ := Kd.at_string HR0.out a1 p214 q214
                        obtain rfl : ad213 = ad214 := (by injection e214)
                        replace p214 := eq_true p214
                        replace q214 := eq_true q214
                        have p13 : 0 ≤ (x6_2 : Int) := of_decide_eq_true (by first | (with_reducible assumption) | assumption)
                        have q13 : x6_2 < ((rdOf ByteArray.empty l0 a1).size : Int) := of_decide_eq_true (by first | (with_reducible assumption) | assumption)
                        have hx13 := bt_at (rdOf ByteArray.empty l0 a1) x6_2
                        replace p13 := eq_true p13
                        replace q13 := eq_true q13
                        have p215 : 0 ≤ (a1 : Int) := of_decide_eq_true (by first | (with_reducible assumption) | assumption)
                        have q215 : a1 < (l0.length : Int) := of_decide_eq_true (by first | (with_reducible assumption) | assumption)
                        obtain ⟨ad215, e215, hx215_0⟩ := Kd.at_string HR0.out a1 p215 q215
                        obtain rfl : ad213 = ad215 := (by injection e215)
                        replace p215 := eq_true p215
                        replace q215 := eq_true q215
                        have p15 : 0 ≤ (x6_2 : Int) := of_decide_eq_true (by first | (with_reducible assumption) | assumption)
                        have q15 : x6_2 < ((rdOf ByteArray.empty l0 a1).size : Int) := of_decide_eq_true (by first | (with_reducible assumption) | assumption)
                        have hx15 := bt_at (rdOf ByteArray.empty l0 a1) x6_2
                        replace p15 := eq_true p15
                        replace q15 := eq_true q15
                        have p216 : 0 ≤ (a1 : Int) := of_decide_eq_true (by first | (with_reducible assumption) | assumption)
                        have q216 : a1 < (l0.length : Int) := of_decide_eq_true (by first | (with_reducible assumption) | assumption)
                        obtain ⟨ad216, e216, hx216_0⟩ := Kd.at_string HR0.out a1 p216 q216
                        obtain rfl : ad213 = ad216 := (by injection e216)
                        replace p216 := eq_true p216
                        replace q216 := eq_true q216
                        have p17 : 0 ≤ (x6_2 : Int) := of_decide_eq_true (by first | (with_reducible assumption) | assumption)
                        have q17 : x6_2 < ((rdOf ByteArray.empty l0 a1).size : Int) := of_decide_eq_true (by first | (with_reducible assumption) | assumption)
                        have hx17 := bt_at (rdOf ByteArray.empty l0 a1) x6_2
                        replace p17 := eq_true p17
                        replace q17 := eq_true q17
                        go_wp2
                        go_roundg k2
                        case measure => have := HJ2.out; have := HK2.out; omega
                        case rel => exact ⟨(wrap64 ((wrap64 (10 * x5_2)) + (((bt (rdOf ByteArray.empty l0 a1) x6_2) - 48) % 256))), (wrap64 (x6_2 + 1)), (by first | rfl | (simp; done) | (simp [*]; done)), (by first | rfl | (simp; done) | (simp [*]; done)), H', ⟨by have := HJ2.out; have := HK2.out; omega⟩, by repeat (first | exact Drawn0.refl _ | apply Drawn0.step)⟩
                  · rw [if_neg c12] at H
                    exact absurd H (by simp)
                · rw [if_neg c11] at H
                  have c11b0 : decide (x6_2 < ((rdOf ByteArray.empty l0 a1).size : Int)) = false := decide_eq_false c11
                  clear c11
                  obtain rfl := Option.some.inj H
                  have p213 : 0 ≤ (a1 : Int) := of_decide_eq_true (by first | (with_reducible assumption) | assumption)
                  have q213 : a1 < (l0.length : Int) := of_decide_eq_true (by first | (with_reducible assumption) | assumption)
                  obtain ⟨ad213, e213, hx213_0⟩ := Kd.at_string HR0.out a1 p213 q213
                  cases e213
                  replace p213 := eq_true p213
                  replace q213 := eq_true q213
                  go_wp2
                  go_ret
                  exact ⟨by first | rfl | (simp; done) | (simp [*]; done), by repeat (first | exact Drawn0.refl _ | apply Drawn0.step)⟩
              · rw [if_neg c10] at H
                exact absurd H (by simp)
            · rw [if_neg c9] at H
              exact absurd H (by simp)

/-! ### spec_l3Quoted: function 26 -/
def spec_l3Quoted.f (l0 : List ByteArray) (a1 : Int) : Option (ByteArray × Bool) := if a1 ≥ (l0.length : Int) then (some ((⟨#[]⟩ : ByteArray), false)) else (if 0 ≤ a1 then (if a1 < (l0.length : Int) then (if ((rdOf ByteArray.empty l0 a1).size : Int) < 2 then (some ((⟨#[]⟩ : ByteArray), false)) else (if 0 < ((rdOf ByteArray.empty l0 a1).size : Int) then (if (bt (rdOf ByteArray.empty l0 a1) 0) = 39 then (if 0 ≤ (wrap64 (((rdOf ByteArray.empty l0 a1).size : Int) - 1)) then (if (wrap64 (((rdOf ByteArray.empty l0 a1).size : Int) - 1)) < ((rdOf ByteArray.empty l0 a1).size : Int) then (if (bt (rdOf ByteArray.empty l0 a1) (wrap64 (((rdOf ByteArray.empty l0 a1).size : Int) - 1))) = 39 then (if 1 ≤ (wrap64 (((rdOf ByteArray.empty l0 a1).size : Int) - 1)) then (if (wrap64 (((rdOf ByteArray.empty l0 a1).size : Int) - 1)) ≤ ((rdOf ByteArray.empty l0 a1).size : Int) then (some ((rdOf ByteArray.empty l0 a1).extract 1 ((wrap64 (((rdOf ByteArray.empty l0 a1).size : Int) - 1)) : Int).toNat, true)) else (none)) else (none)) else (some ((⟨#[]⟩ : ByteArray), false))) else (none)) else (none)) else (some ((⟨#[]⟩ : ByteArray), false))) else (none))) else (none)) else (none))
set_option maxHeartbeats 8000000 in
set_option maxRecDepth 100000 in
theorem spec_l3Quoted.calls (A0 : Option Addr) (c0 : Nat) (l0 : List ByteArray) (a1 : Int) (r1 : ByteArray) (r2 : Bool) (w : World) (hr0 : Kd.C Kd.string w A0 l0.length l0) (hc0 : l0.length ≤ c0) (h : spec_l3Quoted.f l0 a1 = some (r1, r2)) :
    Calls Tryz.prog 26 #[.slice A0 l0.length c0, .int .i64 a1] w fun e w' => e = .returned (.tuple #[.string r1, .bool r2]) ∧ Drawn0 w w' := by
  have HR0 := Aside0.mk hr0
  have HC0 := Aside0.mk hc0
  clear hr0 hc0
  have H : (if a1 ≥ (l0.length : Int) then (some ((⟨#[]⟩ : ByteArray), false)) else (if 0 ≤ a1 then (if a1 < (l0.length : Int) then (if ((rdOf ByteArray.empty l0 a1).size : Int) < 2 then (some ((⟨#[]⟩ : ByteArray), false)) else (if 0 < ((rdOf ByteArray.empty l0 a1).size : Int) then (if (bt (rdOf ByteArray.empty l0 a1) 0) = 39 then (if 0 ≤ (wrap64 (((rdOf ByteArray.empty l0 a1).size : Int) - 1)) then (if (wrap64 (((rdOf ByteArray.empty l0 a1).size : Int) - 1)) < ((rdOf ByteArray.empty l0 a1).size : Int) then (if (bt (rdOf ByteArray.empty l0 a1) (wrap64 (((rdOf ByteArray.empty l0 a1).size : Int) - 1))) = 39 then (if 1 ≤ (wrap64 (((rdOf ByteArray.empty l0 a1).size : Int) - 1)) then (if (wrap64 (((rdOf ByteArray.empty l0 a1).size : Int) - 1)) ≤ ((rdOf ByteArray.empty l0 a1).size : Int) then (some ((rdOf ByteArray.empty l0 a1).extract 1 ((wrap64 (((rdOf ByteArray.empty l0 a1).size : Int) - 1)) : Int).toNat, true)) else (none)) else (none)) else (some ((⟨#[]⟩ : ByteArray), false))) else (none)) else (none)) else (some ((⟨#[]⟩ : ByteArray), false))) else (none))) else (none)) else (none))) = some (r1, r2) := h
  clear h
  by_cases c3 : a1 ≥ (l0.length : Int)
  · rw [if_pos c3] at H
    have c3b0 : decide ((l0.length : Int) ≤ a1) = true := decide_eq_true c3
    clear c3
    simp only [Option.some.injEq, Prod.mk.injEq] at H
    obtain ⟨rfl, rfl⟩ := H
    go_enter Tryz.func26, Tryz.ntmps26
    go_wp2
    repeat (go_quiet (fail); try go_wp2)
    go_ret2
    exact ⟨by first | rfl | (simp; done) | (simp [*]; done), by repeat (first | exact Drawn0.refl _ | apply Drawn0.step)⟩
  · rw [if_neg c3] at H
    have c3b0 : decide ((l0.length : Int) ≤ a1) = false := decide_eq_false c3
    clear c3
    by_cases c4 : 0 ≤ a1
    · rw [if_pos c4] at H
      have c4b0 : decide (0 ≤ a1) = true := decide_eq_true c4
      clear c4
      by_cases c5 : a1 < (l0.length : Int)
      · rw [if_pos c5] at H
        have c5b0 : decide (a1 < (l0.length : Int)) = true := decide_eq_true c5
        clear c5
        by_cases c6 : ((rdOf ByteArray.empty l0 a1).size : Int) < 2
        · rw [if_pos c6] at H
          have c6b0 : decide (((rdOf ByteArray.empty l0 a1).size : Int) < 2) = true := decide_eq_true c6
          have c6b1 : decide ((rdOf ByteArray.empty l0 a1).size < 2) = true := decide_eq_true (by omega)
          clear c6
          simp only [Option.some.injEq, Prod.mk.injEq] at H
          obtain ⟨rfl, rfl⟩ := H
          have p217 : 0 ≤ (a1 : Int) := of_decide_eq_true (by first | (with_reducible assumption) | assumption)
          have q217 : a1 < (l0.length : Int) := of_decide_eq_true (by first | (with_reducible assumption) | assumption)
          obtain ⟨ad217, e217, hx217_0⟩ := Kd.at_string HR0.out a1 p217 q217
          cases e217
          replace p217 := eq_true p217
          replace q217 := eq_true q217
          go_enter Tryz.func26, Tryz.ntmps26
          go_wp2
          repeat (go_quiet (fail); try go_wp2)
          go_ret2
          exact ⟨by first | rfl | (simp; done) | (simp [*]; done), by repeat (first | exact Drawn0.refl _ | apply Drawn0.step)⟩
        · rw [if_neg c6] at H
          have c6b0 : decide (((rdOf ByteArray.empty l0 a1).size : Int) < 2) = false := decide_eq_false c6
          have c6b1 : decide ((rdOf ByteArray.empty l0 a1).size < 2) = false := decide_eq_false (by omega)
          clear c6
          by_cases c7 : 0 < ((rdOf ByteArray.empty l0 a1).size : Int)
          · rw [if_pos c7] at H
            have c7b0 : decide (0 < ((rdOf ByteArray.empty l0 a1).size : Int)) = true := decide_eq_true c7
            have c7b1 : decide (0 < (rdOf ByteArray.empty l0 a1).size) = true := decide_eq_true (by omega)
            clear c7
            by_cases c9 : (bt (rdOf ByteArray.empty l0 a1) 0) = 39
            · rw [if_pos c9] at H
              have c9b0 : ((bt (rdOf ByteArray.empty l0 a1) 0) == 39) = true := beq_iff_eq.mpr c9
              have c9b1 : ((bt (rdOf ByteArray.empty l0 a1) 0) != 39) = false := bne_eq_false_iff_eq.mpr c9
              clear c9
              obtain ⟨ji10, hji10⟩ : ∃ j_ : Int, (wrap64 (((rdOf ByteArray.empty l0 a1).size : Int) - 1)) = j_ := ⟨_, rfl⟩
              replace H : (if 0 ≤ (ji10) then (if (ji10) < ((rdOf ByteArray.empty l0 a1).size : Int) then (if (bt (rdOf ByteArray.empty l0 a1) (ji10)) = 39 then (if 1 ≤ (ji10) then (if (ji10) ≤ ((rdOf ByteArray.empty l0 a1).size : Int) then (some ((rdOf ByteArray.empty l0 a1).extract 1 ((ji10) : Int).toNat, true)) else (none)) else (none)) else (some ((⟨#[]⟩ : ByteArray), false))) else (none)) else (none)) = some (r1, r2) := by first | (rw [hji10] at H; exact H) | (simp only [hji10] at H ⊢; exact H)
              have hji10w : (IntKind.i64.wrap (((rdOf ByteArray.empty l0 a1).size : Int) - 1)) = ji10 := (i64_w _).trans hji10
              by_cases c11 : 0 ≤ (ji10)
              · rw [if_pos c11] at H
                have c11b0 : decide (0 ≤ (ji10)) = true := decide_eq_true c11
                clear c11
                by_cases c12 : (ji10) < ((rdOf ByteArray.empty l0 a1).size : Int)
                · rw [if_pos c12] at H
                  have c12b0 : decide ((ji10) < ((rdOf ByteArray.empty l0 a1).size : Int)) = true := decide_eq_true c12
                  clear c12
                  by_cases c14 : (bt (rdOf ByteArray.empty l0 a1) (ji10)) = 39
                  · rw [if_pos c14] at H
                    have c14b0 : ((bt (rdOf ByteArray.empty l0 a1) (ji10)) == 39) = true := beq_iff_eq.mpr c14
                    have c14b1 : ((bt (rdOf ByteArray.empty l0 a1) (ji10)) != 39) = false := bne_eq_false_iff_eq.mpr c14
                    clear c14
                    by_cases c15 : 1 ≤ (ji10)
                    · rw [if_pos c15] at H
                      have c15b0 := eq_true c15
                      have c15b1 : decide (1 ≤ (ji10)) = true := decide_eq_true c15
                      clear c15
                      by_cases c16 : (ji10) ≤ ((rdOf ByteArray.empty l0 a1).size : Int)
                      · rw [if_pos c16] at H
                        have c16b0 := eq_true c16
                        have c16b1 : decide ((ji10) ≤ ((rdOf ByteArray.empty l0 a1).size : Int)) = true := decide_eq_true c16
                        clear c16
                        simp only [Option.some.injEq, Prod.mk.injEq] at H
                        obtain ⟨rfl, rfl⟩ := H
                        have p217 : 0 ≤ (a1 : Int) := of_decide_eq_true (by first | (with_reducible assumption) | assumption)
                        have q217 : a1 < (l0.length : Int) := of_decide_eq_true (by first | (with_reducible assumption) | assumption)
                        obtain ⟨ad217, e217, hx217_0⟩ := Kd.at_string HR0.out a1 p217 q217
                        cases e217
                        replace p217 := eq_true p217
                        replace q217 := eq_true q217
                        have p218 : 0 ≤ (a1 : Int) := of_decide_eq_true (by first | (with_reducible assumption) | assumption)
                        have q218 : a1 < (l0.length : Int) := of_decide_eq_true (by first | (with_reducible assumption) | assumption)
                        obtain ⟨ad218, e218, hx218_0⟩ := Kd.at_string HR0.out a1 p218 q218
                        obtain rfl : ad217 = ad218 := (by injection e218)
                        replace p218 := eq_true p218
                        replace q218 := eq_true q218
                        have p8 : 0 ≤ (0 : Int) := (by omega)
                        have q8 : 0 < (rdOf ByteArray.empty l0 a1).size := (by have : (0 : Int) < ((rdOf ByteArray.empty l0 a1).size : Int) := of_decide_eq_true (by first | (with_reducible assumption) | assumption); omega)
                        have hx8 : ∀ h : 0 < (rdOf ByteArray.empty l0 a1).size, (((rdOf ByteArray.empty l0 a1)[0]'h).toNat : Int) = bt (rdOf ByteArray.empty l0 a1) 0 := bt_at (rdOf ByteArray.empty l0 a1) 0
                        clear p8
                        have qi8 : (0 < ((rdOf ByteArray.empty l0 a1).size : Int)) = True := eq_true (of_decide_eq_true (by first | (with_reducible assumption) | assumption))
                        replace q8 := eq_true q8
                        have p219 : 0 ≤ (a1 : Int) := of_decide_eq_true (by first | (with_reducible assumption) | assumption)
                        have q219 : a1 < (l0.length : Int) := of_decide_eq_true (by first | (with_reducible assumption) | assumption)
                        obtain ⟨ad219, e219, hx219_0⟩ := Kd.at_string HR0.out a1 p219 q219
                        obtain rfl : ad217 = ad219 := (by injection e219)
                        replace p219 := eq_true p219
                        replace q219 := eq_true q219
                        have p220 : 0 ≤ (a1 : Int) := of_decide_eq_true (by first | (with_reducible assumption) | assumption)
                        have q220 : a1 < (l0.length : Int) := of_decide_eq_true (by first | (with_reducible assumption) | assumption)
                        obtain ⟨ad220, e220, hx220_0⟩ := Kd.at_string HR0.out a1 p220 q220
                        obtain rfl : ad217 = ad220 := (by injection e220)
                        replace p220 := eq_true p220
                        replace q220 := eq_true q220
                        have p13 : 0 ≤ ((ji10) : Int) := of_decide_eq_true (by first | (with_reducible assumption) | assumption)
                        have q13 : (ji10) < ((rdOf ByteArray.empty l0 a1).size : Int) := of_decide_eq_true (by first | (with_reducible assumption) | assumption)
                        have hx13 := bt_at (rdOf ByteArray.empty l0 a1) (ji10)
                        replace p13 := eq_true p13
                        replace q13 := eq_true q13
                        have p221 : 0 ≤ (a1 : Int) := of_decide_eq_true (by first | (with_reducible assumption) | assumption)
                        have q221 : a1 < (l0.length : Int) := of_decide_eq_true (by first | (with_reducible assumption) | assumption)
                        obtain ⟨ad221, e221, hx221_0⟩ := Kd.at_string HR0.out a1 p221 q221
                        obtain rfl : ad217 = ad221 := (by injection e221)
                        replace p221 := eq_true p221
                        replace q221 := eq_true q221
                        have p222 : 0 ≤ (a1 : Int) := of_decide_eq_true (by first | (with_reducible assumption) | assumption)
                        have q222 : a1 < (l0.length : Int) := of_decide_eq_true (by first | (with_reducible assumption) | assumption)
                        obtain ⟨ad222, e222, hx222_0⟩ := Kd.at_string HR0.out a1 p222 q222
                        obtain rfl : ad217 = ad222 := (by injection e222)
                        replace p222 := eq_true p222
                        replace q222 := eq_true q222
                        go_enter Tryz.func26, Tryz.ntmps26
                        go_wp2
                        repeat (go_quiet (fail); try go_wp2)
                        go_ret2
                        exact ⟨by first | rfl | (simp; done) | (simp only [← hji10] <;> (first | rfl | simp)) | (simp [*]; done), by repeat (first | exact Drawn0.refl _ | apply Drawn0.step)⟩
                      · rw [if_neg c16] at H
                        exact absurd H (by simp)
                    · rw [if_neg c15] at H
                      exact absurd H (by simp)
                  · rw [if_neg c14] at H
                    have c14b0 : ((bt (rdOf ByteArray.empty l0 a1) (ji10)) == 39) = false := beq_eq_false_iff_ne.mpr c14
                    have c14b1 : ((bt (rdOf ByteArray.empty l0 a1) (ji10)) != 39) = true := bne_iff_ne.mpr c14
                    simp only [Option.some.injEq, Prod.mk.injEq] at H
                    obtain ⟨rfl, rfl⟩ := H
                    have p217 : 0 ≤ (a1 : Int) := of_decide_eq_true (by first | (with_reducible assumption) | assumption)
                    have q217 : a1 < (l0.length : Int) := of_decide_eq_true (by first | (with_reducible assumption) | assumption)
                    obtain ⟨ad217, e217, hx217_0⟩ := Kd.at_string HR0.out a1 p217 q217
                    cases e217
                    replace p217 := eq_true p217
                    replace q217 := eq_true q217
                    have p218 : 0 ≤ (a1 : Int) := of_decide_eq_true (by first | (with_reducible assumption) | assumption)
                    have q218 : a1 < (l0.length : Int) := of_decide_eq_true (by first | (with_reducible assumption) | assumption)
                    obtain ⟨ad218, e218, hx218_0⟩ := Kd.at_string HR0.out a1 p218 q218
                    obtain rfl : ad217 = ad218 := (by injection e218)
                    replace p218 := eq_true p218
                    replace q218 := eq_true q218
                    have p8 : 0 ≤ (0 : Int) := (by omega)
                    have q8 : 0 < (rdOf ByteArray.empty l0 a1).size := (by have : (0 : Int) < ((rdOf ByteArray.empty l0 a1).size : Int) := of_decide_eq_true (by first | (with_reducible assumption) | assumption); omega)
                    have hx8 : ∀ h : 0 < (rdOf ByteArray.empty l0 a1).size, (((rdOf ByteArray.empty l0 a1)[0]'h).toNat : Int) = bt (rdOf ByteArray.empty l0 a1) 0 := bt_at (rdOf ByteArray.empty l0 a1) 0
                    clear p8
                    have qi8 : (0 < ((rdOf ByteArray.empty l0 a1).size : Int)) = True := eq_true (of_decide_eq_true (by first | (with_reducible assumption) | assumption))
                    replace q8 := eq_true q8
                    have p219 : 0 ≤ (a1 : Int) := of_decide_eq_true (by first | (with_reducible assumption) | assumption)
                    have q219 : a1 < (l0.length : Int) := of_decide_eq_true (by first | (with_reducible assumption) | assumption)
                    obtain ⟨ad219, e219, hx219_0⟩ := Kd.at_string HR0.out a1 p219 q219
                    obtain rfl : ad217 = ad219 := (by injection e219)
                    replace p219 := eq_true p219
                    replace q219 := eq_true q219
                    have p220 : 0 ≤ (a1 : Int) := of_decide_eq_true (by first | (with_reducible assumption) | assumption)
                    have q220 : a1 < (l0.length : Int) := of_decide_eq_true (by first | (with_reducible assumption) | assumption)
                    obtain ⟨ad220, e220, hx220_0⟩ := Kd.at_string HR0.out a1 p220 q220
                    obtain rfl : ad217 = ad220 := (by injection e220)
                    replace p220 := eq_true p220
                    replace q220 := eq_true q220
                    have p13 : 0 ≤ ((ji10) : Int) := of_decide_eq_true (by first | (with_reducible assumption) | assumption)
                    have q13 : (ji10) < ((rdOf ByteArray.empty l0 a1).size : Int) := of_decide_eq_true (by first | (with_reducible assumption) | assumption)
                    have hx13 := bt_at (rdOf ByteArray.empty l0 a1) (ji10)
                    replace p13 := eq_true p13
                    replace q13 := eq_true q13
                    go_enter Tryz.func26, Tryz.ntmps26
                    go_wp2
                    repeat (go_quiet (fail); try go_wp2)
                    go_ret2
                    exact ⟨by first | rfl | (simp; done) | (simp only [← hji10] <;> (first | rfl | simp)) | (simp [*]; done), by repeat (first | exact Drawn0.refl _ | apply Drawn0.step)⟩
                · rw [if_neg c12] at H
                  exact absurd H (by simp)
              · rw [if_neg c11] at H
                exact absurd H (by simp)
            · rw [if_neg c9] at H
              have c9b0 : ((bt (rdOf ByteArray.empty l0 a1) 0) == 39) = false := beq_eq_false_iff_ne.mpr c9
              have c9b1 : ((bt (rdOf ByteArray.empty l0 a1) 0) != 39) = true := bne_iff_ne.mpr c9
              simp only [Option.some.injEq, Prod.mk.injEq] at H
              obtain ⟨rfl, rfl⟩ := H
              have p217 : 0 ≤ (a1 : Int) := of_decide_eq_true (by first | (with_reducible assumption) | assumption)
              have q217 : a1 < (l0.length : Int) := of_decide_eq_true (by first | (with_reducible assumption) | assumption)
              obtain ⟨ad217, e217, hx217_0⟩ := Kd.at_string HR0.out a1 p217 q217
              cases e217
              replace p217 := eq_true p217
              replace q217 := eq_true q217
              have p218 : 0 ≤ (a1 : Int) := of_decide_eq_true (by first | (with_reducible assumption) | assumption)
              have q218 : a1 < (l0.length : Int) := of_decide_eq_true (by first | (with_reducible assumption) | assumption)
              obtain ⟨ad218, e218, hx218_0⟩ := Kd.at_string HR0.out a1 p218 q218
              obtain rfl : ad217 = ad218 := (by injection e218)
              replace p218 := eq_true p218
              replace q218 := eq_true q218
              have p8 : 0 ≤ (0 : Int) := (by omega)
              have q8 : 0 < (rdOf ByteArray.empty l0 a1).size := (by have : (0 : Int) < ((rdOf ByteArray.empty l0 a1).size : Int) := of_decide_eq_true (by first | (with_reducible assumption) | assumption); omega)
              have hx8 : ∀ h : 0 < (rdOf ByteArray.empty l0 a1).size, (((rdOf ByteArray.empty l0 a1)[0]'h).toNat : Int) = bt (rdOf ByteArray.empty l0 a1) 0 := bt_at (rdOf ByteArray.empty l0 a1) 0
              clear p8
              have qi8 : (0 < ((rdOf ByteArray.empty l0 a1).size : Int)) = True := eq_true (of_decide_eq_true (by first | (with_reducible assumption) | assumption))
              replace q8 := eq_true q8
              go_enter Tryz.func26, Tryz.ntmps26
              go_wp2
              repeat (go_quiet (fail); try go_wp2)
              go_ret2
              exact ⟨by first | rfl | (simp; done) | (simp [*]; done), by repeat (first | exact Drawn0.refl _ | apply Drawn0.step)⟩
          · rw [if_neg c7] at H
            exact absurd H (by simp)
      · rw [if_neg c5] at H
        exact absurd H (by simp)
    · rw [if_neg c4] at H
      exact absurd H (by simp)

end Go.Proofs.YtkoodlmedgfdjaaGreatDoor.P
