-- Written by wip/tools/pprint.py (a program of this session) over the kit's printer; not trusted: Lean checks it.
import Derived.Test.YtaajcbbbmpdcnaaDoorPx0
import Derived.Test.YtaajcbbbmpdcnaaDoorTreeO3
import Derived.Test.YtaajcbbbmpdcnaaDoorTreeOkC
import Derived.Test.YtaajcbbbmpdcnaaDoorPx8
import Derived.Test.YtaajcbbbmpdcnaaDoorV
namespace Go.Proofs.YtaajcbbbmpdcnaaDoor.P
open Go.RowKit Go.Proofs.YtaajcbbbmpdcnaaDoorW.PrintWords Go.Proofs.YtaajcbbbmpdcnaaDoorW.PrintLast Go.Proofs.YtaajcbbbmpdcnaaDoorW.PrintMore
attribute [local go_sem] cell_set_set cell_set_far_set max2_int min2_int max_two min_two max_three min_three max_four min_four   -- for this text's walks alone
set_option linter.unusedVariables false
set_option linter.unusedSimpArgs false

/-! ### impl_TreeOk: function 25 -/
def impl_TreeOk.f (l0 : List (S47)) : Option Bool := some (tok l0 [] 0 (-1))
theorem impl_TreeOk.calls (A0 : Option Addr) (c0 : Nat) (l0 : List (S47)) (r : Bool) (w : World) (hr0 : Kd.C k47 w A0 l0.length l0) (hc0 : l0.length ≤ c0) (ht : TabOk w) (h : impl_TreeOk.f l0 = some r) :
    Calls Tryd.prog 25 #[.slice A0 l0.length c0] w fun e w' => e = .returned (.bool r) ∧ Below w.heap.size w w' := by
  have h2 := treeOk_calls A0 c0 l0 w hr0 hc0 ht
  rw [Option.some.inj h] at h2
  exact h2


-- NOT PRINTED: function 97 (impl_node_attach)

-- NOT PRINTED: function 68 (impl_plant)

-- NOT PRINTED: function 73 (impl_idOf)

/-! ### impl_placeOk: function 105 -/
def impl_placeOk.f (a0 : Int) (a1 : Int) : Option (Bool) := (impl_isMade.f a0).bind fun t192 => (if t192 = true then (if a1 = 0 then (some true) else ((impl_isMade.f a1).bind fun t193 => (some t193))) else ((impl_isRoot.f a0).bind fun t194 => (if t194 = true then (if a1 = 0 then (some true) else ((impl_isMade.f a1).bind fun t195 => (some t195))) else (some false))))
set_option maxHeartbeats 8000000 in
set_option maxRecDepth 100000 in
theorem impl_placeOk.calls (a0 : Int) (a1 : Int) (r : Bool) (w : World) (ht : TabOk w) (h : impl_placeOk.f a0 a1 = some r) :
    Calls Tryd.prog 105 #[.int .i64 a0, .int .i64 a1] w fun e w' => e = .returned (.bool r) ∧ Below w.heap.size w w' := by
  have HT := Aside0.mk ht
  clear ht
  have HB := Aside0.mk (Below.refl w.heap.size w)
  have H : ((impl_isMade.f a0).bind fun t192 => (if t192 = true then (if a1 = 0 then (some true) else ((impl_isMade.f a1).bind fun t193 => (some t193))) else ((impl_isRoot.f a0).bind fun t194 => (if t194 = true then (if a1 = 0 then (some true) else ((impl_isMade.f a1).bind fun t195 => (some t195))) else (some false))))) = some r := h
  clear h
  replace H := Option.bind_eq_some_iff.mp H
  obtain ⟨t192, A30, H⟩ := H
  (try dsimp only at H)
  have A3 := Aside0.mk A30
  clear A30
  by_cases c4 : t192 = true
  · subst c4
    have H1 : (if a1 = 0 then (some true) else ((impl_isMade.f a1).bind fun t193 => (some t193))) = some r := by rw [if_pos rfl] at H; exact H
    clear H
    have H := H1
    clear H1
    by_cases c5 : a1 = 0
    · rw [if_pos c5] at H
      have c5b0 : (a1 == 0) = true := beq_iff_eq.mpr c5
      have c5b1 : (a1 != 0) = false := bne_eq_false_iff_eq.mpr c5
      clear c5
      obtain rfl := Option.some.inj H
      go_enter Tryd.func105, Tryd.ntmps105
      go_wp2_with (first | ((with_reducible refine gate_callee (f := 93) rfl ?_); refine goesL_ (some 6) rfl rfl Tryd.func93 (by kernel_rfl) rfl #[.int .i64 a0] rfl argsA ?_; (with_reducible refine (impl_isMade.calls a0 true _ ?side1 A3.out).mono ?_); (case side1 => exact TabOk.below HT.out belowA); rintro e w6 ⟨rfl, hb⟩; refine ⟨_, rfl, ?_⟩; have n0_ := Aside0.mk (below_step belowA hb); clear HB; have HB := n0_; clear n0_; (try clear hb); (try clear hb2); (try clear hk); (try clear hi)))
      go_ret
      exact ⟨endA, belowA⟩
    · rw [if_neg c5] at H
      have c5b0 : (a1 == 0) = false := beq_eq_false_iff_ne.mpr c5
      have c5b1 : (a1 != 0) = true := bne_iff_ne.mpr c5
      replace H := Option.bind_eq_some_iff.mp H
      obtain ⟨t193, A70, H⟩ := H
      (try dsimp only at H)
      have A7 := Aside0.mk A70
      clear A70
      obtain rfl := Option.some.inj H
      go_enter Tryd.func105, Tryd.ntmps105
      go_wp2_with (first | ((with_reducible refine gate_callee (f := 93) rfl ?_); refine goesL_ (some 6) rfl rfl Tryd.func93 (by kernel_rfl) rfl #[.int .i64 a0] rfl argsA ?_; (with_reducible refine (impl_isMade.calls a0 true _ ?side1 A3.out).mono ?_); (case side1 => exact TabOk.below HT.out belowA); rintro e w8 ⟨rfl, hb⟩; refine ⟨_, rfl, ?_⟩; have n0_ := Aside0.mk (below_step belowA hb); clear HB; have HB := n0_; clear n0_; (try clear hb); (try clear hb2); (try clear hk); (try clear hi)) | (go_at_call 93; (with_reducible refine (impl_isMade.calls a1 t193 _ ?side1 A7.out).mono ?_); (case side1 => exact TabOk.below HT.out belowA); rintro e w9 ⟨rfl, hb⟩; have n0_ := Aside0.mk (below_step belowA hb); clear HB; have HB := n0_; clear n0_; (try clear hb); (try clear hb2); (try clear hk); (try clear hi)))
      go_ret
      exact ⟨endA, belowA⟩
  · replace c4 := Bool.eq_false_iff.mpr c4
    subst c4
    have H1 : ((impl_isRoot.f a0).bind fun t194 => (if t194 = true then (if a1 = 0 then (some true) else ((impl_isMade.f a1).bind fun t195 => (some t195))) else (some false))) = some r := by rw [if_neg (show ¬ (false = true) by decide)] at H; exact H
    clear H
    have H := H1
    clear H1
    replace H := Option.bind_eq_some_iff.mp H
    obtain ⟨t194, A100, H⟩ := H
    (try dsimp only at H)
    have A10 := Aside0.mk A100
    clear A100
    by_cases c11 : t194 = true
    · subst c11
      have H1 : (if a1 = 0 then (some true) else ((impl_isMade.f a1).bind fun t195 => (some t195))) = some r := by rw [if_pos rfl] at H; exact H
      clear H
      have H := H1
      clear H1
      by_cases c12 : a1 = 0
      · rw [if_pos c12] at H
        have c12b0 : (a1 == 0) = true := beq_iff_eq.mpr c12
        have c12b1 : (a1 != 0) = false := bne_eq_false_iff_eq.mpr c12
        clear c12
        obtain rfl := Option.some.inj H
        go_enter Tryd.func105, Tryd.ntmps105
        go_wp2_with (first | ((with_reducible refine gate_callee (f := 93) rfl ?_); refine goesL_ (some 6) rfl rfl Tryd.func93 (by kernel_rfl) rfl #[.int .i64 a0] rfl argsA ?_; (with_reducible refine (impl_isMade.calls a0 false _ ?side1 A3.out).mono ?_); (case side1 => exact TabOk.below HT.out belowA); rintro e w13 ⟨rfl, hb⟩; refine ⟨_, rfl, ?_⟩; have n0_ := Aside0.mk (below_step belowA hb); clear HB; have HB := n0_; clear n0_; (try clear hb); (try clear hb2); (try clear hk); (try clear hi)) | (go_at_call 65; (with_reducible refine (impl_isRoot.calls a0 true _ ?side1 A10.out).mono ?_); (case side1 => exact TabOk.below HT.out belowA); rintro e w14 ⟨rfl, hb⟩; have n0_ := Aside0.mk (below_step belowA hb); clear HB; have HB := n0_; clear n0_; (try clear hb); (try clear hb2); (try clear hk); (try clear hi)))
        go_ret
        exact ⟨endA, belowA⟩
      · rw [if_neg c12] at H
        have c12b0 : (a1 == 0) = false := beq_eq_false_iff_ne.mpr c12
        have c12b1 : (a1 != 0) = true := bne_iff_ne.mpr c12
        replace H := Option.bind_eq_some_iff.mp H
        obtain ⟨t195, A150, H⟩ := H
        (try dsimp only at H)
        have A15 := Aside0.mk A150
        clear A150
        obtain rfl := Option.some.inj H
        go_enter Tryd.func105, Tryd.ntmps105
        go_wp2_with (first | ((with_reducible refine gate_callee (f := 93) rfl ?_); refine goesL_ (some 6) rfl rfl Tryd.func93 (by kernel_rfl) rfl #[.int .i64 a0] rfl argsA ?_; (with_reducible refine (impl_isMade.calls a0 false _ ?side1 A3.out).mono ?_); (case side1 => exact TabOk.below HT.out belowA); rintro e w16 ⟨rfl, hb⟩; refine ⟨_, rfl, ?_⟩; have n0_ := Aside0.mk (below_step belowA hb); clear HB; have HB := n0_; clear n0_; (try clear hb); (try clear hb2); (try clear hk); (try clear hi)) | (go_at_call 65; (with_reducible refine (impl_isRoot.calls a0 true _ ?side1 A10.out).mono ?_); (case side1 => exact TabOk.below HT.out belowA); rintro e w17 ⟨rfl, hb⟩; have n0_ := Aside0.mk (below_step belowA hb); clear HB; have HB := n0_; clear n0_; (try clear hb); (try clear hb2); (try clear hk); (try clear hi)) | (go_at_call 93; (with_reducible refine (impl_isMade.calls a1 t195 _ ?side1 A15.out).mono ?_); (case side1 => exact TabOk.below HT.out belowA); rintro e w18 ⟨rfl, hb⟩; have n0_ := Aside0.mk (below_step belowA hb); clear HB; have HB := n0_; clear n0_; (try clear hb); (try clear hb2); (try clear hk); (try clear hi)))
        go_ret
        exact ⟨endA, belowA⟩
    · replace c11 := Bool.eq_false_iff.mpr c11
      subst c11
      have H1 : (some false) = some r := by rw [if_neg (show ¬ (false = true) by decide)] at H; exact H
      clear H
      have H := H1
      clear H1
      obtain rfl := Option.some.inj H
      go_enter Tryd.func105, Tryd.ntmps105
      go_wp2_with (first | ((with_reducible refine gate_callee (f := 93) rfl ?_); refine goesL_ (some 6) rfl rfl Tryd.func93 (by kernel_rfl) rfl #[.int .i64 a0] rfl argsA ?_; (with_reducible refine (impl_isMade.calls a0 false _ ?side1 A3.out).mono ?_); (case side1 => exact TabOk.below HT.out belowA); rintro e w19 ⟨rfl, hb⟩; refine ⟨_, rfl, ?_⟩; have n0_ := Aside0.mk (below_step belowA hb); clear HB; have HB := n0_; clear n0_; (try clear hb); (try clear hb2); (try clear hk); (try clear hi)) | (go_at_call 65; (with_reducible refine (impl_isRoot.calls a0 false _ ?side1 A10.out).mono ?_); (case side1 => exact TabOk.below HT.out belowA); rintro e w20 ⟨rfl, hb⟩; have n0_ := Aside0.mk (below_step belowA hb); clear HB; have HB := n0_; clear n0_; (try clear hb); (try clear hb2); (try clear hk); (try clear hi)))
      go_ret
      exact ⟨endA, belowA⟩

-- NOT PRINTED: function 88 (impl_changeOf)

-- NOT PRINTED: function 69 (impl_forest_find)

-- NOT PRINTED: function 70 (impl_node_within)

-- NOT PRINTED: function 106 (impl_forest_near)

-- NOT PRINTED: function 89 (impl_forest_where)

/-! ### impl_OpWhere: function 56 -/
def impl_OpWhere.f (l0 : List (S47)) (a1_0 : Int) (a1_1 : Int) (a1_2 : Int) (a1_3 : Int) (a1_4 : ByteArray) : Option (Int × Int × Bool) := some (opWhere l0 a1_0 a1_1 a1_2 a1_3 a1_4)
theorem impl_OpWhere.calls (A0 : Option Addr) (c0 : Nat) (l0 : List (S47)) (a1_0 : Int) (a1_1 : Int) (a1_2 : Int) (a1_3 : Int) (a1_4 : ByteArray) (r1 : Int) (r2 : Int) (r3 : Bool) (w : World) (hr0 : Kd.C k47 w A0 l0.length l0) (hc0 : l0.length ≤ c0) (ht : TabOk w) (h : impl_OpWhere.f l0 a1_0 a1_1 a1_2 a1_3 a1_4 = some (r1, r2, r3)) :
    Calls Tryd.prog 56 #[.slice A0 l0.length c0, .agg #[.int .i64 a1_0, .int .i64 a1_1, .int .i64 a1_2, .int .i64 a1_3, .string a1_4]] w fun e w' => e = .returned (.tuple #[.int .i64 r1, .int .i64 r2, .bool r3]) ∧ Below w.heap.size w w' := by
  have h2 := opWhere_calls A0 c0 l0 a1_0 a1_1 a1_2 a1_3 a1_4 w hr0 hc0 ht
  rw [show opWhere l0 a1_0 a1_1 a1_2 a1_3 a1_4 = (r1, r2, r3) from Option.some.inj h] at h2
  exact h2


end Go.Proofs.YtaajcbbbmpdcnaaDoor.P
