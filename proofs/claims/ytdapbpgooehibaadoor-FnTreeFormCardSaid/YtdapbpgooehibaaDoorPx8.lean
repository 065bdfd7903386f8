-- Written by wip/tools/pprint.py (a program of this session) over the kit's printer; not trusted: Lean checks it.
import Derived.Test.YtdapbpgooehibaaDoorPx0
import Derived.Test.YtdapbpgooehibaaDoorTreeQ
import Derived.Test.YtdapbpgooehibaaDoorV
namespace Go.Proofs.YtdapbpgooehibaaDoor.P
open Go.RowKit Go.Proofs.YtdapbpgooehibaaDoorW.PrintWords Go.Proofs.YtdapbpgooehibaaDoorW.PrintLast
attribute [local go_sem] cell_set_set cell_set_far_set   -- for this text's walks alone
set_option linter.unusedVariables false
set_option linter.unusedSimpArgs false

/-! ### impl_TreeUp: function 12 -/
def impl_TreeUp.f (l0 : List (S29)) (a1 : Int) : Option (Int × Bool) := some (treeUp l0 a1)
theorem impl_TreeUp.calls (A0 : Option Addr) (c0 : Nat) (l0 : List (S29)) (a1 : Int) (r1 : Int) (r2 : Bool) (w : World) (hr0 : Kd.C k29 w A0 l0.length l0) (hc0 : l0.length ≤ c0) (ht : TabOk w) (h : impl_TreeUp.f l0 a1 = some (r1, r2)) :
    Calls Tryd.prog 12 #[.slice A0 l0.length c0, .int .i64 a1] w fun e w' => e = .returned (.tuple #[.int .i64 r1, .bool r2]) ∧ Below w.heap.size w w' := by
  have h2 := treeUp_calls A0 c0 l0 a1 w hr0 hc0 ht
  rw [show treeUp l0 a1 = (r1, r2) from Option.some.inj h] at h2
  exact h2


/-! ### laws_lpAt: function 13 -/
def laws_lpAt.l0 : Nat → List (S29) → Int → Int → Option (Int)
  | 0, _, _, _ => none
  | k + 1, x0, x1, x5 => if x5 < (x0.length : Int) then (if 0 ≤ x5 then (if ((rd_T29 x0 x5).f0) = x1 then (some x5) else (laws_lpAt.l0 k x0 x1 (wrap64 (x5 + 1)))) else (none)) else (some (-1))
def laws_lpAt.f (k : Nat) (l0 : List (S29)) (a1 : Int) : Option (Int) := laws_lpAt.l0 k l0 a1 0
theorem laws_lpAt.mono_l : ∀ k, (∀ y0 y1 y2, LeO (laws_lpAt.l0 k y0 y1 y2) (laws_lpAt.l0 (k + 1) y0 y1 y2))
  | 0 => fun _ _ _ r h => by simp [laws_lpAt.l0] at h
  | k + 1 => by
    have ih0 := laws_lpAt.mono_l k
    · intro y0 y1 y2
      unfold laws_lpAt.l0
      repeat' first
      | (with_reducible exact ih0 _ _ _)
      | (with_reducible exact LeO.refl _)
      | (with_reducible exact LeO.none _)
      | (with_reducible refine LeO.ite ?_ ?_)
      | (with_reducible refine LeO.bind ?_ (fun _ => ?_))
      | exact ih0 _ _ _
      | exact LeO.none _
      | refine LeO.ite ?_ ?_
      | refine LeO.bind ?_ (fun _ => ?_)
theorem laws_lpAt.mono : ∀ a0 a1 k, LeO (laws_lpAt.f k a0 a1) (laws_lpAt.f (k + 1) a0 a1) := by
  intro a0 a1 k
  have ih0 := laws_lpAt.mono_l k
  unfold laws_lpAt.f
  repeat' first
      | (with_reducible exact ih0 _ _ _)
      | (with_reducible exact LeO.refl _)
      | (with_reducible exact LeO.none _)
      | (with_reducible refine LeO.ite ?_ ?_)
      | (with_reducible refine LeO.bind ?_ (fun _ => ?_))
      | exact ih0 _ _ _
      | exact LeO.none _
      | refine LeO.ite ?_ ?_
      | refine LeO.bind ?_ (fun _ => ?_)
set_option maxHeartbeats 8000000 in
set_option maxRecDepth 100000 in
theorem laws_lpAt.calls (k : Nat) (A0 : Option Addr) (c0 : Nat) (l0 : List (S29)) (a1 : Int) (r : Int) (w : World) (hr0 : Kd.C k29 w A0 l0.length l0) (hc0 : l0.length ≤ c0) (h : laws_lpAt.f k l0 a1 = some r) :
    Calls Tryd.prog 13 #[.slice A0 l0.length c0, .int .i64 a1] w fun e w' => e = .returned (.int .i64 r) ∧ Drawn0 w w' := by
  have HR0 := Aside0.mk hr0
  have HC0 := Aside0.mk hc0
  clear hr0 hc0
  have H : (laws_lpAt.l0 k l0 a1 0) = some r := h
  clear h
  have H' := Aside0.mk H
  clear H
  go_enter Tryd.func13, Tryd.ntmps13
  go_wp2
  go_loopg [5] k (fun kq v5 w' => ∃ (x5_1 : Int), v5 = .int .i64 x5_1 ∧ Aside0 (laws_lpAt.l0 kq l0 a1 x5_1 = some r) ∧ Aside0 (kq ≤ k) ∧ Drawn0 w w')
  case atStart => exact ⟨(0), (by first | rfl | (simp; done) | (simp [*]; done)), H', ⟨Nat.le_refl _⟩, by repeat (first | exact Drawn0.refl _ | apply Drawn0.step)⟩
  case round =>
    clear H'
    try clear c1
    try clear p2
    obtain ⟨x5_1, rfl, HA, HK1, ⟨m1, rfl⟩⟩ := hrel
    cases gk with
    | zero => exact absurd HA.out (by simp [laws_lpAt.l0])
    | succ k1 =>
      have H := HA.out
      clear HA
      simp only [laws_lpAt.l0] at H
      by_cases c3 : x5_1 < (l0.length : Int)
      · rw [if_pos c3] at H
        have c3b0 : decide (x5_1 < (l0.length : Int)) = true := decide_eq_true c3
        clear c3
        by_cases c4 : 0 ≤ x5_1
        · rw [if_pos c4] at H
          have c4b0 : decide (0 ≤ x5_1) = true := decide_eq_true c4
          clear c4
          by_cases c5 : ((rd_T29 l0 x5_1).f0) = a1
          · rw [if_pos c5] at H
            have c5b0 : (((rd_T29 l0 x5_1).f0) == a1) = true := beq_iff_eq.mpr c5
            have c5b1 : (((rd_T29 l0 x5_1).f0) != a1) = false := bne_eq_false_iff_eq.mpr c5
            clear c5
            obtain rfl := Option.some.inj H
            have p325 : 0 ≤ (x5_1 : Int) := of_decide_eq_true (by first | (with_reducible assumption) | assumption)
            have q325 : x5_1 < (l0.length : Int) := of_decide_eq_true (by first | (with_reducible assumption) | assumption)
            obtain ⟨ad325, e325, hx325_0, hx325_1, hx325_2⟩ := at_T29 HR0.out x5_1 p325 q325
            cases e325
            replace p325 := eq_true p325
            replace q325 := eq_true q325
            go_wp2
            go_ret
            exact ⟨by first | rfl | (simp; done) | (simp [*]; done), by repeat (first | exact Drawn0.refl _ | apply Drawn0.step)⟩
          · rw [if_neg c5] at H
            have c5b0 : (((rd_T29 l0 x5_1).f0) == a1) = false := beq_eq_false_iff_ne.mpr c5
            have c5b1 : (((rd_T29 l0 x5_1).f0) != a1) = true := bne_iff_ne.mpr c5
            have H' := Aside0.mk H
            clear H
            have p325 : 0 ≤ (x5_1 : Int) := of_decide_eq_true (by first | (with_reducible assumption) | assumption)
            have q325 : x5_1 < (l0.length : Int) := of_decide_eq_true (by first | (with_reducible assumption) | assumption)
            obtain ⟨ad325, e325, hx325_0, hx325_1, hx325_2⟩ := at_T29 HR0.out x5_1 p325 q325
            cases e325
            replace p325 := eq_true p325
            replace q325 := eq_true q325
            go_wp2
            go_roundg k1
            case measure => have := HK1.out; omega
            case rel => exact ⟨(wrap64 (x5_1 + 1)), (by first | rfl | (simp; done) | (simp [*]; done)), H', ⟨by have := HK1.out; omega⟩, by repeat (first | exact Drawn0.refl _ | apply Drawn0.step)⟩
        · rw [if_neg c4] at H
          exact absurd H (by simp)
      · rw [if_neg c3] at H
        have c3b0 : decide (x5_1 < (l0.length : Int)) = false := decide_eq_false c3
        clear c3
        obtain rfl := Option.some.inj H
        go_wp2
        go_ret
        exact ⟨by first | rfl | (simp; done) | (simp [*]; done), by repeat (first | exact Drawn0.refl _ | apply Drawn0.step)⟩

/-! ### impl_TreeNew: function 14 -/
def impl_TreeNew.f  : Option ((List (S29))) := some (([(⟨1, 0, (⟨#[]⟩ : ByteArray)⟩ : S29), (⟨2, 0, (⟨#[]⟩ : ByteArray)⟩ : S29), (⟨3, 0, (⟨#[]⟩ : ByteArray)⟩ : S29)] : List (S29)))
set_option maxHeartbeats 8000000 in
set_option maxRecDepth 100000 in
theorem impl_TreeNew.calls  (r : List (S29)) (w : World) (h : impl_TreeNew.f  = some r) :
    Calls Tryd.prog 14 #[] w fun e w' => ∃ v0_ : Value, e = .returned (v0_) ∧ Kd.R k29 29 w' w.heap.size (fun _ => True) v0_ r ∧ Below w.heap.size w w' := by
  have hu29 := Tryd.underlying29
  have HB := Aside0.mk (Below.refl w.heap.size w)
  have H : (some (([(⟨1, 0, (⟨#[]⟩ : ByteArray)⟩ : S29), (⟨2, 0, (⟨#[]⟩ : ByteArray)⟩ : S29), (⟨3, 0, (⟨#[]⟩ : ByteArray)⟩ : S29)] : List (S29)))) = some r := h
  clear h
  obtain ⟨y326, hy326⟩ : ∃ y_ : List (S29), y_ = (([(⟨1, 0, (⟨#[]⟩ : ByteArray)⟩ : S29), (⟨2, 0, (⟨#[]⟩ : ByteArray)⟩ : S29), (⟨3, 0, (⟨#[]⟩ : ByteArray)⟩ : S29)] : List (S29))) := ⟨_, rfl⟩
  replace H : (some y326) = some r := by first | (rw [hy326]; with_reducible exact H) | (have H2_ := (Option.bind_some _ _).symm.trans H; rw [hy326]; with_reducible exact H2_) | (have H2_ := (Option.bind_some _ _).symm.trans H; with_reducible exact H2_) | with_reducible exact H | (rw [hy326]; exact H) | exact H
  have Ny326 := Aside0.mk hy326
  clear hy326
  obtain rfl := Option.some.inj H
  go_enter Tryd.func14, Tryd.ntmps14
  go_wp2_with (first | ((with_reducible refine gate_dst (N := 4) rfl ?_); refine Kd.R_lit k29 _ 29 ?hg (N := 4) ?hd (xs := ([(⟨1, 0, (⟨#[]⟩ : ByteArray)⟩ : S29), (⟨2, 0, (⟨#[]⟩ : ByteArray)⟩ : S29), (⟨3, 0, (⟨#[]⟩ : ByteArray)⟩ : S29)] : List (S29))) (inner := [.int .i64 1, .int .i64 0, .string (⟨#[]⟩ : ByteArray), .int .i64 2, .int .i64 0, .string (⟨#[]⟩ : ByteArray), .int .i64 3, .int .i64 0, .string (⟨#[]⟩ : ByteArray)]) (ok := fun _ => True) (okp := fun _ => True) ?hr ?hp (fun _ hk => hk) trivial (Below.refl _ _) (Nat.le_refl _) (by simp) ?_; (case hd => rfl); (case hg => rfl); (case hr => first | (go_simp; done) | (go_simp; rfl)); (case hp => exact (Reps.c3 (show Kd.M k29 _ _ _ (⟨1, 0, (⟨#[]⟩ : ByteArray)⟩ : S29) [.int .i64 1, .int .i64 0, .string (⟨#[]⟩ : ByteArray)] from (k29_mkM _ _ _ (⟨1, 0, (⟨#[]⟩ : ByteArray)⟩ : S29) )) (Reps.c3 (show Kd.M k29 _ _ _ (⟨2, 0, (⟨#[]⟩ : ByteArray)⟩ : S29) [.int .i64 2, .int .i64 0, .string (⟨#[]⟩ : ByteArray)] from (k29_mkM _ _ _ (⟨2, 0, (⟨#[]⟩ : ByteArray)⟩ : S29) )) (Reps.c3 (show Kd.M k29 _ _ _ (⟨3, 0, (⟨#[]⟩ : ByteArray)⟩ : S29) [.int .i64 3, .int .i64 0, .string (⟨#[]⟩ : ByteArray)] from (k29_mkM _ _ _ (⟨3, 0, (⟨#[]⟩ : ByteArray)⟩ : S29) )) (Reps.none _ _))))); intro v327 w1 ho2 hb hg_ hnew_; clear hg_ hnew_; (first | rw [← Ny326.out] at ho2 | (simp only [Int.reduceToNat] at ho2; rw [← Ny326.out] at ho2)); have n0_ := Aside0.mk (Kd.R_lower ho2 (below_size belowA)); have n1_ := Aside0.mk (below_step belowA hb); clear HB; have HO328 := n0_; have HB := n1_; clear n0_ n1_; clear hb ho2))
  go_ret
  exact ⟨_, endA, RA HO328, belowA⟩

end Go.Proofs.YtdapbpgooehibaaDoor.P
