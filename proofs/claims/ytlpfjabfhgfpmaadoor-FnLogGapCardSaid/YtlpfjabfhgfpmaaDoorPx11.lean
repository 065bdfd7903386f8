
-- Written by wip/tools/pprint.py (a program of this session) over the kit's printer; not trusted: Lean checks it.
import Derived.Test.YtlpfjabfhgfpmaaDoorPx0
import Derived.Test.YtlpfjabfhgfpmaaDoorPx2
import Derived.Test.YtlpfjabfhgfpmaaDoorPx5
import Derived.Test.YtlpfjabfhgfpmaaDoorPx6
import Derived.Test.YtlpfjabfhgfpmaaDoorPx7
import Derived.Test.YtlpfjabfhgfpmaaDoorPx8
import Derived.Test.YtlpfjabfhgfpmaaDoorPx10
import Derived.Test.YtlpfjabfhgfpmaaDoorV
namespace Go.Proofs.YtlpfjabfhgfpmaaDoor.P
open Go.RowKit Go.Proofs.YtlpfjabfhgfpmaaDoorW.PrintWords Go.Proofs.YtlpfjabfhgfpmaaDoorW.PrintLast Go.Proofs.YtlpfjabfhgfpmaaDoorW.PrintMore
attribute [local go_sem] cell_set_set cell_set_far_set max2_int min2_int max_two min_two max_three min_three max_four min_four   -- for this text's walks alone
set_option linter.unusedVariables false
set_option linter.unusedSimpArgs false
def spec_l72Log.l0 : Nat → List (S26) → List (S105) → List Int → Int → List Int → Int → Option ((List (S26)) × Int)
 | 0, _, _, _, _, _, _ => none
 | k + 1, x3, x4, x5, x6, x1000, x1001 => if x6 > 0 then ((spec_l6Rd_pick.f k x1000 x1001 3).bind fun bt424 => (if 0 ≤ (wrap64 ((wrap64 (1 + bt424.1)) - 1)) then (if (wrap64 ((wrap64 (1 + bt424.1)) - 1)) < (x5.length : Int) then ((spec_l72Op.f k x1000 bt424.2 x4 (wrap64 (1 + bt424.1)) (rd x5 (wrap64 ((wrap64 (1 + bt424.1)) - 1)))).bind fun bt427 => (if bt427.1 = 1 then ((spec_l12Seq.f k x3 (wrap64 (1 + bt424.1))).bind fun t436 => (if x3.length < 2199023255552 then ((spec_l3Do.f k x4 bt427.1 bt427.2.1 bt427.2.2.1 bt427.2.2.2.1 bt427.2.2.2.2.1).bind fun t440 => (spec_l72Log.l0 k (x3 ++ [(⟨wrap64 (1 + bt424.1), wrap64 (t436 + 1), (⟨bt427.1, bt427.2.1, bt427.2.2.1, bt427.2.2.2.1, bt427.2.2.2.2.1⟩ : S24)⟩ : S26)]) t440 (x5.set ((wrap64 ((wrap64 (1 + bt424.1)) - 1)) : Int).toNat (wrap64 ((rd x5 (wrap64 ((wrap64 (1 + bt424.1)) - 1))) + 1))) (wrap64 (x6 - 1)) x1000 bt427.2.2.2.2.2)) else (none))) else ((spec_l12Seq.f k x3 (wrap64 (1 + bt424.1))).bind fun t443 => (if x3.length < 2199023255552 then ((spec_l3Do.f k x4 bt427.1 bt427.2.1 bt427.2.2.1 bt427.2.2.2.1 bt427.2.2.2.2.1).bind fun t447 => (spec_l72Log.l0 k (x3 ++ [(⟨wrap64 (1 + bt424.1), wrap64 (t443 + 1), (⟨bt427.1, bt427.2.1, bt427.2.2.1, bt427.2.2.2.1, bt427.2.2.2.2.1⟩ : S24)⟩ : S26)]) t447 x5 (wrap64 (x6 - 1)) x1000 bt427.2.2.2.2.2)) else (none))))) else (none)) else (none))) else ((spec_l6Rd_pick.f k x1000 x1001 24).bind fun bt450 => (if bt450.1 = 0 then ((spec_l6Rd_pick.f k x1000 bt450.2 3).bind fun bt452 => ((spec_l6Rd_pick.f k x1000 bt452.2 4).bind fun bt454 => ((spec_l71Op.f k x1000 bt454.2).bind fun bt456 => (if x3.length < 2199023255552 then (some ((x3 ++ [(⟨wrap64 (1 + bt452.1), wrap64 (1 + bt454.1), (⟨bt456.1, bt456.2.1, bt456.2.2.1, bt456.2.2.2.1, bt456.2.2.2.2.1⟩ : S24)⟩ : S26)]), bt456.2.2.2.2.2)) else (none))))) else (if bt450.1 = 1 then (if (x3.length : Int) > 0 then ((spec_l6Rd_pick.f k x1000 bt450.2 (x3.length : Int)).bind fun bt465 => ((spec_l6Rd_pick.f k x1000 bt465.2 4).bind fun bt467 => (if 0 ≤ bt465.1 then (if bt465.1 < (x3.length : Int) then (some ((x3.set (bt465.1 : Int).toNat (⟨(rd_T26 x3 bt465.1).f0, bt467.1, (⟨(rd_T26 x3 bt465.1).f2.f0, (rd_T26 x3 bt465.1).f2.f1, (rd_T26 x3 bt465.1).f2.f2, (rd_T26 x3 bt465.1).f2.f3, (rd_T26 x3 bt465.1).f2.f4⟩ : S24)⟩ : S26)), bt467.2)) else (none)) else (none)))) else (some (x3, bt450.2))) else (some (x3, bt450.2)))))
def spec_l72Log.f (k : Nat) (s0_0 : List Int) (s0_1 : Int) : Option ((List (S26)) × Int) := (spec_TreeNew.f).bind fun t416 => ((spec_l6Rd_pick.f k s0_0 s0_1 14).bind fun bt422 => (spec_l72Log.l0 k (([] : List (S26))) t416 (([0, 0, 0] : List Int)) bt422.1 s0_0 bt422.2))
theorem spec_l72Log.mono_l : ∀ k, (∀ y0 y1 y2 y3 y4 y5, LeO (spec_l72Log.l0 k y0 y1 y2 y3 y4 y5) (spec_l72Log.l0 (k + 1) y0 y1 y2 y3 y4 y5))
 | 0 => fun _ _ _ _ _ _ r h => by simp [spec_l72Log.l0] at h
 | k + 1 => by
  have ih0 := spec_l72Log.mono_l k
  ·intro y0 y1 y2 y3 y4 y5
   unfold spec_l72Log.l0
   repeat' first
   | (with_reducible exact ih0 _ _ _ _ _ _)
   | (with_reducible exact spec_l12Seq.mono _ _ _)
   | (with_reducible exact spec_l3Do.mono _ _ _ _ _ _ _)
   | (with_reducible exact spec_l6Rd_pick.mono _ _ _ _)
   | (with_reducible exact spec_l71Op.mono _ _ _)
   | (with_reducible exact spec_l72Op.mono _ _ _ _ _ _)
   | (with_reducible exact LeO.refl _)
   | (with_reducible exact LeO.none _)
   | (with_reducible refine LeO.ite ?_ ?_)
   | (with_reducible refine LeO.bind ?_ (fun _ => ?_))
   | exact ih0 _ _ _ _ _ _
   | exact spec_l12Seq.mono _ _ _
   | exact spec_l3Do.mono _ _ _ _ _ _ _
   | exact spec_l6Rd_pick.mono _ _ _ _
   | exact spec_l71Op.mono _ _ _
   | exact spec_l72Op.mono _ _ _ _ _ _
   | exact LeO.none _
   | refine LeO.ite ?_ ?_
   | refine LeO.bind ?_ (fun _ => ?_)
theorem spec_l72Log.mono : ∀ a0 a1 k, LeO (spec_l72Log.f k a0 a1) (spec_l72Log.f (k + 1) a0 a1) := by
 intro a0 a1 k
 have ih0 := spec_l72Log.mono_l k
 unfold spec_l72Log.f
 repeat' first
   | (with_reducible exact ih0 _ _ _ _ _ _)
   | (with_reducible exact spec_l12Seq.mono _ _ _)
   | (with_reducible exact spec_l3Do.mono _ _ _ _ _ _ _)
   | (with_reducible exact spec_l6Rd_pick.mono _ _ _ _)
   | (with_reducible exact spec_l71Op.mono _ _ _)
   | (with_reducible exact spec_l72Op.mono _ _ _ _ _ _)
   | (with_reducible exact LeO.refl _)
   | (with_reducible exact LeO.none _)
   | (with_reducible refine LeO.ite ?_ ?_)
   | (with_reducible refine LeO.bind ?_ (fun _ => ?_))
   | exact ih0 _ _ _ _ _ _
   | exact spec_l12Seq.mono _ _ _
   | exact spec_l3Do.mono _ _ _ _ _ _ _
   | exact spec_l6Rd_pick.mono _ _ _ _
   | exact spec_l71Op.mono _ _ _
   | exact spec_l72Op.mono _ _ _ _ _ _
   | exact LeO.none _
   | refine LeO.ite ?_ ?_
   | refine LeO.bind ?_ (fun _ => ?_)
def spec_l72Log.T11 : Bool × List (List Nat × List Nat) := (true, [([], []), ([], []), ([], []), ([], []), ([2, 3], [2, 3]), ([4], [4]), ([], []), ([1, 5, 6], [1, 5, 6]), ([7], [7]), ([0, 8, 4], [0, 8]), ([9, 9, 0, 1, 2, 3, 4, 5, 6, 7, 8, 9], [0, 2, 9])])
def spec_l72Log.B11 : List Nat := [0, 0, 0, 0, 12, 28, 0, 126, 254, 511, 1023]
theorem spec_l72Log.tab11 : rtab .any (opsOf Tryd.f54 11) = spec_l72Log.T11 := by kernel_rfl
theorem spec_l72Log.bits11 : waitsOk spec_l72Log.T11.2 spec_l72Log.B11 = true := by kernel_rfl
set_option maxHeartbeats 8000000 in
set_option maxRecDepth 100000 in
theorem spec_l72Log.calls (k : Nat) (g : Nat) (s0_0 : List Int) (s0_1 : Int) (r1 : List (S26)) (r2 : Int) (w0 w : World) (hI : IsS80 w0 w g s0_0 s0_1) (hB : Below w0.heap.size w0 w) (h : spec_l72Log.f k s0_0 s0_1 = some (r1, r2)) :
  Calls Tryd.prog 54 #[.pointer (some ⟨g, 0, none⟩)] w fun e w' => ∃ v0_ : Value, e = .returned (v0_) ∧ Kd.R k26 26 w' w.heap.size (fun _ => True) v0_ r1 ∧ IsS80 w0 w' g s0_0 r2 ∧ Below w0.heap.size w0 w' ∧ KeepBut w w' g none := by
 have hu24 := Tryd.underlying24
 have hu26 := Tryd.underlying26
 have HI0 := Aside0.mk hI
 have HK := Aside0.mk (KeepBut.refl w g none)
 have HL := Aside0.mk hB.size
 clear hI
 have HW0 := Aside0.mk hB.size
 have HB := Aside0.mk hB
 clear hB
 have H : ((spec_TreeNew.f).bind fun t416 => ((spec_l6Rd_pick.f k s0_0 s0_1 14).bind fun bt422 => (spec_l72Log.l0 k (([] : List (S26))) t416 (([0, 0, 0] : List Int)) bt422.1 s0_0 bt422.2))) = some (r1, r2) := h
 clear h
 obtain ⟨y413, hy413⟩ : ∃ y_ : List (S26), y_ = (([] : List (S26))) := ⟨_, rfl⟩
 replace H : ((spec_TreeNew.f).bind fun t416 => ((spec_l6Rd_pick.f k s0_0 s0_1 14).bind fun bt422 => (spec_l72Log.l0 k y413 t416 (([0, 0, 0] : List Int)) bt422.1 s0_0 bt422.2))) = some (r1, r2) := by first | (rw [hy413]; with_reducible exact H) | (have H2_ := (Option.bind_some _ _).symm.trans H; rw [hy413]; with_reducible exact H2_) | (have H2_ := (Option.bind_some _ _).symm.trans H; with_reducible exact H2_) | with_reducible exact H | (rw [hy413]; exact H) | exact H
 have Ny413 := Aside0.mk hy413
 clear hy413
 replace H := Option.bind_eq_some_iff.mp H
 obtain ⟨t416, A20, H⟩ := H
 (try dsimp only at H)
 have A2 := Aside0.mk A20
 clear A20
 obtain ⟨y419, hy419⟩ : ∃ y_ : List Int, y_ = (([0, 0, 0] : List Int)) := ⟨_, rfl⟩
 replace H : ((spec_l6Rd_pick.f k s0_0 s0_1 14).bind fun bt422 => (spec_l72Log.l0 k y413 t416 y419 bt422.1 s0_0 bt422.2)) = some (r1, r2) := by first | (rw [hy419]; with_reducible exact H) | (have H2_ := (Option.bind_some _ _).symm.trans H; rw [hy419]; with_reducible exact H2_) | (have H2_ := (Option.bind_some _ _).symm.trans H; with_reducible exact H2_) | with_reducible exact H | (rw [hy419]; exact H) | exact H
 have Ny419 := Aside0.mk hy419
 clear hy419
 replace H := Option.bind_eq_some_iff.mp H
 obtain ⟨⟨t422, t423⟩, A30, H⟩ := H
 (try dsimp only at H)
 have A3 := Aside0.mk A30
 clear A30
 have H' := Aside0.mk H
 clear H
 go_enter Tryd.func54, Tryd.ntmps54
 go_wp2_with (first | ((with_reducible refine gate_dst (N := 9) rfl ?_); refine Kd.R_lit k26 _ 26 ?hg (N := 9) ?hd (xs := ([] : List (S26))) (inner := []) (ok := fun _ => True) (okp := fun _ => True) ?hr ?hp (fun _ hk => hk) trivial (Below.refl _ _) (Nat.le_refl _) (by simp) ?_; (case hd => rfl); (case hg => rfl); (case hr => first | (go_simp; done) | (go_simp; rfl)); (case hp => exact (Reps.none _ _)); intro v414 w4 ho5 hb hg_ hnew_; clear hg_ hnew_; (first | rw [← Ny413.out] at ho5 | (simp only [Int.reduceToNat] at ho5; rw [← Ny413.out] at ho5)); have n0_ := Aside0.mk (Kd.R_lower ho5 (keep_size (w := w) (g := g) (row := none) keepA)); have n1_ := Aside0.mk (IsS80.below stA hb); have n2_ := Aside0.mk (KeepBut.trans keepA (KeepBut.of_below hb g none) (.inl rfl)); have n3_ := Aside0.mk (below_step belowA hb); clear HI0; clear HK; clear HB; have HO415 := n0_; have HI0 := n1_; have HK := n2_; have HB := n3_; clear n0_ n1_ n2_ n3_; clear hb ho5) | ((with_reducible refine gate_callee (f := 64) rfl ?_); refine goesL_ (some 10) rfl rfl Tryd.func64 (by kernel_rfl) rfl #[] rfl argsA ?_; (with_reducible refine (spec_TreeNew.calls  t416 _ A2.out).mono ?_); rintro e w6 ⟨v417, rfl, ho0, hb⟩; refine ⟨_, rfl, ?_⟩; have n0_ := Aside0.mk (Kd.R_below (RA HO415) hb); have n1_ := Aside0.mk (Kd.R_lower ho0 (keep_size (w := w) (g := g) (row := none) keepA)); have n2_ := Aside0.mk (IsS80.below stA hb); have n3_ := Aside0.mk (KeepBut.trans keepA (KeepBut.of_below hb g none) (.inl rfl)); have n4_ := Aside0.mk (below_step belowA hb); clear HO415; clear HI0; clear HK; clear HB; have HO415 := n0_; have HO418 := n1_; have HI0 := n2_; have HK := n3_; have HB := n4_; clear n0_ n1_ n2_ n3_ n4_; (try clear hb); (try clear hb2); (try clear hk); (try clear hi); (try clear ho0)) | ((with_reducible refine gate_dst (N := 11) rfl ?_); refine Kd.R_lit (Kd.int .i64) _ 3 ?hg (N := 11) ?hd (xs := ([0, 0, 0] : List Int)) (inner := [.int .i64 0, .int .i64 0, .int .i64 0]) (ok := fun _ => True) (okp := fun _ => True) ?hr ?hp (fun _ hk => hk) trivial (Below.refl _ _) (Nat.le_refl _) (by simp) ?_; (case hd => rfl); (case hg => rfl); (case hr => first | (go_simp; done) | (go_simp; rfl)); (case hp => exact (Reps.one (show Kd.M (Kd.int .i64) _ _ _ 0 [.int .i64 0] from rfl) (Reps.one (show Kd.M (Kd.int .i64) _ _ _ 0 [.int .i64 0] from rfl) (Reps.one (show Kd.M (Kd.int .i64) _ _ _ 0 [.int .i64 0] from rfl) (Reps.none _ _))))); intro v420 w7 ho8 hb hg_ hnew_; clear hg_ hnew_; (first | rw [← Ny419.out] at ho8 | (simp only [Int.reduceToNat] at ho8; rw [← Ny419.out] at ho8)); have n0_ := Aside0.mk (Kd.R_below (RA HO415) hb); have n1_ := Aside0.mk (Kd.R_below (RA HO418) hb); have n2_ := Aside0.mk (Kd.R_lower ho8 (keep_size (w := w) (g := g) (row := none) keepA)); have n3_ := Aside0.mk (IsS80.below stA hb); have n4_ := Aside0.mk (KeepBut.trans keepA (KeepBut.of_below hb g none) (.inl rfl)); have n5_ := Aside0.mk (below_step belowA hb); clear HO415; clear HO418; clear HI0; clear HK; clear HB; have HO415 := n0_; have HO418 := n1_; have HO421 := n2_; have HI0 := n3_; have HK := n4_; have HB := n5_; clear n0_ n1_ n2_ n3_ n4_ n5_; clear hb ho8) | ((with_reducible refine gate_callee (f := 38) rfl ?_); refine goesL_ (some 13) rfl rfl Tryd.func38 (by kernel_rfl) rfl #[.pointer (some ⟨g, 0, none⟩), .int .i64 14] rfl argsA ?_; (with_reducible refine (spec_l6Rd_pick.calls k g s0_0 s0_1 14 t422 t423 w0 _ ?side1 ?side2 A3.out).mono ?_); (case side1 => exact stA); (case side2 => exact belowA); rintro e w9 ⟨rfl, hi, hb, hk⟩; refine ⟨_, rfl, ?_⟩; have n0_ := Aside0.mk (Kd.R_mono (Kd.R_keep (IsS80.apart (show IsS80 w0 _ g s0_0 s0_1 from stA) (RA HO415) (by decide)) hk (fun _ h => h.2)) (fun _ h => h.1)); have n1_ := Aside0.mk (Kd.R_mono (Kd.R_keep (IsS80.apart (show IsS80 w0 _ g s0_0 s0_1 from stA) (RA HO418) (by decide)) hk (fun _ h => h.2)) (fun _ h => h.1)); have n2_ := Aside0.mk (Kd.R_mono (Kd.R_keep (IsS80.apart (show IsS80 w0 _ g s0_0 s0_1 from stA) (RA HO421) (by decide)) hk (fun _ h => h.2)) (fun _ h => h.1)); have n3_ := Aside0.mk (KeepBut.trans keepA hk (.inl rfl)); have n4_ := Aside0.mk (hb); have n5_ := Aside0.mk (hi); clear HO415; clear HO418; clear HO421; clear HK; clear HB; clear HI0; have HO415 := n0_; have HO418 := n1_; have HO421 := n2_; have HK := n3_; have HB := n4_; have HI0 := n5_; clear n0_ n1_ n2_ n3_ n4_ n5_; (try clear hb); (try clear hb2); (try clear hk); (try clear hi)))
 go_loopg [3, 4, 6] k (fun kq v3 v4 v6 w' => ∃ (x3_1 : List (S26)) (x4_1 : List (S105)) (x5_1 : List Int) (x6_1 : Int) (x1001_1 : Int), v6 = .int .i64 x6_1 ∧ Aside0 (spec_l72Log.l0 kq x3_1 x4_1 x5_1 x6_1 s0_0 x1001_1 = some (r1, r2)) ∧ Aside0 (kq ≤ k) ∧ Aside0 (Kd.R k26 26 w' w.heap.size (fun _ => True) v3 x3_1) ∧ Aside0 (Kd.R k105 105 w' w.heap.size (fun _ => True) v4 x4_1) ∧ Aside0 (Kd.R (Kd.int .i64) 3 w' w.heap.size (fun _ => True) v420 x5_1) ∧ Aside0 (IsS80 w0 w' g s0_0 x1001_1) ∧ Aside0 (KeepBut w w' g none) ∧ Aside0 (Below w0.heap.size w0 w'))
 case atStart => exact ⟨(y413), (t416), (y419), (t422), (t423), (by first | rfl | (simp; done) | (simp [*]; done)), H', ⟨Nat.le_refl _⟩, ⟨RA HO415⟩, ⟨RA HO418⟩, ⟨RA HO421⟩, ⟨stA⟩, ⟨keepA⟩, ⟨belowA⟩⟩
 case round =>
  clear H'
  try clear p2
  try clear c3
  try clear c5
  try clear c6
  obtain ⟨x3_1, x4_1, x5_1, x6_1, x1001_1, rfl, HA, HK1, HO_3, HO_4, HO_5, HI0, HK, HB⟩ := hrel
  cases gk with
  | zero => exact absurd HA.out (by simp [spec_l72Log.l0])
  | succ k1 =>
   have H := HA.out
   clear HA
   simp only [spec_l72Log.l0] at H
   by_cases c10 : x6_1 > 0
   ·rw [if_pos c10] at H
    have c10b0 : decide (0 < x6_1) = true := decide_eq_true c10
    clear c10
    replace H := Option.bind_eq_some_iff.mp H
    obtain ⟨⟨t424, t425⟩, A110, H⟩ := H
    (try dsimp only at H)
    have A11 := Aside0.mk A110
    clear A110
    obtain ⟨ji12, hji12⟩ : ∃ j_ : Int, (wrap64 ((wrap64 (1 + t424)) - 1)) = j_ := ⟨_, rfl⟩
    replace H : (if 0 ≤ (ji12) then (if (ji12) < (x5_1.length : Int) then ((spec_l72Op.f k1 s0_0 t425 x4_1 (wrap64 (1 + t424)) (rd x5_1 (ji12))).bind fun bt427 => (if bt427.1 = 1 then ((spec_l12Seq.f k1 x3_1 (wrap64 (1 + t424))).bind fun t436 => (if x3_1.length < 2199023255552 then ((spec_l3Do.f k1 x4_1 bt427.1 bt427.2.1 bt427.2.2.1 bt427.2.2.2.1 bt427.2.2.2.2.1).bind fun t440 => (spec_l72Log.l0 k1 (x3_1 ++ [(⟨wrap64 (1 + t424), wrap64 (t436 + 1), (⟨bt427.1, bt427.2.1, bt427.2.2.1, bt427.2.2.2.1, bt427.2.2.2.2.1⟩ : S24)⟩ : S26)]) t440 (x5_1.set ((ji12) : Int).toNat (wrap64 ((rd x5_1 (ji12)) + 1))) (wrap64 (x6_1 - 1)) s0_0 bt427.2.2.2.2.2)) else (none))) else ((spec_l12Seq.f k1 x3_1 (wrap64 (1 + t424))).bind fun t443 => (if x3_1.length < 2199023255552 then ((spec_l3Do.f k1 x4_1 bt427.1 bt427.2.1 bt427.2.2.1 bt427.2.2.2.1 bt427.2.2.2.2.1).bind fun t447 => (spec_l72Log.l0 k1 (x3_1 ++ [(⟨wrap64 (1 + t424), wrap64 (t443 + 1), (⟨bt427.1, bt427.2.1, bt427.2.2.1, bt427.2.2.2.1, bt427.2.2.2.2.1⟩ : S24)⟩ : S26)]) t447 x5_1 (wrap64 (x6_1 - 1)) s0_0 bt427.2.2.2.2.2)) else (none))))) else (none)) else (none)) = some (r1, r2) := by first | (rw [hji12] at H; exact H) | (simp only [hji12] at H ⊢; exact H)
    (try rw [hji12] at A11)
    have hji12w : (IntKind.i64.wrap ((wrap64 (1 + t424)) - 1)) = ji12 := (i64_w _).trans hji12
    by_cases c13 : 0 ≤ (ji12)
    ·rw [if_pos c13] at H
     have c13b0 : decide (0 ≤ (ji12)) = true := decide_eq_true c13
     clear c13
     by_cases c14 : (ji12) < (x5_1.length : Int)
     ·rw [if_pos c14] at H
      have c14b0 : decide ((ji12) < (x5_1.length : Int)) = true := decide_eq_true c14
      clear c14
      replace H := Option.bind_eq_some_iff.mp H
      obtain ⟨⟨t427, t428, t429, t430, t431, t432⟩, A150, H⟩ := H
      (try dsimp only at H)
      have A15 := Aside0.mk A150
      clear A150
      by_cases c16 : t427 = 1
      ·rw [if_pos c16] at H
       have c16b0 : (t427 == 1) = true := beq_iff_eq.mpr c16
       have c16b1 : (t427 != 1) = false := bne_eq_false_iff_eq.mpr c16
       clear c16
       obtain ⟨y435, hy435⟩ : ∃ y_ : List Int, y_ = (x5_1.set ((ji12) : Int).toNat (wrap64 ((rd x5_1 (ji12)) + 1))) := ⟨_, rfl⟩
       replace H : ((spec_l12Seq.f k1 x3_1 (wrap64 (1 + t424))).bind fun t436 => (if x3_1.length < 2199023255552 then ((spec_l3Do.f k1 x4_1 t427 t428 t429 t430 t431).bind fun t440 => (spec_l72Log.l0 k1 (x3_1 ++ [(⟨wrap64 (1 + t424), wrap64 (t436 + 1), (⟨t427, t428, t429, t430, t431⟩ : S24)⟩ : S26)]) t440 y435 (wrap64 (x6_1 - 1)) s0_0 t432)) else (none))) = some (r1, r2) := by first | (rw [hy435]; with_reducible exact H) | (have H2_ := (Option.bind_some _ _).symm.trans H; rw [hy435]; with_reducible exact H2_) | (have H2_ := (Option.bind_some _ _).symm.trans H; with_reducible exact H2_) | with_reducible exact H | (rw [hy435]; exact H) | exact H
       have Ny435 := Aside0.mk hy435
       clear hy435
       replace H := Option.bind_eq_some_iff.mp H
       obtain ⟨t436, A180, H⟩ := H
       (try dsimp only at H)
       have A18 := Aside0.mk A180
       clear A180
       by_cases c19 : x3_1.length < 2199023255552
       ·rw [if_pos c19] at H
        have LMc19 := Aside0.mk c19
        clear c19
        obtain ⟨y437, hy437⟩ : ∃ y_ : List (S26), y_ = (x3_1 ++ [(⟨wrap64 (1 + t424), wrap64 (t436 + 1), (⟨t427, t428, t429, t430, t431⟩ : S24)⟩ : S26)]) := ⟨_, rfl⟩
        replace H : ((spec_l3Do.f k1 x4_1 t427 t428 t429 t430 t431).bind fun t440 => (spec_l72Log.l0 k1 y437 t440 y435 (wrap64 (x6_1 - 1)) s0_0 t432)) = some (r1, r2) := by first | (rw [hy437]; with_reducible exact H) | (have H2_ := (Option.bind_some _ _).symm.trans H; rw [hy437]; with_reducible exact H2_) | (have H2_ := (Option.bind_some _ _).symm.trans H; with_reducible exact H2_) | with_reducible exact H | (rw [hy437]; exact H) | exact H
        have Ny437 := Aside0.mk hy437
        clear hy437
        replace H := Option.bind_eq_some_iff.mp H
        obtain ⟨t440, A200, H⟩ := H
        (try dsimp only at H)
        have A20 := Aside0.mk A200
        clear A200
        have H' := Aside0.mk H
        clear H
        try go_wp2_with (first | ((with_reducible refine gate_callee (f := 38) rfl ?_); refine goesL_ (some 19) rfl rfl Tryd.func38 (by kernel_rfl) rfl #[.pointer (some ⟨g, 0, none⟩), .int .i64 3] rfl argsA ?_; (with_reducible refine (spec_l6Rd_pick.calls k1 g s0_0 x1001_1 3 t424 t425 w0 _ ?side1 ?side2 A11.out).mono ?_); (case side1 => exact stA); (case side2 => exact belowA); rintro e w21 ⟨rfl, hi, hb, hk⟩; refine ⟨_, rfl, ?_⟩; have n0_ := Aside0.mk (Kd.R_mono (Kd.R_keep (IsS80.apart (show IsS80 w0 _ g s0_0 x1001_1 from stA) (RA HO_3) (by decide)) hk (fun _ h => h.2)) (fun _ h => h.1)); have n1_ := Aside0.mk (Kd.R_mono (Kd.R_keep (IsS80.apart (show IsS80 w0 _ g s0_0 x1001_1 from stA) (RA HO_4) (by decide)) hk (fun _ h => h.2)) (fun _ h => h.1)); have n2_ := Aside0.mk (Kd.R_mono (Kd.R_keep (IsS80.apart (show IsS80 w0 _ g s0_0 x1001_1 from stA) (RA HO_5) (by decide)) hk (fun _ h => h.2)) (fun _ h => h.1)); have n3_ := Aside0.mk (KeepBut.trans keepA hk (.inl rfl)); have n4_ := Aside0.mk (hb); have n5_ := Aside0.mk (hi); clear HO_3; clear HO_4; clear HO_5; clear HK; clear HB; clear HI0; have HO_3 := n0_; have HO_4 := n1_; have HO_5 := n2_; have HK := n3_; have HB := n4_; have HI0 := n5_; clear n0_ n1_ n2_ n3_ n4_ n5_; (try clear hb); (try clear hb2); (try clear hk); (try clear hi); obtain ⟨Ao22, co22, eo22⟩ := Kd.R_slice HO_5.out; subst eo22; have p426 : 0 ≤ ((ji12) : Int) := of_decide_eq_true (by first | (with_reducible assumption) | assumption); have q426 : (ji12) < (x5_1.length : Int) := of_decide_eq_true (by first | (with_reducible assumption) | assumption); obtain ⟨ad426, e426, hx426_0⟩ := Kd.at_int (Kd.R_reads' HO_5.out).2.2 (ji12) p426 q426; cases e426; replace p426 := eq_true p426; replace q426 := eq_true q426; obtain ⟨Ao23, co23, eo23⟩ := Kd.R_slice HO_4.out; subst eo23) | ((with_reducible refine gate_callee (f := 65) rfl ?_); refine goesL_ (some 29) rfl rfl Tryd.func65 (by kernel_rfl) rfl #[.pointer (some ⟨g, 0, none⟩), .slice Ao23 x4_1.length co23, .int .i64 (wrap64 (1 + t424)), .int .i64 (rd x5_1 (ji12))] rfl (by (try simp only [List.map_toArray, List.map_cons, List.map_nil]); first | done | (simp only [hji12]; rfl) | rfl | (simp only [List.length_drop, List.length_take]; rfl)) ?_; (with_reducible refine (spec_l72Op.calls k1 g s0_0 t425 _ _ x4_1 (wrap64 (1 + t424)) (rd x5_1 (ji12)) t427 t428 t429 t430 t431 t432 w0 _ ?side1 ?side2 ?side3 ?side4 A15.out).mono ?_); (case side1 => exact stA); (case side2 => exact belowA); (case side3 => exact Kd.C_foot_own (IsS80.apart (show IsS80 w0 _ g s0_0 t425 from stA) (RA HO_4) (by decide)) (fun _ h_ => h_.2)); (case side4 => exact (Kd.R_reads' HO_4.out).2.1); rintro e w24 ⟨rfl, hi, hb, hk⟩; refine ⟨_, rfl, ?_⟩; have n0_ := Aside0.mk (Kd.R_mono (Kd.R_keep (IsS80.apart (show IsS80 w0 _ g s0_0 t425 from stA) (RA HO_3) (by decide)) hk (fun _ h => h.2)) (fun _ h => h.1)); have n1_ := Aside0.mk (Kd.R_mono (Kd.R_keep (IsS80.apart (show IsS80 w0 _ g s0_0 t425 from stA) (RA HO_4) (by decide)) hk (fun _ h => h.2)) (fun _ h => h.1)); have n2_ := Aside0.mk (Kd.R_mono (Kd.R_keep (IsS80.apart (show IsS80 w0 _ g s0_0 t425 from stA) (RA HO_5) (by decide)) hk (fun _ h => h.2)) (fun _ h => h.1)); have n3_ := Aside0.mk (KeepBut.trans keepA hk (.inl rfl)); have n4_ := Aside0.mk (hb); have n5_ := Aside0.mk (hi); clear HO_3; clear HO_4; clear HO_5; clear HK; clear HB; clear HI0; have HO_3 := n0_; have HO_4 := n1_; have HO_5 := n2_; have HK := n3_; have HB := n4_; have HI0 := n5_; clear n0_ n1_ n2_ n3_ n4_ n5_; (try clear hb); (try clear hb2); (try clear hk); (try clear hi)) | ((with_reducible refine gate_dst (N := 8) rfl ?_); refine box_event ?hg (N := 8) ?hd (cs := #[.int .i64 0, .int .i64 0, .int .i64 0, .int .i64 0, .string (⟨#[]⟩ : ByteArray)]) (t := 24) ?hr ?_; (case hd => rfl); (case hg => rfl); (case hr => first | (go_simp; done) | (go_simp; rfl)); intro gb433 hg w25 hbox hb; have n0_ := Aside0.mk (Kd.R_below (RA HO_3) hb); have n1_ := Aside0.mk (Kd.R_below (RA HO_4) hb); have n2_ := Aside0.mk (Kd.R_below (RA HO_5) hb); have n3_ := Aside0.mk (IsS80.below stA hb); have n4_ := Aside0.mk (KeepBut.trans keepA (KeepBut.of_below hb g none) (.inl rfl)); have n5_ := Aside0.mk (below_step belowA hb); have n6_ := Aside0.mk (hbox); have n7_ := Aside0.mk ((by rw [hg]; exact (keep_size (w := w) (g := g) (row := none) keepA) : w.heap.size ≤ gb433)); have n8_ := Aside0.mk ((Nat.le_trans HW0.out (by rw [hg]; exact (keep_size (w := w) (g := g) (row := none) keepA) : w.heap.size ≤ gb433) : w0.heap.size ≤ gb433)); have n9_ := Aside0.mk ((by rw [hg]; exact Nat.ne_of_lt (IsS80.lt (show IsS80 w0 _ g s0_0 t432 from stA)) : g ≠ gb433)); have n10_ := Aside0.mk ((by rw [hg]; exact Nat.ne_of_gt (IsS80.lt (show IsS80 w0 _ g s0_0 t432 from stA)) : gb433 ≠ g)); clear HO_3; clear HO_4; clear HO_5; clear HI0; clear HK; clear HB; have HO_3 := n0_; have HO_4 := n1_; have HO_5 := n2_; have HI0 := n3_; have HK := n4_; have HB := n5_; have BK433 := n6_; have GW433 := n7_; have GE433 := n8_; have NB0_433 := n9_; have NB433_0 := n10_; clear n0_ n1_ n2_ n3_ n4_ n5_ n6_ n7_ n8_ n9_ n10_; clear hb hbox hg; have hnb26 := NB433_0.out; have hnc26 := NB0_433.out; obtain ⟨hcz27_0, hcz27_1, hcz27_2, hcz27_3, hcz27_4, hfz27_0, hfz27_1, hfz27_2, hfz27_3, hfz27_4⟩ := blk_facts5 BK433.out) | ((with_reducible refine gate_store (t := 24) (p := 8) rfl ?_); refine store_event (t := 24) (p := 8) (v := ?vo_w28) (w1 := (((((w25.setCell ⟨gb433, 0, none⟩ (.int .i64 t427)).setCell ⟨gb433, 1, none⟩ (.int .i64 t428)).setCell ⟨gb433, 2, none⟩ (.int .i64 t429)).setCell ⟨gb433, 3, none⟩ (.int .i64 t430)).setCell ⟨gb433, 4, none⟩ (.string t431))) ?hg ?ho ?hn ?hr ?_; (case ho => rfl); (case hg => rfl); (case hn => rfl); (case hr => first | (go_simp; done) | (go_simp; rfl)); intro w28 hw; have n0_ : Aside0 (Kd.R k26 26 w28 w.heap.size (fun _ => True) u3 x3_1) := ⟨(by rw [hw]; exact (by (with_reducible repeat (first | apply Kd.R_alloc | apply Kd.R_drewN | apply Kd.R_drew)); exact Kd.R_mono (Kd.R_far (p := ⟨gb433, 4, none⟩) (Kd.R_far (p := ⟨gb433, 3, none⟩) (Kd.R_far (p := ⟨gb433, 2, none⟩) (Kd.R_far (p := ⟨gb433, 1, none⟩) (Kd.R_far (p := ⟨gb433, 0, none⟩) (Kd.R_types HO_3.out BK433.out (by decide)) (fun _ hk => hk.2) (.int .i64 t427)) (fun _ hk => hk.2) (.int .i64 t428)) (fun _ hk => hk.2) (.int .i64 t429)) (fun _ hk => hk.2) (.int .i64 t430)) (fun _ hk => hk.2) (.string t431)) (fun _ hk => trivial)))⟩; have n1_ : Aside0 (Kd.R k105 105 w28 w.heap.size (fun _ => True) (.slice Ao23 x4_1.length co23) x4_1) := ⟨(by rw [hw]; exact (by (with_reducible repeat (first | apply Kd.R_alloc | apply Kd.R_drewN | apply Kd.R_drew)); exact Kd.R_mono (Kd.R_far (p := ⟨gb433, 4, none⟩) (Kd.R_far (p := ⟨gb433, 3, none⟩) (Kd.R_far (p := ⟨gb433, 2, none⟩) (Kd.R_far (p := ⟨gb433, 1, none⟩) (Kd.R_far (p := ⟨gb433, 0, none⟩) (Kd.R_types HO_4.out BK433.out (by decide)) (fun _ hk => hk.2) (.int .i64 t427)) (fun _ hk => hk.2) (.int .i64 t428)) (fun _ hk => hk.2) (.int .i64 t429)) (fun _ hk => hk.2) (.int .i64 t430)) (fun _ hk => hk.2) (.string t431)) (fun _ hk => trivial)))⟩; have n2_ : Aside0 (Kd.R (Kd.int .i64) 3 w28 w.heap.size (fun _ => True) (.slice (some ad426) x5_1.length co22) x5_1) := ⟨(by rw [hw]; exact (by (with_reducible repeat (first | apply Kd.R_alloc | apply Kd.R_drewN | apply Kd.R_drew)); exact Kd.R_mono (Kd.R_far (p := ⟨gb433, 4, none⟩) (Kd.R_far (p := ⟨gb433, 3, none⟩) (Kd.R_far (p := ⟨gb433, 2, none⟩) (Kd.R_far (p := ⟨gb433, 1, none⟩) (Kd.R_far (p := ⟨gb433, 0, none⟩) (Kd.R_types HO_5.out BK433.out (by decide)) (fun _ hk => hk.2) (.int .i64 t427)) (fun _ hk => hk.2) (.int .i64 t428)) (fun _ hk => hk.2) (.int .i64 t429)) (fun _ hk => hk.2) (.int .i64 t430)) (fun _ hk => hk.2) (.string t431)) (fun _ hk => trivial)))⟩; have n3_ : Aside0 (w28.heap[gb433]? = some (.cells #[.int .i64 t427, .int .i64 t428, .int .i64 t429, .int .i64 t430, .string t431] 24 (0, 0))) := ⟨(by rw [hw]; exact (blk_put (blk_put (blk_put (blk_put (blk_put (blkC #[.int .i64 0, .int .i64 0, .int .i64 0, .int .i64 0, .string (⟨#[]⟩ : ByteArray)]) 0 _ rfl) 1 _ rfl) 2 _ rfl) 3 _ rfl) 4 _ rfl))⟩; have n4_ : Aside0 (IsS80 w0 w28 g s0_0 t432) := ⟨(by rw [hw]; exact stA)⟩; have n5_ : Aside0 (KeepBut w w28 g none) := ⟨(by rw [hw]; exact keepA)⟩; have n6_ : Aside0 (Below w0.heap.size w0 w28) := ⟨(by rw [hw]; exact belowA)⟩; clear hw; clear HO_3; clear HO_4; clear HO_5; clear BK433; clear HI0; clear HK; clear HB; have HO_3 := n0_; have HO_4 := n1_; have HO_5 := n2_; have BK433 := n3_; have HI0 := n4_; have HK := n5_; have HB := n6_; clear n0_ n1_ n2_ n3_ n4_ n5_ n6_; obtain ⟨hcz29_0, hcz29_1, hcz29_2, hcz29_3, hcz29_4, hfz29_0, hfz29_1, hfz29_2, hfz29_3, hfz29_4⟩ := blk_facts5 BK433.out; have p434 : 0 ≤ ((ji12) : Int) := of_decide_eq_true (by first | (with_reducible assumption) | assumption); have q434 : (ji12) < (x5_1.length : Int) := of_decide_eq_true (by first | (with_reducible assumption) | assumption); obtain ⟨ad434, e434, hx434_0⟩ := Kd.at_int (Kd.R_reads' HO_5.out).2.2 (ji12) p434 q434; obtain rfl : ad426 = ad434 := (by injection e434); replace p434 := eq_true p434; replace q434 := eq_true q434; have p17 : 0 ≤ ((ji12) : Int) := of_decide_eq_true (by first | (with_reducible assumption) | assumption); have q17 : ((ji12) : Int) < ((x5_1.length : Int) : Int) := of_decide_eq_true (by first | (with_reducible assumption) | assumption); obtain ⟨go17, co17, eo17, gb17, gl17, cl17, HG17⟩ := Kd.R_form HO_5.out (by omega); (first | cases eo17 | (injection eo17 with ea_ en_ ec_; (first | subst ea_ | (injection ea_ with ea_; subst ea_)); subst ec_; clear en_)); have GB17 := Aside0.mk gb17; have GG17 := Aside0.mk HG17; clear gb17 gl17 HG17; (first | simp only [add_plain] at hx426_0 | skip); (first | simp only [add_plain] at hx434_0 | skip); obtain ⟨hx17_0, hf17_0⟩ := Kd.R_celln 0 HO_5.out ((ji12) : Int) p17 q17; replace p17 := eq_true p17; replace q17 := eq_true q17; obtain ⟨hy30_, hz30_⟩ := Kd.R_celln 0 HO_5.out ((ji12) : Int) (of_decide_eq_true (by first | (with_reducible assumption) | assumption)) (of_decide_eq_true (by first | (with_reducible assumption) | assumption)); have HP30 := Kd.R_putg HO_5.out ((ji12) : Int) (wrap64 ((rd x5_1 (ji12)) + 1))) | ((with_reducible refine gate_store (t := 3) (p := 42) rfl ?_); refine store_event (t := 3) (p := 42) (v := ?vo_w31) (w1 := (w28.setCell ⟨go17, ((ji12) : Int).toNat, none⟩ (.int .i64 (wrap64 ((rd x5_1 (ji12)) + 1))))) ?hg ?ho ?hn ?hr ?_; (case ho => rfl); (case hg => rfl); (case hn => rfl); (case hr => first | (go_simp; done) | (go_simp; rfl)); intro w31 hw; have hg : w28.grownBy w31 (some go17) := (by rw [hw]; exact HP30.2); have hp_ : Kd.R (Kd.int .i64) 3 w31 w.heap.size (fun _ => True) (.slice (some ⟨go17, 0, none⟩) x5_1.length co22) y435 := (by rw [hw, Ny435.out]; exact HP30.1); clear HP30; have n0_ := Aside0.mk (Kd.R_over' (v := (.slice (some ⟨go17, 0, none⟩) x5_1.length co22)) (RA HO_3) (Kd.R_typed HO_5.out) (by decide) hg); have n1_ := Aside0.mk (Kd.R_over' (v := (.slice (some ⟨go17, 0, none⟩) x5_1.length co22)) (RA HO_4) (Kd.R_typed HO_5.out) (by decide) hg); have n2_ := Aside0.mk (hp_); have n3_ := Aside0.mk (IsS80.grown stA hg (IsS80.own_ne HI0.out HO_5.out (by decide))); have n4_ := Aside0.mk (blk_grown (g := gb433) (o := .cells #[.int .i64 t427, .int .i64 t428, .int .i64 t429, .int .i64 t430, .string t431] 24 (0, 0)) blkA hg (Kd.R_ne HO_5.out BK433.out (by decide))); have n5_ := Aside0.mk ((by rw [hw]; exact below_set (HB.out) (Nat.le_trans HL.out GB17.out) : Below w0.heap.size w0 w31)); have n6_ := Aside0.mk (KeepBut.trans keepA (KeepBut.of_grown hg g) (Kd.R_base2 HO_5.out)); clear HO_3; clear HO_4; clear HO_5; clear HI0; clear BK433; clear HB; clear HK; have HO_3 := n0_; have HO_4 := n1_; have HO_5 := n2_; have HI0 := n3_; have BK433 := n4_; have HB := n5_; have HK := n6_; clear n0_ n1_ n2_ n3_ n4_ n5_ n6_; clear hg hw hp_))
        have n0_ := Aside0.mk (Kd.R_drew HO_3.out)
        have n1_ := Aside0.mk (Kd.R_drew HO_4.out)
        have n2_ := Aside0.mk (Kd.R_drew HO_5.out)
        have n3_ := Aside0.mk (blk_drew BK433.out)
        have n4_ := Aside0.mk (IsS80.drew HI0.out)
        have n5_ := Aside0.mk (keep_drew HK.out)
        have n6_ := Aside0.mk (below_drew1 HB.out)
        clear HO_3
        clear HO_4
        clear HO_5
        clear BK433
        clear HI0
        clear HK
        clear HB
        have HO_3 := n0_
        have HO_4 := n1_
        have HO_5 := n2_
        have BK433 := n3_
        have HI0 := n4_
        have HK := n5_
        have HB := n6_
        clear n0_ n1_ n2_ n3_ n4_ n5_ n6_
        obtain ⟨Ao33, co33, eo33⟩ := Kd.R_slice HO_3.out
        (first | subst eo33 | (injection eo33 with f1_ f2_ f3_; have f4_ := f1_.symm; have f5_ := f3_.symm; clear f1_ f2_ f3_; subst f4_; subst f5_))
        refine start_ (n := 11) (S := fun w' => w'.cell? ⟨gb433, 0, none⟩ = some (.int .i64 t427) ∧ w'.cell? ⟨gb433, 1, none⟩ = some (.int .i64 t428) ∧ w'.cell? ⟨gb433, 2, none⟩ = some (.int .i64 t429) ∧ w'.cell? ⟨gb433, 3, none⟩ = some (.int .i64 t430) ∧ w'.cell? ⟨gb433, 4, none⟩ = some (.string t431)) (ds := []) (tf 0 11) (by kernel_rfl) rfl rfl ⟨(blk_cell BK433.out 0).trans rfl, (blk_cell BK433.out 1).trans rfl, (blk_cell BK433.out 2).trans rfl, (blk_cell BK433.out 3).trans rfl, (blk_cell BK433.out 4).trans rfl⟩ (fun hHeld => ?_); refine with_tabW spec_l72Log.tab11 spec_l72Log.bits11 (fun HT_ HW_ => ?_)
        generalize w31.drew = w32 at HO_3 HO_4 HO_5 BK433 HI0 HK HB hHeld ⊢
        refine pure_ (i := 0) (N := some 43) (tf 1 10) rfl rfl (anA HT_) (fun _ _ _ h => h) yldA putA ?_
        refine pure_ (i := 1) (N := some 44) (tf 2 9) rfl rfl (anA HT_) (fun _ _ _ h => h) yldA putA ?_
        refine pure_ (i := 2) (N := some 45) (tf 3 8) rfl rfl (anA HT_) (fun _ _ _ h => h) yldA putA ?_
        refine pure_ (i := 3) (N := some 46) (tf 4 7) rfl rfl (anA HT_) (fun _ _ _ h => h) yldA putA ?_
        refine take_ (i := 6) (N := some 49) #[true, true, true, true, false, false, true, false, false, false, false] rfl rfl (take_ofW HT_.out HW_.out (by kernel_rfl)) (fun _ _ _ h => h) (Or.inl ⟨by rfl, by rintro w' ⟨s0, s1, s2, s3, s4⟩; go_simp; with_reducible rfl⟩) hHeld putA ?_
        refine one_ (i := 4) (N := some 47) #[true, true, true, true, true, false, true, false, false, false, false] rfl rfl (one_of HT_.out (by kernel_rfl)) (by decide) (fun K hK => ?_)
        refine goes_ Tryd.func45 (by kernel_rfl) rfl #[.slice Ao33 x3_1.length co33, .int .i64 (wrap64 (1 + t424))] (by rfl) rfl rfl argsA ?_
        with_reducible refine (spec_l12Seq.calls k1 _ _ x3_1 (wrap64 (1 + t424)) t436 _ ?side1 ?side2 A18.out).mono ?_
        (case side1 => repeat (first | exact (Kd.R_reads' HO_3.out).2.2 | (with_reducible refine Kd.C_alloc ?_ _) | (with_reducible refine Kd.C_drewN ?_ _) | (with_reducible refine Kd.C_drew ?_)))
        (case side2 => exact (Kd.R_reads' HO_3.out).2.1)
        rintro e w' ⟨rfl, ⟨nd, rfl⟩⟩
        refine ⟨_, rfl, ?_⟩
        refine hK.out _ _ ⟨(blk_cell BK433.out 0).trans rfl, (blk_cell BK433.out 1).trans rfl, (blk_cell BK433.out 2).trans rfl, (blk_cell BK433.out 3).trans rfl, (blk_cell BK433.out 4).trans rfl⟩ (fun hHeld => ?_)
        clear hK K
        refine norm_ (a' := ?_) ?_ ?_
        rotate_left
        ·show Act.put _ (some 47) _ = _
         simp only [Act.put, List.setIfInBounds_toArray, List.set_cons_zero, List.set_cons_succ, i64_w, i32_w]
         rfl
        refine pure_ (i := 5) (N := some 48) (tf 7 4) rfl rfl (anA HT_) (fun _ _ _ h => h) yldA putA ?_
        refine pure_ (i := 7) (N := some 50) (tf 8 3) rfl rfl (anA HT_) (fun _ _ _ h => h) yldA putA ?_
        refine one_ (i := 8) (N := some 51) (tf 9 2) rfl rfl (one_of HT_.out (by kernel_rfl)) (by decide) (fun K hK => ?_)
        refine value_ (w1 := ?_) (v := ?_) (by rfl) rfl ?_ ?_
        rotate_left 2
        ·go_simp
         constructor
         ·rfl
         ·rfl
        refine hK.out _ _ ⟨(blk_cell (blk_alloc BK433.out _) 0).trans rfl, (blk_cell (blk_alloc BK433.out _) 1).trans rfl, (blk_cell (blk_alloc BK433.out _) 2).trans rfl, (blk_cell (blk_alloc BK433.out _) 3).trans rfl, (blk_cell (blk_alloc BK433.out _) 4).trans rfl⟩ (fun hHeld => ?_)
        clear hK K
        refine norm_ (a' := ?_) ?_ ?_
        rotate_left
        ·show Act.put _ (some 51) _ = _
         simp only [Act.put, List.setIfInBounds_toArray, List.set_cons_zero, List.set_cons_succ, i64_w, i32_w]
         rfl
        refine one_ (i := 9) (N := some 52) (tf 10 1) rfl rfl (one_of HT_.out (by kernel_rfl)) (by decide) (fun K hK => ?_)
        refine Kd.R_append_step k26 w.heap.size (by rfl) (.tmp 43) (.tmp 51) 33 26 (.agg #[(.int .i64 0), (.int .i64 0), (.int .i64 0), (.int .i64 0), (.int .i64 0), (.int .i64 0), (.string ⟨#[]⟩)]) 64 rfl Tryd.underlying33 info26 rfl (by decide) (by omega) (.slice Ao33 x3_1.length co33) x3_1 (⟨wrap64 (1 + t424), wrap64 (t436 + 1), (⟨t427, t428, t429, t430, t431⟩ : S24)⟩ : S26) [.int .i64 (wrap64 (1 + t424)), .int .i64 (wrap64 (t436 + 1)), .int .i64 t427, .int .i64 t428, .int .i64 t429, .int .i64 t430, .string t431] (fun _ => True) (fun _ => False) rfl rfl ?aP (fun _ hk => hk.elim) ?aF ?aO (Below.refl _ _) ?aS ?aL ?_
        (case aP => exact k26_mkM _ _ _ (⟨wrap64 (1 + t424), wrap64 (t436 + 1), (⟨t427, t428, t429, t430, t431⟩ : S24)⟩ : S26))
        (case aF => exact (fun _ _ => trivial))
        (case aO => exact (RA HO_3))
        (case aS => exact (keep_size (w := w) (g := g) (row := none) keepA))
        (case aL => have := LMc19.out; omega)
        intro v438 w34 ho hb hg hat
        rw [← Ny437.out] at ho
        have n0_ := Aside0.mk (Kd.R_over' (RA HO_4) (Kd.R_typed (RA HO_3)) (by decide) hg)
        have n1_ := Aside0.mk (Kd.R_over' (RA HO_5) (Kd.R_typed (RA HO_3)) (by decide) hg)
        have n2_ := Aside0.mk (IsS80.grown stA hg (IsS80.own_ne HI0.out HO_3.out (by decide)))
        have n3_ := Aside0.mk (blk_grown (g := gb433) (o := .cells #[.int .i64 t427, .int .i64 t428, .int .i64 t429, .int .i64 t430, .string t431] 24 (0, 0)) blkA hg (Kd.R_ne HO_3.out BK433.out (by decide)))
        have n4_ := Aside0.mk (below_weaken belowA HL.out hb)
        have n5_ := Aside0.mk (KeepBut.trans keepA (KeepBut.of_grown hg g) (Kd.R_base2 HO_3.out))
        have n6_ := Aside0.mk (ho)
        clear HO_4
        clear HO_5
        clear HI0
        clear BK433
        clear HB
        clear HK
        clear HO_3
        have HO_4 := n0_
        have HO_5 := n1_
        have HI0 := n2_
        have BK433 := n3_
        have HB := n4_
        have HK := n5_
        have HO439 := n6_
        clear n0_ n1_ n2_ n3_ n4_ n5_ n6_
        clear ho hb hg hat
        refine hK.out _ _ ⟨(blk_cell BK433.out 0).trans rfl, (blk_cell BK433.out 1).trans rfl, (blk_cell BK433.out 2).trans rfl, (blk_cell BK433.out 3).trans rfl, (blk_cell BK433.out 4).trans rfl⟩ (fun hHeld => ?_)
        clear hK K
        refine norm_ (a' := ?_) ?_ ?_
        rotate_left
        ·show Act.put _ (some 52) _ = _
         simp only [Act.put, List.setIfInBounds_toArray, List.set_cons_zero, List.set_cons_succ, i64_w, i32_w]
         rfl
        refine pure_ (i := 10) (N := some 3) (tf 11 0) rfl rfl (anA HT_) (fun _ _ _ h => h) yldA putA ?_
        refine done_ (done_of HT_.out (by kernel_rfl)) ?_
        obtain ⟨hcz35_0, hcz35_1, hcz35_2, hcz35_3, hcz35_4, hfz35_0, hfz35_1, hfz35_2, hfz35_3, hfz35_4⟩ := blk_facts5 BK433.out
        try go_wp2_with (first | ((with_reducible refine gate_callee (f := 66) rfl ?_); refine goesL_ (some 55) rfl rfl Tryd.func66 (by kernel_rfl) rfl #[.slice Ao23 x4_1.length co23, .agg #[.int .i64 t427, .int .i64 t428, .int .i64 t429, .int .i64 t430, .string t431]] rfl argsA ?_; (with_reducible refine (spec_l3Do.calls k1 _ _ x4_1 t427 t428 t429 t430 t431 t440 _ ?side1 ?side2 A20.out).mono ?_); (case side1 => repeat (first | exact (Kd.R_reads' HO_4.out).2.2 | (with_reducible refine Kd.C_alloc ?_ _) | (with_reducible refine Kd.C_drewN ?_ _) | (with_reducible refine Kd.C_drew ?_))); (case side2 => exact (Kd.R_reads' HO_4.out).2.1); rintro e w36 ⟨v441, rfl, ho0, hb⟩; refine ⟨_, rfl, ?_⟩; have n0_ := Aside0.mk (Kd.R_elder' (RA HO_4) (Kd.R_base ho0) hb); have n1_ := Aside0.mk (Kd.R_below (RA HO_5) hb); have n2_ := Aside0.mk (Kd.R_below (RA HO439) hb); have n3_ := Aside0.mk (Kd.R_lower (Kd.R_new' ho0 (Kd.R_lt (RA HO_4))) (keep_size (w := w) (g := g) (row := none) keepA)); have n4_ := Aside0.mk (IsS80.below stA hb); have n5_ := Aside0.mk (blk_below (g := gb433) (o := .cells #[.int .i64 t427, .int .i64 t428, .int .i64 t429, .int .i64 t430, .string t431] 24 (0, 0)) blkA hb); have n6_ := Aside0.mk (KeepBut.trans keepA (KeepBut.of_below hb g none) (.inl rfl)); have n7_ := Aside0.mk (below_step belowA hb); clear HO_4; clear HO_5; clear HO439; clear HI0; clear BK433; clear HK; clear HB; have HO_4 := n0_; have HO_5 := n1_; have HO439 := n2_; have HO442 := n3_; have HI0 := n4_; have BK433 := n5_; have HK := n6_; have HB := n7_; clear n0_ n1_ n2_ n3_ n4_ n5_ n6_ n7_; (try clear hb); (try clear hb2); (try clear hk); (try clear hi); (try clear ho0)))
        go_roundg k1
        case measure => have := HK1.out; omega
        case rel => exact ⟨(y437), (t440), (y435), (wrap64 (x6_1 - 1)), (t432), (by first | rfl | (simp; done) | (simp [*]; done)), H', ⟨by have := HK1.out; omega⟩, ⟨RA HO439⟩, ⟨by (with_reducible repeat (first | apply Kd.R_alloc | apply Kd.R_drewN | apply Kd.R_drew)); exact Kd.R_mono HO442.out (fun _ hk => trivial)⟩, ⟨RA HO_5⟩, ⟨stA⟩, ⟨keepA⟩, ⟨belowA⟩⟩
       ·rw [if_neg c19] at H
        exact absurd H (by simp)
      ·rw [if_neg c16] at H
       have c16b0 : (t427 == 1) = false := beq_eq_false_iff_ne.mpr c16
       have c16b1 : (t427 != 1) = true := bne_iff_ne.mpr c16
       replace H := Option.bind_eq_some_iff.mp H
       obtain ⟨t443, A370, H⟩ := H
       (try dsimp only at H)
       have A37 := Aside0.mk A370
       clear A370
       by_cases c38 : x3_1.length < 2199023255552
       ·rw [if_pos c38] at H
        have LMc38 := Aside0.mk c38
        clear c38
        obtain ⟨y444, hy444⟩ : ∃ y_ : List (S26), y_ = (x3_1 ++ [(⟨wrap64 (1 + t424), wrap64 (t443 + 1), (⟨t427, t428, t429, t430, t431⟩ : S24)⟩ : S26)]) := ⟨_, rfl⟩
        replace H : ((spec_l3Do.f k1 x4_1 t427 t428 t429 t430 t431).bind fun t447 => (spec_l72Log.l0 k1 y444 t447 x5_1 (wrap64 (x6_1 - 1)) s0_0 t432)) = some (r1, r2) := by first | (rw [hy444]; with_reducible exact H) | (have H2_ := (Option.bind_some _ _).symm.trans H; rw [hy444]; with_reducible exact H2_) | (have H2_ := (Option.bind_some _ _).symm.trans H; with_reducible exact H2_) | with_reducible exact H | (rw [hy444]; exact H) | exact H
        have Ny444 := Aside0.mk hy444
        clear hy444
        replace H := Option.bind_eq_some_iff.mp H
        obtain ⟨t447, A390, H⟩ := H
        (try dsimp only at H)
        have A39 := Aside0.mk A390
        clear A390
        have H' := Aside0.mk H
        clear H
        try go_wp2_with (first | ((with_reducible refine gate_callee (f := 38) rfl ?_); refine goesL_ (some 19) rfl rfl Tryd.func38 (by kernel_rfl) rfl #[.pointer (some ⟨g, 0, none⟩), .int .i64 3] rfl argsA ?_; (with_reducible refine (spec_l6Rd_pick.calls k1 g s0_0 x1001_1 3 t424 t425 w0 _ ?side1 ?side2 A11.out).mono ?_); (case side1 => exact stA); (case side2 => exact belowA); rintro e w40 ⟨rfl, hi, hb, hk⟩; refine ⟨_, rfl, ?_⟩; have n0_ := Aside0.mk (Kd.R_mono (Kd.R_keep (IsS80.apart (show IsS80 w0 _ g s0_0 x1001_1 from stA) (RA HO_3) (by decide)) hk (fun _ h => h.2)) (fun _ h => h.1)); have n1_ := Aside0.mk (Kd.R_mono (Kd.R_keep (IsS80.apart (show IsS80 w0 _ g s0_0 x1001_1 from stA) (RA HO_4) (by decide)) hk (fun _ h => h.2)) (fun _ h => h.1)); have n2_ := Aside0.mk (Kd.R_mono (Kd.R_keep (IsS80.apart (show IsS80 w0 _ g s0_0 x1001_1 from stA) (RA HO_5) (by decide)) hk (fun _ h => h.2)) (fun _ h => h.1)); have n3_ := Aside0.mk (KeepBut.trans keepA hk (.inl rfl)); have n4_ := Aside0.mk (hb); have n5_ := Aside0.mk (hi); clear HO_3; clear HO_4; clear HO_5; clear HK; clear HB; clear HI0; have HO_3 := n0_; have HO_4 := n1_; have HO_5 := n2_; have HK := n3_; have HB := n4_; have HI0 := n5_; clear n0_ n1_ n2_ n3_ n4_ n5_; (try clear hb); (try clear hb2); (try clear hk); (try clear hi); obtain ⟨Ao41, co41, eo41⟩ := Kd.R_slice HO_5.out; subst eo41; have p426 : 0 ≤ ((ji12) : Int) := of_decide_eq_true (by first | (with_reducible assumption) | assumption); have q426 : (ji12) < (x5_1.length : Int) := of_decide_eq_true (by first | (with_reducible assumption) | assumption); obtain ⟨ad426, e426, hx426_0⟩ := Kd.at_int (Kd.R_reads' HO_5.out).2.2 (ji12) p426 q426; cases e426; replace p426 := eq_true p426; replace q426 := eq_true q426; obtain ⟨Ao42, co42, eo42⟩ := Kd.R_slice HO_4.out; subst eo42) | ((with_reducible refine gate_callee (f := 65) rfl ?_); refine goesL_ (some 29) rfl rfl Tryd.func65 (by kernel_rfl) rfl #[.pointer (some ⟨g, 0, none⟩), .slice Ao42 x4_1.length co42, .int .i64 (wrap64 (1 + t424)), .int .i64 (rd x5_1 (ji12))] rfl (by (try simp only [List.map_toArray, List.map_cons, List.map_nil]); first | done | (simp only [hji12]; rfl) | rfl | (simp only [List.length_drop, List.length_take]; rfl)) ?_; (with_reducible refine (spec_l72Op.calls k1 g s0_0 t425 _ _ x4_1 (wrap64 (1 + t424)) (rd x5_1 (ji12)) t427 t428 t429 t430 t431 t432 w0 _ ?side1 ?side2 ?side3 ?side4 A15.out).mono ?_); (case side1 => exact stA); (case side2 => exact belowA); (case side3 => exact Kd.C_foot_own (IsS80.apart (show IsS80 w0 _ g s0_0 t425 from stA) (RA HO_4) (by decide)) (fun _ h_ => h_.2)); (case side4 => exact (Kd.R_reads' HO_4.out).2.1); rintro e w43 ⟨rfl, hi, hb, hk⟩; refine ⟨_, rfl, ?_⟩; have n0_ := Aside0.mk (Kd.R_mono (Kd.R_keep (IsS80.apart (show IsS80 w0 _ g s0_0 t425 from stA) (RA HO_3) (by decide)) hk (fun _ h => h.2)) (fun _ h => h.1)); have n1_ := Aside0.mk (Kd.R_mono (Kd.R_keep (IsS80.apart (show IsS80 w0 _ g s0_0 t425 from stA) (RA HO_4) (by decide)) hk (fun _ h => h.2)) (fun _ h => h.1)); have n2_ := Aside0.mk (Kd.R_mono (Kd.R_keep (IsS80.apart (show IsS80 w0 _ g s0_0 t425 from stA) (RA HO_5) (by decide)) hk (fun _ h => h.2)) (fun _ h => h.1)); have n3_ := Aside0.mk (KeepBut.trans keepA hk (.inl rfl)); have n4_ := Aside0.mk (hb); have n5_ := Aside0.mk (hi); clear HO_3; clear HO_4; clear HO_5; clear HK; clear HB; clear HI0; have HO_3 := n0_; have HO_4 := n1_; have HO_5 := n2_; have HK := n3_; have HB := n4_; have HI0 := n5_; clear n0_ n1_ n2_ n3_ n4_ n5_; (try clear hb); (try clear hb2); (try clear hk); (try clear hi)) | ((with_reducible refine gate_dst (N := 8) rfl ?_); refine box_event ?hg (N := 8) ?hd (cs := #[.int .i64 0, .int .i64 0, .int .i64 0, .int .i64 0, .string (⟨#[]⟩ : ByteArray)]) (t := 24) ?hr ?_; (case hd => rfl); (case hg => rfl); (case hr => first | (go_simp; done) | (go_simp; rfl)); intro gb433 hg w44 hbox hb; have n0_ := Aside0.mk (Kd.R_below (RA HO_3) hb); have n1_ := Aside0.mk (Kd.R_below (RA HO_4) hb); have n2_ := Aside0.mk (Kd.R_below (RA HO_5) hb); have n3_ := Aside0.mk (IsS80.below stA hb); have n4_ := Aside0.mk (KeepBut.trans keepA (KeepBut.of_below hb g none) (.inl rfl)); have n5_ := Aside0.mk (below_step belowA hb); have n6_ := Aside0.mk (hbox); have n7_ := Aside0.mk ((by rw [hg]; exact (keep_size (w := w) (g := g) (row := none) keepA) : w.heap.size ≤ gb433)); have n8_ := Aside0.mk ((Nat.le_trans HW0.out (by rw [hg]; exact (keep_size (w := w) (g := g) (row := none) keepA) : w.heap.size ≤ gb433) : w0.heap.size ≤ gb433)); have n9_ := Aside0.mk ((by rw [hg]; exact Nat.ne_of_lt (IsS80.lt (show IsS80 w0 _ g s0_0 t432 from stA)) : g ≠ gb433)); have n10_ := Aside0.mk ((by rw [hg]; exact Nat.ne_of_gt (IsS80.lt (show IsS80 w0 _ g s0_0 t432 from stA)) : gb433 ≠ g)); clear HO_3; clear HO_4; clear HO_5; clear HI0; clear HK; clear HB; have HO_3 := n0_; have HO_4 := n1_; have HO_5 := n2_; have HI0 := n3_; have HK := n4_; have HB := n5_; have BK433 := n6_; have GW433 := n7_; have GE433 := n8_; have NB0_433 := n9_; have NB433_0 := n10_; clear n0_ n1_ n2_ n3_ n4_ n5_ n6_ n7_ n8_ n9_ n10_; clear hb hbox hg; have hnb45 := NB433_0.out; have hnc45 := NB0_433.out; obtain ⟨hcz46_0, hcz46_1, hcz46_2, hcz46_3, hcz46_4, hfz46_0, hfz46_1, hfz46_2, hfz46_3, hfz46_4⟩ := blk_facts5 BK433.out))
        have n0_ : Aside0 (Kd.R k26 26 (((((w44.setCell ⟨gb433, 0, none⟩ (.int .i64 t427)).setCell ⟨gb433, 1, none⟩ (.int .i64 t428)).setCell ⟨gb433, 2, none⟩ (.int .i64 t429)).setCell ⟨gb433, 3, none⟩ (.int .i64 t430)).setCell ⟨gb433, 4, none⟩ (.string t431)) w.heap.size (fun _ => True) u3 x3_1) := ⟨by (with_reducible repeat (first | apply Kd.R_alloc | apply Kd.R_drewN | apply Kd.R_drew)); exact Kd.R_mono (Kd.R_far (p := ⟨gb433, 4, none⟩) (Kd.R_far (p := ⟨gb433, 3, none⟩) (Kd.R_far (p := ⟨gb433, 2, none⟩) (Kd.R_far (p := ⟨gb433, 1, none⟩) (Kd.R_far (p := ⟨gb433, 0, none⟩) (Kd.R_types HO_3.out BK433.out (by decide)) (fun _ hk => hk.2) (.int .i64 t427)) (fun _ hk => hk.2) (.int .i64 t428)) (fun _ hk => hk.2) (.int .i64 t429)) (fun _ hk => hk.2) (.int .i64 t430)) (fun _ hk => hk.2) (.string t431)) (fun _ hk => trivial)⟩
        have n1_ : Aside0 (Kd.R k105 105 (((((w44.setCell ⟨gb433, 0, none⟩ (.int .i64 t427)).setCell ⟨gb433, 1, none⟩ (.int .i64 t428)).setCell ⟨gb433, 2, none⟩ (.int .i64 t429)).setCell ⟨gb433, 3, none⟩ (.int .i64 t430)).setCell ⟨gb433, 4, none⟩ (.string t431)) w.heap.size (fun _ => True) (.slice Ao42 x4_1.length co42) x4_1) := ⟨by (with_reducible repeat (first | apply Kd.R_alloc | apply Kd.R_drewN | apply Kd.R_drew)); exact Kd.R_mono (Kd.R_far (p := ⟨gb433, 4, none⟩) (Kd.R_far (p := ⟨gb433, 3, none⟩) (Kd.R_far (p := ⟨gb433, 2, none⟩) (Kd.R_far (p := ⟨gb433, 1, none⟩) (Kd.R_far (p := ⟨gb433, 0, none⟩) (Kd.R_types HO_4.out BK433.out (by decide)) (fun _ hk => hk.2) (.int .i64 t427)) (fun _ hk => hk.2) (.int .i64 t428)) (fun _ hk => hk.2) (.int .i64 t429)) (fun _ hk => hk.2) (.int .i64 t430)) (fun _ hk => hk.2) (.string t431)) (fun _ hk => trivial)⟩
        have n2_ : Aside0 (Kd.R (Kd.int .i64) 3 (((((w44.setCell ⟨gb433, 0, none⟩ (.int .i64 t427)).setCell ⟨gb433, 1, none⟩ (.int .i64 t428)).setCell ⟨gb433, 2, none⟩ (.int .i64 t429)).setCell ⟨gb433, 3, none⟩ (.int .i64 t430)).setCell ⟨gb433, 4, none⟩ (.string t431)) w.heap.size (fun _ => True) (.slice (some ad426) x5_1.length co41) x5_1) := ⟨by (with_reducible repeat (first | apply Kd.R_alloc | apply Kd.R_drewN | apply Kd.R_drew)); exact Kd.R_mono (Kd.R_far (p := ⟨gb433, 4, none⟩) (Kd.R_far (p := ⟨gb433, 3, none⟩) (Kd.R_far (p := ⟨gb433, 2, none⟩) (Kd.R_far (p := ⟨gb433, 1, none⟩) (Kd.R_far (p := ⟨gb433, 0, none⟩) (Kd.R_types HO_5.out BK433.out (by decide)) (fun _ hk => hk.2) (.int .i64 t427)) (fun _ hk => hk.2) (.int .i64 t428)) (fun _ hk => hk.2) (.int .i64 t429)) (fun _ hk => hk.2) (.int .i64 t430)) (fun _ hk => hk.2) (.string t431)) (fun _ hk => trivial)⟩
        have n3_ : Aside0 ((((((w44.setCell ⟨gb433, 0, none⟩ (.int .i64 t427)).setCell ⟨gb433, 1, none⟩ (.int .i64 t428)).setCell ⟨gb433, 2, none⟩ (.int .i64 t429)).setCell ⟨gb433, 3, none⟩ (.int .i64 t430)).setCell ⟨gb433, 4, none⟩ (.string t431)).heap[gb433]? = some (.cells #[.int .i64 t427, .int .i64 t428, .int .i64 t429, .int .i64 t430, .string t431] 24 (0, 0))) := ⟨by (with_reducible repeat (first | refine blk_drewN ?_ _ | refine blk_drew ?_ | refine blk_alloc ?_ _)); refine blk_put (cs := #[.int .i64 t427, .int .i64 t428, .int .i64 t429, .int .i64 t430, .string (⟨#[]⟩ : ByteArray)]) ?_ 4 _ rfl; (with_reducible repeat (first | refine blk_drewN ?_ _ | refine blk_drew ?_ | refine blk_alloc ?_ _)); refine blk_put (cs := #[.int .i64 t427, .int .i64 t428, .int .i64 t429, .int .i64 0, .string (⟨#[]⟩ : ByteArray)]) ?_ 3 _ rfl; (with_reducible repeat (first | refine blk_drewN ?_ _ | refine blk_drew ?_ | refine blk_alloc ?_ _)); refine blk_put (cs := #[.int .i64 t427, .int .i64 t428, .int .i64 0, .int .i64 0, .string (⟨#[]⟩ : ByteArray)]) ?_ 2 _ rfl; (with_reducible repeat (first | refine blk_drewN ?_ _ | refine blk_drew ?_ | refine blk_alloc ?_ _)); refine blk_put (cs := #[.int .i64 t427, .int .i64 0, .int .i64 0, .int .i64 0, .string (⟨#[]⟩ : ByteArray)]) ?_ 1 _ rfl; (with_reducible repeat (first | refine blk_drewN ?_ _ | refine blk_drew ?_ | refine blk_alloc ?_ _)); refine blk_put (cs := #[.int .i64 0, .int .i64 0, .int .i64 0, .int .i64 0, .string (⟨#[]⟩ : ByteArray)]) ?_ 0 _ rfl; (with_reducible repeat (first | refine blk_drewN ?_ _ | refine blk_drew ?_ | refine blk_alloc ?_ _)); exact BK433.out⟩
        have n4_ : Aside0 (IsS80 w0 (((((w44.setCell ⟨gb433, 0, none⟩ (.int .i64 t427)).setCell ⟨gb433, 1, none⟩ (.int .i64 t428)).setCell ⟨gb433, 2, none⟩ (.int .i64 t429)).setCell ⟨gb433, 3, none⟩ (.int .i64 t430)).setCell ⟨gb433, 4, none⟩ (.string t431)) g s0_0 t432) := ⟨stA⟩
        have n5_ : Aside0 (KeepBut w (((((w44.setCell ⟨gb433, 0, none⟩ (.int .i64 t427)).setCell ⟨gb433, 1, none⟩ (.int .i64 t428)).setCell ⟨gb433, 2, none⟩ (.int .i64 t429)).setCell ⟨gb433, 3, none⟩ (.int .i64 t430)).setCell ⟨gb433, 4, none⟩ (.string t431)) g none) := ⟨keepA⟩
        have n6_ : Aside0 (Below w0.heap.size w0 (((((w44.setCell ⟨gb433, 0, none⟩ (.int .i64 t427)).setCell ⟨gb433, 1, none⟩ (.int .i64 t428)).setCell ⟨gb433, 2, none⟩ (.int .i64 t429)).setCell ⟨gb433, 3, none⟩ (.int .i64 t430)).setCell ⟨gb433, 4, none⟩ (.string t431))) := ⟨belowA⟩
        (try clear HO_3)
        (try clear HO_4)
        (try clear HO_5)
        (try clear BK433)
        (try clear HI0)
        (try clear HK)
        (try clear HB)
        generalize (((((w44.setCell ⟨gb433, 0, none⟩ (.int .i64 t427)).setCell ⟨gb433, 1, none⟩ (.int .i64 t428)).setCell ⟨gb433, 2, none⟩ (.int .i64 t429)).setCell ⟨gb433, 3, none⟩ (.int .i64 t430)).setCell ⟨gb433, 4, none⟩ (.string t431)) = w47 at n0_ n1_ n2_ n3_ n4_ n5_ n6_ ⊢
        have HO_3 := n0_
        have HO_4 := n1_
        have HO_5 := n2_
        have BK433 := n3_
        have HI0 := n4_
        have HK := n5_
        have HB := n6_
        clear n0_ n1_ n2_ n3_ n4_ n5_ n6_
        have n0_ := Aside0.mk (Kd.R_drew HO_3.out)
        have n1_ := Aside0.mk (Kd.R_drew HO_4.out)
        have n2_ := Aside0.mk (Kd.R_drew HO_5.out)
        have n3_ := Aside0.mk (blk_drew BK433.out)
        have n4_ := Aside0.mk (IsS80.drew HI0.out)
        have n5_ := Aside0.mk (keep_drew HK.out)
        have n6_ := Aside0.mk (below_drew1 HB.out)
        clear HO_3
        clear HO_4
        clear HO_5
        clear BK433
        clear HI0
        clear HK
        clear HB
        have HO_3 := n0_
        have HO_4 := n1_
        have HO_5 := n2_
        have BK433 := n3_
        have HI0 := n4_
        have HK := n5_
        have HB := n6_
        clear n0_ n1_ n2_ n3_ n4_ n5_ n6_
        obtain ⟨Ao49, co49, eo49⟩ := Kd.R_slice HO_3.out
        (first | subst eo49 | (injection eo49 with f1_ f2_ f3_; have f4_ := f1_.symm; have f5_ := f3_.symm; clear f1_ f2_ f3_; subst f4_; subst f5_))
        refine start_ (n := 11) (S := fun w' => w'.cell? ⟨gb433, 0, none⟩ = some (.int .i64 t427) ∧ w'.cell? ⟨gb433, 1, none⟩ = some (.int .i64 t428) ∧ w'.cell? ⟨gb433, 2, none⟩ = some (.int .i64 t429) ∧ w'.cell? ⟨gb433, 3, none⟩ = some (.int .i64 t430) ∧ w'.cell? ⟨gb433, 4, none⟩ = some (.string t431)) (ds := []) (tf 0 11) (by kernel_rfl) rfl rfl ⟨(blk_cell BK433.out 0).trans rfl, (blk_cell BK433.out 1).trans rfl, (blk_cell BK433.out 2).trans rfl, (blk_cell BK433.out 3).trans rfl, (blk_cell BK433.out 4).trans rfl⟩ (fun hHeld => ?_); refine with_tabW spec_l72Log.tab11 spec_l72Log.bits11 (fun HT_ HW_ => ?_)
        generalize w47.drew = w48 at HO_3 HO_4 HO_5 BK433 HI0 HK HB hHeld ⊢
        refine pure_ (i := 0) (N := some 43) (tf 1 10) rfl rfl (anA HT_) (fun _ _ _ h => h) yldA putA ?_
        refine pure_ (i := 1) (N := some 44) (tf 2 9) rfl rfl (anA HT_) (fun _ _ _ h => h) yldA putA ?_
        refine pure_ (i := 2) (N := some 45) (tf 3 8) rfl rfl (anA HT_) (fun _ _ _ h => h) yldA putA ?_
        refine pure_ (i := 3) (N := some 46) (tf 4 7) rfl rfl (anA HT_) (fun _ _ _ h => h) yldA putA ?_
        refine take_ (i := 6) (N := some 49) #[true, true, true, true, false, false, true, false, false, false, false] rfl rfl (take_ofW HT_.out HW_.out (by kernel_rfl)) (fun _ _ _ h => h) (Or.inl ⟨by rfl, by rintro w' ⟨s0, s1, s2, s3, s4⟩; go_simp; with_reducible rfl⟩) hHeld putA ?_
        refine one_ (i := 4) (N := some 47) #[true, true, true, true, true, false, true, false, false, false, false] rfl rfl (one_of HT_.out (by kernel_rfl)) (by decide) (fun K hK => ?_)
        refine goes_ Tryd.func45 (by kernel_rfl) rfl #[.slice Ao49 x3_1.length co49, .int .i64 (wrap64 (1 + t424))] (by rfl) rfl rfl argsA ?_
        with_reducible refine (spec_l12Seq.calls k1 _ _ x3_1 (wrap64 (1 + t424)) t443 _ ?side1 ?side2 A37.out).mono ?_
        (case side1 => repeat (first | exact (Kd.R_reads' HO_3.out).2.2 | (with_reducible refine Kd.C_alloc ?_ _) | (with_reducible refine Kd.C_drewN ?_ _) | (with_reducible refine Kd.C_drew ?_)))
        (case side2 => exact (Kd.R_reads' HO_3.out).2.1)
        rintro e w' ⟨rfl, ⟨nd, rfl⟩⟩
        refine ⟨_, rfl, ?_⟩
        refine hK.out _ _ ⟨(blk_cell BK433.out 0).trans rfl, (blk_cell BK433.out 1).trans rfl, (blk_cell BK433.out 2).trans rfl, (blk_cell BK433.out 3).trans rfl, (blk_cell BK433.out 4).trans rfl⟩ (fun hHeld => ?_)
        clear hK K
        refine norm_ (a' := ?_) ?_ ?_
        rotate_left
        ·show Act.put _ (some 47) _ = _
         simp only [Act.put, List.setIfInBounds_toArray, List.set_cons_zero, List.set_cons_succ, i64_w, i32_w]
         rfl
        refine pure_ (i := 5) (N := some 48) (tf 7 4) rfl rfl (anA HT_) (fun _ _ _ h => h) yldA putA ?_
        refine pure_ (i := 7) (N := some 50) (tf 8 3) rfl rfl (anA HT_) (fun _ _ _ h => h) yldA putA ?_
        refine one_ (i := 8) (N := some 51) (tf 9 2) rfl rfl (one_of HT_.out (by kernel_rfl)) (by decide) (fun K hK => ?_)
        refine value_ (w1 := ?_) (v := ?_) (by rfl) rfl ?_ ?_
        rotate_left 2
        ·go_simp
         constructor
         ·rfl
         ·rfl
        refine hK.out _ _ ⟨(blk_cell (blk_alloc BK433.out _) 0).trans rfl, (blk_cell (blk_alloc BK433.out _) 1).trans rfl, (blk_cell (blk_alloc BK433.out _) 2).trans rfl, (blk_cell (blk_alloc BK433.out _) 3).trans rfl, (blk_cell (blk_alloc BK433.out _) 4).trans rfl⟩ (fun hHeld => ?_)
        clear hK K
        refine norm_ (a' := ?_) ?_ ?_
        rotate_left
        ·show Act.put _ (some 51) _ = _
         simp only [Act.put, List.setIfInBounds_toArray, List.set_cons_zero, List.set_cons_succ, i64_w, i32_w]
         rfl
        refine one_ (i := 9) (N := some 52) (tf 10 1) rfl rfl (one_of HT_.out (by kernel_rfl)) (by decide) (fun K hK => ?_)
        refine Kd.R_append_step k26 w.heap.size (by rfl) (.tmp 43) (.tmp 51) 33 26 (.agg #[(.int .i64 0), (.int .i64 0), (.int .i64 0), (.int .i64 0), (.int .i64 0), (.int .i64 0), (.string ⟨#[]⟩)]) 64 rfl Tryd.underlying33 info26 rfl (by decide) (by omega) (.slice Ao49 x3_1.length co49) x3_1 (⟨wrap64 (1 + t424), wrap64 (t443 + 1), (⟨t427, t428, t429, t430, t431⟩ : S24)⟩ : S26) [.int .i64 (wrap64 (1 + t424)), .int .i64 (wrap64 (t443 + 1)), .int .i64 t427, .int .i64 t428, .int .i64 t429, .int .i64 t430, .string t431] (fun _ => True) (fun _ => False) rfl rfl ?aP (fun _ hk => hk.elim) ?aF ?aO (Below.refl _ _) ?aS ?aL ?_
        (case aP => exact k26_mkM _ _ _ (⟨wrap64 (1 + t424), wrap64 (t443 + 1), (⟨t427, t428, t429, t430, t431⟩ : S24)⟩ : S26))
        (case aF => exact (fun _ _ => trivial))
        (case aO => exact (RA HO_3))
        (case aS => exact (keep_size (w := w) (g := g) (row := none) keepA))
        (case aL => have := LMc38.out; omega)
        intro v445 w50 ho hb hg hat
        rw [← Ny444.out] at ho
        have n0_ := Aside0.mk (Kd.R_over' (RA HO_4) (Kd.R_typed (RA HO_3)) (by decide) hg)
        have n1_ := Aside0.mk (Kd.R_over' (RA HO_5) (Kd.R_typed (RA HO_3)) (by decide) hg)
        have n2_ := Aside0.mk (IsS80.grown stA hg (IsS80.own_ne HI0.out HO_3.out (by decide)))
        have n3_ := Aside0.mk (blk_grown (g := gb433) (o := .cells #[.int .i64 t427, .int .i64 t428, .int .i64 t429, .int .i64 t430, .string t431] 24 (0, 0)) blkA hg (Kd.R_ne HO_3.out BK433.out (by decide)))
        have n4_ := Aside0.mk (below_weaken belowA HL.out hb)
        have n5_ := Aside0.mk (KeepBut.trans keepA (KeepBut.of_grown hg g) (Kd.R_base2 HO_3.out))
        have n6_ := Aside0.mk (ho)
        clear HO_4
        clear HO_5
        clear HI0
        clear BK433
        clear HB
        clear HK
        clear HO_3
        have HO_4 := n0_
        have HO_5 := n1_
        have HI0 := n2_
        have BK433 := n3_
        have HB := n4_
        have HK := n5_
        have HO446 := n6_
        clear n0_ n1_ n2_ n3_ n4_ n5_ n6_
        clear ho hb hg hat
        refine hK.out _ _ ⟨(blk_cell BK433.out 0).trans rfl, (blk_cell BK433.out 1).trans rfl, (blk_cell BK433.out 2).trans rfl, (blk_cell BK433.out 3).trans rfl, (blk_cell BK433.out 4).trans rfl⟩ (fun hHeld => ?_)
        clear hK K
        refine norm_ (a' := ?_) ?_ ?_
        rotate_left
        ·show Act.put _ (some 52) _ = _
         simp only [Act.put, List.setIfInBounds_toArray, List.set_cons_zero, List.set_cons_succ, i64_w, i32_w]
         rfl
        refine pure_ (i := 10) (N := some 3) (tf 11 0) rfl rfl (anA HT_) (fun _ _ _ h => h) yldA putA ?_
        refine done_ (done_of HT_.out (by kernel_rfl)) ?_
        obtain ⟨hcz51_0, hcz51_1, hcz51_2, hcz51_3, hcz51_4, hfz51_0, hfz51_1, hfz51_2, hfz51_3, hfz51_4⟩ := blk_facts5 BK433.out
        try go_wp2_with (first | ((with_reducible refine gate_callee (f := 66) rfl ?_); refine goesL_ (some 55) rfl rfl Tryd.func66 (by kernel_rfl) rfl #[.slice Ao42 x4_1.length co42, .agg #[.int .i64 t427, .int .i64 t428, .int .i64 t429, .int .i64 t430, .string t431]] rfl argsA ?_; (with_reducible refine (spec_l3Do.calls k1 _ _ x4_1 t427 t428 t429 t430 t431 t447 _ ?side1 ?side2 A39.out).mono ?_); (case side1 => repeat (first | exact (Kd.R_reads' HO_4.out).2.2 | (with_reducible refine Kd.C_alloc ?_ _) | (with_reducible refine Kd.C_drewN ?_ _) | (with_reducible refine Kd.C_drew ?_))); (case side2 => exact (Kd.R_reads' HO_4.out).2.1); rintro e w52 ⟨v448, rfl, ho0, hb⟩; refine ⟨_, rfl, ?_⟩; have n0_ := Aside0.mk (Kd.R_elder' (RA HO_4) (Kd.R_base ho0) hb); have n1_ := Aside0.mk (Kd.R_below (RA HO_5) hb); have n2_ := Aside0.mk (Kd.R_below (RA HO446) hb); have n3_ := Aside0.mk (Kd.R_lower (Kd.R_new' ho0 (Kd.R_lt (RA HO_4))) (keep_size (w := w) (g := g) (row := none) keepA)); have n4_ := Aside0.mk (IsS80.below stA hb); have n5_ := Aside0.mk (blk_below (g := gb433) (o := .cells #[.int .i64 t427, .int .i64 t428, .int .i64 t429, .int .i64 t430, .string t431] 24 (0, 0)) blkA hb); have n6_ := Aside0.mk (KeepBut.trans keepA (KeepBut.of_below hb g none) (.inl rfl)); have n7_ := Aside0.mk (below_step belowA hb); clear HO_4; clear HO_5; clear HO446; clear HI0; clear BK433; clear HK; clear HB; have HO_4 := n0_; have HO_5 := n1_; have HO446 := n2_; have HO449 := n3_; have HI0 := n4_; have BK433 := n5_; have HK := n6_; have HB := n7_; clear n0_ n1_ n2_ n3_ n4_ n5_ n6_ n7_; (try clear hb); (try clear hb2); (try clear hk); (try clear hi); (try clear ho0)))
        go_roundg k1
        case measure => have := HK1.out; omega
        case rel => exact ⟨(y444), (t447), (x5_1), (wrap64 (x6_1 - 1)), (t432), (by first | rfl | (simp; done) | (simp [*]; done)), H', ⟨by have := HK1.out; omega⟩, ⟨RA HO446⟩, ⟨by (with_reducible repeat (first | apply Kd.R_alloc | apply Kd.R_drewN | apply Kd.R_drew)); exact Kd.R_mono HO449.out (fun _ hk => trivial)⟩, ⟨RA HO_5⟩, ⟨stA⟩, ⟨keepA⟩, ⟨belowA⟩⟩
       ·rw [if_neg c38] at H
        exact absurd H (by simp)
     ·rw [if_neg c14] at H
      exact absurd H (by simp)
    ·rw [if_neg c13] at H
     exact absurd H (by simp)
   ·rw [if_neg c10] at H
    have c10b0 : decide (0 < x6_1) = false := decide_eq_false c10
    clear c10
    replace H := Option.bind_eq_some_iff.mp H
    obtain ⟨⟨t450, t451⟩, A530, H⟩ := H
    (try dsimp only at H)
    have A53 := Aside0.mk A530
    clear A530
    by_cases c54 : t450 = 0
    ·rw [if_pos c54] at H
     have c54b0 : (t450 == 0) = true := beq_iff_eq.mpr c54
     have c54b1 : (t450 != 0) = false := bne_eq_false_iff_eq.mpr c54
     clear c54
     replace H := Option.bind_eq_some_iff.mp H
     obtain ⟨⟨t452, t453⟩, A550, H⟩ := H
     (try dsimp only at H)
     have A55 := Aside0.mk A550
     clear A550
     replace H := Option.bind_eq_some_iff.mp H
     obtain ⟨⟨t454, t455⟩, A560, H⟩ := H
     (try dsimp only at H)
     have A56 := Aside0.mk A560
     clear A560
     replace H := Option.bind_eq_some_iff.mp H
     obtain ⟨⟨t456, t457, t458, t459, t460, t461⟩, A570, H⟩ := H
     (try dsimp only at H)
     have A57 := Aside0.mk A570
     clear A570
     by_cases c58 : x3_1.length < 2199023255552
     ·rw [if_pos c58] at H
      have LMc58 := Aside0.mk c58
      clear c58
      obtain ⟨y462, hy462⟩ : ∃ y_ : List (S26), y_ = (x3_1 ++ [(⟨wrap64 (1 + t452), wrap64 (1 + t454), (⟨t456, t457, t458, t459, t460⟩ : S24)⟩ : S26)]) := ⟨_, rfl⟩
      replace H : (some (y462, t461)) = some (r1, r2) := by first | (rw [hy462]; with_reducible exact H) | (have H2_ := (Option.bind_some _ _).symm.trans H; rw [hy462]; with_reducible exact H2_) | (have H2_ := (Option.bind_some _ _).symm.trans H; with_reducible exact H2_) | with_reducible exact H | (rw [hy462]; exact H) | exact H
      have Ny462 := Aside0.mk hy462
      clear hy462
      simp only [Option.some.injEq, Prod.mk.injEq] at H
      obtain ⟨rfl, rfl⟩ := H
      go_wp2_with (first | ((with_reducible refine gate_callee (f := 38) rfl ?_); refine goesL_ (some 57) rfl rfl Tryd.func38 (by kernel_rfl) rfl #[.pointer (some ⟨g, 0, none⟩), .int .i64 24] rfl argsA ?_; (with_reducible refine (spec_l6Rd_pick.calls k1 g s0_0 x1001_1 24 t450 t451 w0 _ ?side1 ?side2 A53.out).mono ?_); (case side1 => exact stA); (case side2 => exact belowA); rintro e w59 ⟨rfl, hi, hb, hk⟩; refine ⟨_, rfl, ?_⟩; have n0_ := Aside0.mk (Kd.R_mono (Kd.R_keep (IsS80.apart (show IsS80 w0 _ g s0_0 x1001_1 from stA) (RA HO_3) (by decide)) hk (fun _ h => h.2)) (fun _ h => h.1)); have n1_ := Aside0.mk (Kd.R_mono (Kd.R_keep (IsS80.apart (show IsS80 w0 _ g s0_0 x1001_1 from stA) (RA HO_4) (by decide)) hk (fun _ h => h.2)) (fun _ h => h.1)); have n2_ := Aside0.mk (Kd.R_mono (Kd.R_keep (IsS80.apart (show IsS80 w0 _ g s0_0 x1001_1 from stA) (RA HO_5) (by decide)) hk (fun _ h => h.2)) (fun _ h => h.1)); have n3_ := Aside0.mk (KeepBut.trans keepA hk (.inl rfl)); have n4_ := Aside0.mk (hb); have n5_ := Aside0.mk (hi); clear HO_3; clear HO_4; clear HO_5; clear HK; clear HB; clear HI0; have HO_3 := n0_; have HO_4 := n1_; have HO_5 := n2_; have HK := n3_; have HB := n4_; have HI0 := n5_; clear n0_ n1_ n2_ n3_ n4_ n5_; (try clear hb); (try clear hb2); (try clear hk); (try clear hi)) | ((with_reducible refine gate_callee (f := 38) rfl ?_); refine goesL_ (some 62) rfl rfl Tryd.func38 (by kernel_rfl) rfl #[.pointer (some ⟨g, 0, none⟩), .int .i64 3] rfl argsA ?_; (with_reducible refine (spec_l6Rd_pick.calls k1 g s0_0 t451 3 t452 t453 w0 _ ?side1 ?side2 A55.out).mono ?_); (case side1 => exact stA); (case side2 => exact belowA); rintro e w60 ⟨rfl, hi, hb, hk⟩; refine ⟨_, rfl, ?_⟩; have n0_ := Aside0.mk (Kd.R_mono (Kd.R_keep (IsS80.apart (show IsS80 w0 _ g s0_0 t451 from stA) (RA HO_3) (by decide)) hk (fun _ h => h.2)) (fun _ h => h.1)); have n1_ := Aside0.mk (Kd.R_mono (Kd.R_keep (IsS80.apart (show IsS80 w0 _ g s0_0 t451 from stA) (RA HO_4) (by decide)) hk (fun _ h => h.2)) (fun _ h => h.1)); have n2_ := Aside0.mk (Kd.R_mono (Kd.R_keep (IsS80.apart (show IsS80 w0 _ g s0_0 t451 from stA) (RA HO_5) (by decide)) hk (fun _ h => h.2)) (fun _ h => h.1)); have n3_ := Aside0.mk (KeepBut.trans keepA hk (.inl rfl)); have n4_ := Aside0.mk (hb); have n5_ := Aside0.mk (hi); clear HO_3; clear HO_4; clear HO_5; clear HK; clear HB; clear HI0; have HO_3 := n0_; have HO_4 := n1_; have HO_5 := n2_; have HK := n3_; have HB := n4_; have HI0 := n5_; clear n0_ n1_ n2_ n3_ n4_ n5_; (try clear hb); (try clear hb2); (try clear hk); (try clear hi)) | ((with_reducible refine gate_callee (f := 38) rfl ?_); refine goesL_ (some 65) rfl rfl Tryd.func38 (by kernel_rfl) rfl #[.pointer (some ⟨g, 0, none⟩), .int .i64 4] rfl argsA ?_; (with_reducible refine (spec_l6Rd_pick.calls k1 g s0_0 t453 4 t454 t455 w0 _ ?side1 ?side2 A56.out).mono ?_); (case side1 => exact stA); (case side2 => exact belowA); rintro e w61 ⟨rfl, hi, hb, hk⟩; refine ⟨_, rfl, ?_⟩; have n0_ := Aside0.mk (Kd.R_mono (Kd.R_keep (IsS80.apart (show IsS80 w0 _ g s0_0 t453 from stA) (RA HO_3) (by decide)) hk (fun _ h => h.2)) (fun _ h => h.1)); have n1_ := Aside0.mk (Kd.R_mono (Kd.R_keep (IsS80.apart (show IsS80 w0 _ g s0_0 t453 from stA) (RA HO_4) (by decide)) hk (fun _ h => h.2)) (fun _ h => h.1)); have n2_ := Aside0.mk (Kd.R_mono (Kd.R_keep (IsS80.apart (show IsS80 w0 _ g s0_0 t453 from stA) (RA HO_5) (by decide)) hk (fun _ h => h.2)) (fun _ h => h.1)); have n3_ := Aside0.mk (KeepBut.trans keepA hk (.inl rfl)); have n4_ := Aside0.mk (hb); have n5_ := Aside0.mk (hi); clear HO_3; clear HO_4; clear HO_5; clear HK; clear HB; clear HI0; have HO_3 := n0_; have HO_4 := n1_; have HO_5 := n2_; have HK := n3_; have HB := n4_; have HI0 := n5_; clear n0_ n1_ n2_ n3_ n4_ n5_; (try clear hb); (try clear hb2); (try clear hk); (try clear hi)) | ((with_reducible refine gate_callee (f := 39) rfl ?_); refine goesL_ (some 68) rfl rfl Tryd.func39 (by kernel_rfl) rfl #[.pointer (some ⟨g, 0, none⟩)] rfl argsA ?_; (with_reducible refine (spec_l71Op.calls k1 g s0_0 t455 t456 t457 t458 t459 t460 t461 w0 _ ?side1 ?side2 A57.out).mono ?_); (case side1 => exact stA); (case side2 => exact belowA); rintro e w62 ⟨rfl, hi, hb, hk⟩; refine ⟨_, rfl, ?_⟩; have n0_ := Aside0.mk (Kd.R_mono (Kd.R_keep (IsS80.apart (show IsS80 w0 _ g s0_0 t455 from stA) (RA HO_3) (by decide)) hk (fun _ h => h.2)) (fun _ h => h.1)); have n1_ := Aside0.mk (Kd.R_mono (Kd.R_keep (IsS80.apart (show IsS80 w0 _ g s0_0 t455 from stA) (RA HO_4) (by decide)) hk (fun _ h => h.2)) (fun _ h => h.1)); have n2_ := Aside0.mk (Kd.R_mono (Kd.R_keep (IsS80.apart (show IsS80 w0 _ g s0_0 t455 from stA) (RA HO_5) (by decide)) hk (fun _ h => h.2)) (fun _ h => h.1)); have n3_ := Aside0.mk (KeepBut.trans keepA hk (.inl rfl)); have n4_ := Aside0.mk (hb); have n5_ := Aside0.mk (hi); clear HO_3; clear HO_4; clear HO_5; clear HK; clear HB; clear HI0; have HO_3 := n0_; have HO_4 := n1_; have HO_5 := n2_; have HK := n3_; have HB := n4_; have HI0 := n5_; clear n0_ n1_ n2_ n3_ n4_ n5_; (try clear hb); (try clear hb2); (try clear hk); (try clear hi)) | ((with_reducible refine gate_builtin (b := .append) (xs := #[.tmp 60, .tmp 70]) rfl ?_); at_builtin; refine Kd.R_append k26 w.heap.size rfl (.tmp 60) (.tmp 70) 33 26 (.agg #[(.int .i64 0), (.int .i64 0), (.int .i64 0), (.int .i64 0), (.int .i64 0), (.int .i64 0), (.string ⟨#[]⟩)]) 64 rfl Tryd.underlying33 info26 rfl (by decide) (by omega) u3 x3_1 (⟨wrap64 (1 + t452), wrap64 (1 + t454), (⟨t456, t457, t458, t459, t460⟩ : S24)⟩ : S26) [.int .i64 (wrap64 (1 + t452)), .int .i64 (wrap64 (1 + t454)), .int .i64 t456, .int .i64 t457, .int .i64 t458, .int .i64 t459, .string t460] (fun _ => True) (fun _ => False) rfl rfl ?aP (fun _ hk => hk.elim) ?aF ?aO (Below.refl _ _) ?aS ?aL ?_; (case aP => exact k26_mkM _ _ _ (⟨wrap64 (1 + t452), wrap64 (1 + t454), (⟨t456, t457, t458, t459, t460⟩ : S24)⟩ : S26)); (case aF => exact (fun _ _ => trivial)); (case aO => exact (RA HO_3)); (case aS => exact (keep_size (w := w) (g := g) (row := none) keepA)); (case aL => have := LMc58.out; omega); intro v463 w63 ho hb hg hat; rw [← Ny462.out] at ho; have n0_ := Aside0.mk (Kd.R_over' (RA HO_4) (Kd.R_typed (RA HO_3)) (by decide) hg); have n1_ := Aside0.mk (Kd.R_over' (RA HO_5) (Kd.R_typed (RA HO_3)) (by decide) hg); have n2_ := Aside0.mk (IsS80.grown stA hg (IsS80.own_ne HI0.out HO_3.out (by decide))); have n3_ := Aside0.mk (below_weaken belowA HL.out hb); have n4_ := Aside0.mk (KeepBut.trans keepA (KeepBut.of_grown hg g) (Kd.R_base2 HO_3.out)); have n5_ := Aside0.mk (ho); clear HO_4; clear HO_5; clear HI0; clear HB; clear HK; clear HO_3; have HO_4 := n0_; have HO_5 := n1_; have HI0 := n2_; have HB := n3_; have HK := n4_; have HO464 := n5_; clear n0_ n1_ n2_ n3_ n4_ n5_; clear ho hb hg hat))
      go_ret
      exact ⟨_, endA, RA HO464, stA, belowA, keepA⟩
     ·rw [if_neg c58] at H
      exact absurd H (by simp)
    ·rw [if_neg c54] at H
     have c54b0 : (t450 == 0) = false := beq_eq_false_iff_ne.mpr c54
     have c54b1 : (t450 != 0) = true := bne_iff_ne.mpr c54
     by_cases c64 : t450 = 1
     ·rw [if_pos c64] at H
      have c64b0 : (t450 == 1) = true := beq_iff_eq.mpr c64
      have c64b1 : (t450 != 1) = false := bne_eq_false_iff_eq.mpr c64
      clear c64
      by_cases c65 : (x3_1.length : Int) > 0
      ·rw [if_pos c65] at H
       have c65b0 : decide (0 < (x3_1.length : Int)) = true := decide_eq_true c65
       have c65b1 : decide (0 < x3_1.length) = true := decide_eq_true (by omega)
       clear c65
       replace H := Option.bind_eq_some_iff.mp H
       obtain ⟨⟨t465, t466⟩, A660, H⟩ := H
       (try dsimp only at H)
       have A66 := Aside0.mk A660
       clear A660
       replace H := Option.bind_eq_some_iff.mp H
       obtain ⟨⟨t467, t468⟩, A670, H⟩ := H
       (try dsimp only at H)
       have A67 := Aside0.mk A670
       clear A670
       by_cases c68 : 0 ≤ t465
       ·rw [if_pos c68] at H
        have c68b0 : decide (0 ≤ t465) = true := decide_eq_true c68
        clear c68
        by_cases c69 : t465 < (x3_1.length : Int)
        ·rw [if_pos c69] at H
         have c69b0 : decide (t465 < (x3_1.length : Int)) = true := decide_eq_true c69
         clear c69
         obtain ⟨y469, hy469⟩ : ∃ y_ : List (S26), y_ = (x3_1.set (t465 : Int).toNat (⟨(rd_T26 x3_1 t465).f0, t467, (⟨(rd_T26 x3_1 t465).f2.f0, (rd_T26 x3_1 t465).f2.f1, (rd_T26 x3_1 t465).f2.f2, (rd_T26 x3_1 t465).f2.f3, (rd_T26 x3_1 t465).f2.f4⟩ : S24)⟩ : S26)) := ⟨_, rfl⟩
         replace H : (some (y469, t468)) = some (r1, r2) := by first | (rw [hy469]; with_reducible exact H) | (have H2_ := (Option.bind_some _ _).symm.trans H; rw [hy469]; with_reducible exact H2_) | (have H2_ := (Option.bind_some _ _).symm.trans H; with_reducible exact H2_) | with_reducible exact H | (rw [hy469]; exact H) | exact H
         have Ny469 := Aside0.mk hy469
         clear hy469
         simp only [Option.some.injEq, Prod.mk.injEq] at H
         obtain ⟨rfl, rfl⟩ := H
         go_wp2_with (first | ((with_reducible refine gate_callee (f := 38) rfl ?_); refine goesL_ (some 57) rfl rfl Tryd.func38 (by kernel_rfl) rfl #[.pointer (some ⟨g, 0, none⟩), .int .i64 24] rfl argsA ?_; (with_reducible refine (spec_l6Rd_pick.calls k1 g s0_0 x1001_1 24 t450 t451 w0 _ ?side1 ?side2 A53.out).mono ?_); (case side1 => exact stA); (case side2 => exact belowA); rintro e w71 ⟨rfl, hi, hb, hk⟩; refine ⟨_, rfl, ?_⟩; have n0_ := Aside0.mk (Kd.R_mono (Kd.R_keep (IsS80.apart (show IsS80 w0 _ g s0_0 x1001_1 from stA) (RA HO_3) (by decide)) hk (fun _ h => h.2)) (fun _ h => h.1)); have n1_ := Aside0.mk (Kd.R_mono (Kd.R_keep (IsS80.apart (show IsS80 w0 _ g s0_0 x1001_1 from stA) (RA HO_4) (by decide)) hk (fun _ h => h.2)) (fun _ h => h.1)); have n2_ := Aside0.mk (Kd.R_mono (Kd.R_keep (IsS80.apart (show IsS80 w0 _ g s0_0 x1001_1 from stA) (RA HO_5) (by decide)) hk (fun _ h => h.2)) (fun _ h => h.1)); have n3_ := Aside0.mk (KeepBut.trans keepA hk (.inl rfl)); have n4_ := Aside0.mk (hb); have n5_ := Aside0.mk (hi); clear HO_3; clear HO_4; clear HO_5; clear HK; clear HB; clear HI0; have HO_3 := n0_; have HO_4 := n1_; have HO_5 := n2_; have HK := n3_; have HB := n4_; have HI0 := n5_; clear n0_ n1_ n2_ n3_ n4_ n5_; (try clear hb); (try clear hb2); (try clear hk); (try clear hi); obtain ⟨Ao72, co72, eo72⟩ := Kd.R_slice HO_3.out; subst eo72) | ((with_reducible refine gate_callee (f := 38) rfl ?_); refine goesL_ (some 81) rfl rfl Tryd.func38 (by kernel_rfl) rfl #[.pointer (some ⟨g, 0, none⟩), .int .i64 (x3_1.length : Int)] rfl argsA ?_; (with_reducible refine (spec_l6Rd_pick.calls k1 g s0_0 t451 (x3_1.length : Int) t465 t466 w0 _ ?side1 ?side2 A66.out).mono ?_); (case side1 => exact stA); (case side2 => exact belowA); rintro e w73 ⟨rfl, hi, hb, hk⟩; refine ⟨_, rfl, ?_⟩; have n0_ := Aside0.mk (Kd.R_mono (Kd.R_keep (IsS80.apart (show IsS80 w0 _ g s0_0 t451 from stA) (RA HO_3) (by decide)) hk (fun _ h => h.2)) (fun _ h => h.1)); have n1_ := Aside0.mk (Kd.R_mono (Kd.R_keep (IsS80.apart (show IsS80 w0 _ g s0_0 t451 from stA) (RA HO_4) (by decide)) hk (fun _ h => h.2)) (fun _ h => h.1)); have n2_ := Aside0.mk (Kd.R_mono (Kd.R_keep (IsS80.apart (show IsS80 w0 _ g s0_0 t451 from stA) (RA HO_5) (by decide)) hk (fun _ h => h.2)) (fun _ h => h.1)); have n3_ := Aside0.mk (KeepBut.trans keepA hk (.inl rfl)); have n4_ := Aside0.mk (hb); have n5_ := Aside0.mk (hi); clear HO_3; clear HO_4; clear HO_5; clear HK; clear HB; clear HI0; have HO_3 := n0_; have HO_4 := n1_; have HO_5 := n2_; have HK := n3_; have HB := n4_; have HI0 := n5_; clear n0_ n1_ n2_ n3_ n4_ n5_; (try clear hb); (try clear hb2); (try clear hk); (try clear hi)) | ((with_reducible refine gate_callee (f := 38) rfl ?_); refine goesL_ (some 83) rfl rfl Tryd.func38 (by kernel_rfl) rfl #[.pointer (some ⟨g, 0, none⟩), .int .i64 4] rfl argsA ?_; (with_reducible refine (spec_l6Rd_pick.calls k1 g s0_0 t466 4 t467 t468 w0 _ ?side1 ?side2 A67.out).mono ?_); (case side1 => exact stA); (case side2 => exact belowA); rintro e w74 ⟨rfl, hi, hb, hk⟩; refine ⟨_, rfl, ?_⟩; have n0_ := Aside0.mk (Kd.R_mono (Kd.R_keep (IsS80.apart (show IsS80 w0 _ g s0_0 t466 from stA) (RA HO_3) (by decide)) hk (fun _ h => h.2)) (fun _ h => h.1)); have n1_ := Aside0.mk (Kd.R_mono (Kd.R_keep (IsS80.apart (show IsS80 w0 _ g s0_0 t466 from stA) (RA HO_4) (by decide)) hk (fun _ h => h.2)) (fun _ h => h.1)); have n2_ := Aside0.mk (Kd.R_mono (Kd.R_keep (IsS80.apart (show IsS80 w0 _ g s0_0 t466 from stA) (RA HO_5) (by decide)) hk (fun _ h => h.2)) (fun _ h => h.1)); have n3_ := Aside0.mk (KeepBut.trans keepA hk (.inl rfl)); have n4_ := Aside0.mk (hb); have n5_ := Aside0.mk (hi); clear HO_3; clear HO_4; clear HO_5; clear HK; clear HB; clear HI0; have HO_3 := n0_; have HO_4 := n1_; have HO_5 := n2_; have HK := n3_; have HB := n4_; have HI0 := n5_; clear n0_ n1_ n2_ n3_ n4_ n5_; (try clear hb); (try clear hb2); (try clear hk); (try clear hi); have p70 : 0 ≤ (t465 : Int) := of_decide_eq_true (by first | (with_reducible assumption) | assumption); have q70 : (t465 : Int) < ((x3_1.length : Int) : Int) := of_decide_eq_true (by first | (with_reducible assumption) | assumption); obtain ⟨go70, co70, eo70, gb70, gl70, cl70, HG70⟩ := Kd.R_form HO_3.out (by omega); (first | cases eo70 | (injection eo70 with ea_ en_ ec_; (first | subst ea_ | (injection ea_ with ea_; subst ea_)); subst ec_; clear en_)); have GB70 := Aside0.mk gb70; have GG70 := Aside0.mk HG70; clear gb70 gl70 HG70; obtain ⟨ce70, hcl70, hM70, hcc70, hfr70⟩ := Kd.R_elem HO_3.out z26 (t465 : Int) p70 q70; obtain rfl := k26_openM hM70; have hx70_0 : w74.cell? ⟨go70, (t465 : Int).toNat * 7, none⟩ = some (.int .i64 ((rd_T26 x3_1 t465).f0)) := hcc70 0 _ rfl; have hx70_1 : w74.cell? ⟨go70, (t465 : Int).toNat * 7 + 1, none⟩ = some (.int .i64 ((rd_T26 x3_1 t465).f1)) := hcc70 1 _ rfl; have hx70_2 : w74.cell? ⟨go70, (t465 : Int).toNat * 7 + 2, none⟩ = some (.int .i64 ((rd_T26 x3_1 t465).f2.f0)) := hcc70 2 _ rfl; have hx70_3 : w74.cell? ⟨go70, (t465 : Int).toNat * 7 + 3, none⟩ = some (.int .i64 ((rd_T26 x3_1 t465).f2.f1)) := hcc70 3 _ rfl; have hx70_4 : w74.cell? ⟨go70, (t465 : Int).toNat * 7 + 4, none⟩ = some (.int .i64 ((rd_T26 x3_1 t465).f2.f2)) := hcc70 4 _ rfl; have hx70_5 : w74.cell? ⟨go70, (t465 : Int).toNat * 7 + 5, none⟩ = some (.int .i64 ((rd_T26 x3_1 t465).f2.f3)) := hcc70 5 _ rfl; have hx70_6 : w74.cell? ⟨go70, (t465 : Int).toNat * 7 + 6, none⟩ = some (.string ((rd_T26 x3_1 t465).f2.f4)) := hcc70 6 _ rfl; have hf70_0 : w74.frozen? ⟨go70, (t465 : Int).toNat * 7, none⟩ = false := hfr70 0; have hf70_1 : w74.frozen? ⟨go70, (t465 : Int).toNat * 7 + 1, none⟩ = false := hfr70 1; have hf70_2 : w74.frozen? ⟨go70, (t465 : Int).toNat * 7 + 2, none⟩ = false := hfr70 2; have hf70_3 : w74.frozen? ⟨go70, (t465 : Int).toNat * 7 + 3, none⟩ = false := hfr70 3; have hf70_4 : w74.frozen? ⟨go70, (t465 : Int).toNat * 7 + 4, none⟩ = false := hfr70 4; have hf70_5 : w74.frozen? ⟨go70, (t465 : Int).toNat * 7 + 5, none⟩ = false := hfr70 5; have hf70_6 : w74.frozen? ⟨go70, (t465 : Int).toNat * 7 + 6, none⟩ = false := hfr70 6; clear hcl70 hcc70 hfr70 hM70; replace p70 := eq_true p70; replace q70 := eq_true q70; have HX75 := Aside0.mk (show Kd.R k26 26 w74 w.heap.size (fun _ => True) (.slice (some ⟨go70, 0, none⟩) x3_1.length co72) x3_1 from (RA HO_3)); obtain ⟨ce75, hcl75, hM75, hcc75, hfr75⟩ := Kd.R_elem HX75.out z26 (t465 : Int) (of_decide_eq_true (by first | (with_reducible assumption) | assumption)) (by have h_ : (t465 : Int) < ((x3_1.length : Int) : Int) := of_decide_eq_true (by first | (with_reducible assumption) | assumption); first | exact h_ | (have e_ := (Kd.R_reads' HO_3.out).1; omega) | simpa using h_); obtain rfl := k26_openM hM75; have HP75 := Kd.R_seg HX75.out (t465 : Int) (of_decide_eq_true (by first | (with_reducible assumption) | assumption)) (by have h_ : (t465 : Int) < ((x3_1.length : Int) : Int) := of_decide_eq_true (by first | (with_reducible assumption) | assumption); first | exact h_ | (have e_ := (Kd.R_reads' HO_3.out).1; omega) | simpa using h_) (seg := [.int .i64 t467]) (j := 1) hcl75 hcc75 (show 2 ≤ 7 from by decide) (x' := (⟨(rd_T26 x3_1 t465).f0, t467, (⟨(rd_T26 x3_1 t465).f2.f0, (rd_T26 x3_1 t465).f2.f1, (rd_T26 x3_1 t465).f2.f2, (rd_T26 x3_1 t465).f2.f3, (rd_T26 x3_1 t465).f2.f4⟩ : S24)⟩ : S26)) (k26_mkM _ _ _ (⟨(rd_T26 x3_1 t465).f0, t467, (⟨(rd_T26 x3_1 t465).f2.f0, (rd_T26 x3_1 t465).f2.f1, (rd_T26 x3_1 t465).f2.f2, (rd_T26 x3_1 t465).f2.f3, (rd_T26 x3_1 t465).f2.f4⟩ : S24)⟩ : S26) ) (fun _ hk => hk); have hx75_1 := hcc75 1 _ rfl; (try simp only [show (k26).sz = 7 from rfl, Nat.mul_one, Nat.add_zero] at hx75_1); have hf75_1 := hfr75 1; (try simp only [show (k26).sz = 7 from rfl, Nat.mul_one, Nat.add_zero] at hf75_1); clear hcl75 hcc75 hfr75 hM75) | ((with_reducible refine gate_store (t := 3) (p := 85) rfl ?_); refine store_event (t := 3) (p := 85) (v := ?vo_w76) (w1 := (w74.setCell ⟨go70, (t465 : Int).toNat * 7 + 1, none⟩ (.int .i64 t467))) ?hg ?ho ?hn ?hr ?_; (case ho => rfl); (case hg => rfl); (case hn => rfl); (case hr => first | (go_simp; done) | (go_simp; rfl)); intro w76 hw; have hg : w74.grownBy w76 (some go70) := (by rw [hw]; exact HP75.2); have hp_ : Kd.R k26 26 w76 w.heap.size (fun _ => True) (.slice (some ⟨go70, 0, none⟩) x3_1.length co72) y469 := (by rw [hw, Ny469.out]; exact HP75.1); clear HP75; have n0_ := Aside0.mk (hp_); have n1_ := Aside0.mk (Kd.R_over' (v := (.slice (some ⟨go70, 0, none⟩) x3_1.length co72)) (RA HO_4) (Kd.R_typed HO_3.out) (by decide) hg); have n2_ := Aside0.mk (Kd.R_over' (v := (.slice (some ⟨go70, 0, none⟩) x3_1.length co72)) (RA HO_5) (Kd.R_typed HO_3.out) (by decide) hg); have n3_ := Aside0.mk (IsS80.grown stA hg (IsS80.own_ne HI0.out HO_3.out (by decide))); have n4_ := Aside0.mk ((by rw [hw]; exact below_set (HB.out) (Nat.le_trans HL.out GB70.out) : Below w0.heap.size w0 w76)); have n5_ := Aside0.mk (KeepBut.trans keepA (KeepBut.of_grown hg g) (Kd.R_base2 HO_3.out)); clear HO_3; clear HO_4; clear HO_5; clear HI0; clear HB; clear HK; have HO_3 := n0_; have HO_4 := n1_; have HO_5 := n2_; have HI0 := n3_; have HB := n4_; have HK := n5_; clear n0_ n1_ n2_ n3_ n4_ n5_; clear hg hw hp_))
         go_ret
         exact ⟨_, endA, RA HO_3, stA, belowA, keepA⟩
        ·rw [if_neg c69] at H
         exact absurd H (by simp)
       ·rw [if_neg c68] at H
        exact absurd H (by simp)
      ·rw [if_neg c65] at H
       have c65b0 : decide (0 < (x3_1.length : Int)) = false := decide_eq_false c65
       have c65b1 : decide (0 < x3_1.length) = false := decide_eq_false (by omega)
       clear c65
       simp only [Option.some.injEq, Prod.mk.injEq] at H
       obtain ⟨rfl, rfl⟩ := H
       go_wp2_with (first | ((with_reducible refine gate_callee (f := 38) rfl ?_); refine goesL_ (some 57) rfl rfl Tryd.func38 (by kernel_rfl) rfl #[.pointer (some ⟨g, 0, none⟩), .int .i64 24] rfl argsA ?_; (with_reducible refine (spec_l6Rd_pick.calls k1 g s0_0 x1001_1 24 t450 t451 w0 _ ?side1 ?side2 A53.out).mono ?_); (case side1 => exact stA); (case side2 => exact belowA); rintro e w77 ⟨rfl, hi, hb, hk⟩; refine ⟨_, rfl, ?_⟩; have n0_ := Aside0.mk (Kd.R_mono (Kd.R_keep (IsS80.apart (show IsS80 w0 _ g s0_0 x1001_1 from stA) (RA HO_3) (by decide)) hk (fun _ h => h.2)) (fun _ h => h.1)); have n1_ := Aside0.mk (Kd.R_mono (Kd.R_keep (IsS80.apart (show IsS80 w0 _ g s0_0 x1001_1 from stA) (RA HO_4) (by decide)) hk (fun _ h => h.2)) (fun _ h => h.1)); have n2_ := Aside0.mk (Kd.R_mono (Kd.R_keep (IsS80.apart (show IsS80 w0 _ g s0_0 x1001_1 from stA) (RA HO_5) (by decide)) hk (fun _ h => h.2)) (fun _ h => h.1)); have n3_ := Aside0.mk (KeepBut.trans keepA hk (.inl rfl)); have n4_ := Aside0.mk (hb); have n5_ := Aside0.mk (hi); clear HO_3; clear HO_4; clear HO_5; clear HK; clear HB; clear HI0; have HO_3 := n0_; have HO_4 := n1_; have HO_5 := n2_; have HK := n3_; have HB := n4_; have HI0 := n5_; clear n0_ n1_ n2_ n3_ n4_ n5_; (try clear hb); (try clear hb2); (try clear hk); (try clear hi); obtain ⟨Ao78, co78, eo78⟩ := Kd.R_slice HO_3.out; subst eo78))
       go_ret
       exact ⟨_, endA, RA HO_3, stA, belowA, keepA⟩
     ·rw [if_neg c64] at H
      have c64b0 : (t450 == 1) = false := beq_eq_false_iff_ne.mpr c64
      have c64b1 : (t450 != 1) = true := bne_iff_ne.mpr c64
      simp only [Option.some.injEq, Prod.mk.injEq] at H
      obtain ⟨rfl, rfl⟩ := H
      go_wp2_with (first | ((with_reducible refine gate_callee (f := 38) rfl ?_); refine goesL_ (some 57) rfl rfl Tryd.func38 (by kernel_rfl) rfl #[.pointer (some ⟨g, 0, none⟩), .int .i64 24] rfl argsA ?_; (with_reducible refine (spec_l6Rd_pick.calls k1 g s0_0 x1001_1 24 t450 t451 w0 _ ?side1 ?side2 A53.out).mono ?_); (case side1 => exact stA); (case side2 => exact belowA); rintro e w79 ⟨rfl, hi, hb, hk⟩; refine ⟨_, rfl, ?_⟩; have n0_ := Aside0.mk (Kd.R_mono (Kd.R_keep (IsS80.apart (show IsS80 w0 _ g s0_0 x1001_1 from stA) (RA HO_3) (by decide)) hk (fun _ h => h.2)) (fun _ h => h.1)); have n1_ := Aside0.mk (Kd.R_mono (Kd.R_keep (IsS80.apart (show IsS80 w0 _ g s0_0 x1001_1 from stA) (RA HO_4) (by decide)) hk (fun _ h => h.2)) (fun _ h => h.1)); have n2_ := Aside0.mk (Kd.R_mono (Kd.R_keep (IsS80.apart (show IsS80 w0 _ g s0_0 x1001_1 from stA) (RA HO_5) (by decide)) hk (fun _ h => h.2)) (fun _ h => h.1)); have n3_ := Aside0.mk (KeepBut.trans keepA hk (.inl rfl)); have n4_ := Aside0.mk (hb); have n5_ := Aside0.mk (hi); clear HO_3; clear HO_4; clear HO_5; clear HK; clear HB; clear HI0; have HO_3 := n0_; have HO_4 := n1_; have HO_5 := n2_; have HK := n3_; have HB := n4_; have HI0 := n5_; clear n0_ n1_ n2_ n3_ n4_ n5_; (try clear hb); (try clear hb2); (try clear hk); (try clear hi)))
      go_ret
      exact ⟨_, endA, RA HO_3, stA, belowA, keepA⟩
end Go.Proofs.YtlpfjabfhgfpmaaDoor.P
