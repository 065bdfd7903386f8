
-- Written by wip/tools/pprint.py (a program of this session) over the kit's printer; not trusted: Lean checks it.
import Derived.Test.YtlpfjabfhgfpmaaDoorPx0
import Derived.Test.YtlpfjabfhgfpmaaDoorPx1
import Derived.Test.YtlpfjabfhgfpmaaDoorPx2
import Derived.Test.YtlpfjabfhgfpmaaDoorV
namespace Go.Proofs.YtlpfjabfhgfpmaaDoor.P
open Go.RowKit Go.Proofs.YtlpfjabfhgfpmaaDoorW.PrintWords Go.Proofs.YtlpfjabfhgfpmaaDoorW.PrintLast
attribute [local go_sem] cell_set_set cell_set_far_set   -- for this text's walks alone
set_option linter.unusedVariables false
set_option linter.unusedSimpArgs false
attribute [local go_sem high] eqA26
def spec_LogOk.l0 : Nat → List (S26) → Int → Option (Bool)
 | 0, _, _ => none
 | k + 1, x0, x3 => if x3 < (x0.length : Int) then (if 0 ≤ x3 then ((spec_EntryOk.f k ((rd_T26 x0 x3).f0) ((rd_T26 x0 x3).f1) ((rd_T26 x0 x3).f2.f0) ((rd_T26 x0 x3).f2.f1) ((rd_T26 x0 x3).f2.f2) ((rd_T26 x0 x3).f2.f3) ((rd_T26 x0 x3).f2.f4)).bind fun t120 => (if t120 = true then (if x3 ≤ (x0.length : Int) then ((spec_l12Seq.f k (x0.take (x3 : Int).toNat) ((rd_T26 x0 x3).f0)).bind fun t127 => (if ((rd_T26 x0 x3).f1) = (wrap64 (t127 + 1)) then (spec_LogOk.l0 k x0 (wrap64 (x3 + 1))) else (some false))) else (none)) else (some false))) else (none)) else (some (decide ((x0.length : Int) ≤ 40)))
def spec_LogOk.f (k : Nat) (l0 : List (S26)) : Option (Bool) := spec_LogOk.l0 k l0 0
theorem spec_LogOk.mono_l : ∀ k, (∀ y0 y1, LeO (spec_LogOk.l0 k y0 y1) (spec_LogOk.l0 (k + 1) y0 y1))
 | 0 => fun _ _ r h => by simp [spec_LogOk.l0] at h
 | k + 1 => by
  have ih0 := spec_LogOk.mono_l k
  ·intro y0 y1
   unfold spec_LogOk.l0
   repeat' first
   | (with_reducible exact ih0 _ _)
   | (with_reducible exact spec_EntryOk.mono _ _ _ _ _ _ _ _)
   | (with_reducible exact spec_l12Seq.mono _ _ _)
   | (with_reducible exact LeO.refl _)
   | (with_reducible exact LeO.none _)
   | (with_reducible refine LeO.ite ?_ ?_)
   | (with_reducible refine LeO.bind ?_ (fun _ => ?_))
   | exact ih0 _ _
   | exact spec_EntryOk.mono _ _ _ _ _ _ _ _
   | exact spec_l12Seq.mono _ _ _
   | exact LeO.none _
   | refine LeO.ite ?_ ?_
   | refine LeO.bind ?_ (fun _ => ?_)
theorem spec_LogOk.mono : ∀ a0 k, LeO (spec_LogOk.f k a0) (spec_LogOk.f (k + 1) a0) := by
 intro a0 k
 have ih0 := spec_LogOk.mono_l k
 unfold spec_LogOk.f
 repeat' first
   | (with_reducible exact ih0 _ _)
   | (with_reducible exact spec_EntryOk.mono _ _ _ _ _ _ _ _)
   | (with_reducible exact spec_l12Seq.mono _ _ _)
   | (with_reducible exact LeO.refl _)
   | (with_reducible exact LeO.none _)
   | (with_reducible refine LeO.ite ?_ ?_)
   | (with_reducible refine LeO.bind ?_ (fun _ => ?_))
   | exact ih0 _ _
   | exact spec_EntryOk.mono _ _ _ _ _ _ _ _
   | exact spec_l12Seq.mono _ _ _
   | exact LeO.none _
   | refine LeO.ite ?_ ?_
   | refine LeO.bind ?_ (fun _ => ?_)
def spec_LogOk.T4 : Bool × List (List Nat × List Nat) := (true, [([], []), ([], []), ([0, 1], [0, 1]), ([2], [2]), ([3], [3]), ([4], [4]), ([5, 4], [5]), ([6], [6]), ([6], [6]), ([7, 8, 6], [6, 7, 8]), ([9, 6], [6, 9]), ([10, 6], [6, 10]), ([6], [6]), ([6], [6]), ([12, 13, 6], [6, 12, 13]), ([6], [6]), ([6], [6]), ([15, 16, 6], [6, 15, 16]), ([17, 6], [6, 17]), ([18, 6], [6, 18]), ([14, 19, 6, 6], [6, 14, 19]), ([20, 6], [6, 20]), ([11, 21, 6], [6, 11, 21]), ([6, 22], [6, 22])])
def spec_LogOk.B4 : List Nat := [0, 0, 3, 7, 15, 31, 63, 127, 127, 511, 1023, 2047, 127, 127, 12415, 127, 127, 98431, 229503, 491647, 1044607, 2093183, 4194303, 8388607]
theorem spec_LogOk.tab4 : rtab .any (opsOf Tryd.f16 4) = spec_LogOk.T4 := by kernel_rfl
theorem spec_LogOk.bits4 : waitsOk spec_LogOk.T4.2 spec_LogOk.B4 = true := by kernel_rfl
set_option maxHeartbeats 8000000 in
set_option maxRecDepth 100000 in
theorem spec_LogOk.calls (k : Nat) (A0 : Option Addr) (c0 : Nat) (l0 : List (S26)) (r : Bool) (w : World) (hr0 : Kd.C k26 w A0 l0.length l0) (hc0 : l0.length ≤ c0) (h : spec_LogOk.f k l0 = some r) :
  Calls Tryd.prog 16 #[.slice A0 l0.length c0] w fun e w' => e = .returned (.bool r) ∧ Below w.heap.size w w' := by
 have hu26 := Tryd.underlying26
 have HR0 := Aside0.mk hr0
 have HC0 := Aside0.mk hc0
 clear hr0 hc0
 have HB := Aside0.mk (Below.refl w.heap.size w)
 have H : (spec_LogOk.l0 k l0 0) = some r := h
 clear h
 have H' := Aside0.mk H
 clear H
 go_enter Tryd.func16, Tryd.ntmps16
 go_wp2
 go_loopg [3] k (fun kq v3 w' => ∃ (x3_1 : Int), v3 = .int .i64 x3_1 ∧ Aside0 (spec_LogOk.l0 kq l0 x3_1 = some r) ∧ Aside0 (kq ≤ k) ∧ Aside0 (Below w.heap.size w w'))
 case atStart => exact ⟨(0), (by first | rfl | (simp; done) | (simp [*]; done)), H', ⟨Nat.le_refl _⟩, ⟨belowA⟩⟩
 case round =>
  clear H'
  try clear c1
  obtain ⟨x3_1, rfl, HA, HK1, HB⟩ := hrel
  cases gk with
  | zero => exact absurd HA.out (by simp [spec_LogOk.l0])
  | succ k1 =>
   have H := HA.out
   clear HA
   simp only [spec_LogOk.l0] at H
   by_cases c2 : x3_1 < (l0.length : Int)
   ·rw [if_pos c2] at H
    have c2b0 : decide (x3_1 < (l0.length : Int)) = true := decide_eq_true c2
    clear c2
    by_cases c3 : 0 ≤ x3_1
    ·rw [if_pos c3] at H
     have c3b0 : decide (0 ≤ x3_1) = true := decide_eq_true c3
     clear c3
     replace H := Option.bind_eq_some_iff.mp H
     obtain ⟨t120, A40, H⟩ := H
     (try dsimp only at H)
     have A4 := Aside0.mk A40
     clear A40
     by_cases c5 : t120 = true
     ·subst c5
      have H1 : (if x3_1 ≤ (l0.length : Int) then ((spec_l12Seq.f k1 (l0.take (x3_1 : Int).toNat) ((rd_T26 l0 x3_1).f0)).bind fun t127 => (if ((rd_T26 l0 x3_1).f1) = (wrap64 (t127 + 1)) then (spec_LogOk.l0 k1 l0 (wrap64 (x3_1 + 1))) else (some false))) else (none)) = some r := by rw [if_pos rfl] at H; exact H
      clear H
      have H := H1
      clear H1
      have c6b0 := eq_true (of_decide_eq_true (by first | (with_reducible assumption) | assumption) : 0 ≤ x3_1)
      by_cases c7 : x3_1 ≤ (l0.length : Int)
      ·rw [if_pos c7] at H
       have c7b0 := eq_true c7
       have c7b1 : decide (x3_1 ≤ (l0.length : Int)) = true := decide_eq_true c7
       clear c7
       obtain ⟨y122, hy122⟩ : ∃ y_ : List (S26), y_ = (l0.take (x3_1 : Int).toNat) := ⟨_, rfl⟩
       replace H : ((spec_l12Seq.f k1 y122 ((rd_T26 l0 x3_1).f0)).bind fun t127 => (if ((rd_T26 l0 x3_1).f1) = (wrap64 (t127 + 1)) then (spec_LogOk.l0 k1 l0 (wrap64 (x3_1 + 1))) else (some false))) = some r := by first | (rw [hy122]; with_reducible exact H) | (have H2_ := (Option.bind_some _ _).symm.trans H; rw [hy122]; with_reducible exact H2_) | (have H2_ := (Option.bind_some _ _).symm.trans H; with_reducible exact H2_) | with_reducible exact H | (rw [hy122]; exact H) | exact H
       have Ny122 := Aside0.mk hy122
       clear hy122
       replace H := Option.bind_eq_some_iff.mp H
       obtain ⟨t127, A80, H⟩ := H
       (try dsimp only at H)
       have A8 := Aside0.mk A80
       clear A80
       by_cases c9 : ((rd_T26 l0 x3_1).f1) = (wrap64 (t127 + 1))
       ·rw [if_pos c9] at H
        have c9b0 : (((rd_T26 l0 x3_1).f1) == (wrap64 (t127 + 1))) = true := beq_iff_eq.mpr c9
        have c9b1 : (((rd_T26 l0 x3_1).f1) != (wrap64 (t127 + 1))) = false := bne_eq_false_iff_eq.mpr c9
        clear c9
        have H' := Aside0.mk H
        clear H
        try go_wp2
        have n0_ := Aside0.mk (below_drew1 HB.out)
        clear HB
        have HB := n0_
        clear n0_
        have p119 : 0 ≤ (x3_1 : Int) := of_decide_eq_true (by first | (with_reducible assumption) | assumption)
        have q119 : x3_1 < (l0.length : Int) := of_decide_eq_true (by first | (with_reducible assumption) | assumption)
        obtain ⟨ad119, e119, hx119_0, hx119_1, hx119_2, hx119_3, hx119_4, hx119_5, hx119_6⟩ := at_T26 HR0.out x3_1 p119 q119
        have hw119_6 := hx119_6
        have hw119_5 := hx119_5
        have hw119_4 := hx119_4
        have hw119_3 := hx119_3
        have hw119_2 := hx119_2
        have hw119_1 := hx119_1
        have hw119_0 := hx119_0
        cases e119
        replace hx119_0 := bcell HB hx119_0
        replace hx119_1 := bcell HB hx119_1
        replace hx119_2 := bcell HB hx119_2
        replace hx119_3 := bcell HB hx119_3
        replace hx119_4 := bcell HB hx119_4
        replace hx119_5 := bcell HB hx119_5
        replace hx119_6 := bcell HB hx119_6
        replace p119 := eq_true p119
        replace q119 := eq_true q119
        have p121 : 0 ≤ (x3_1 : Int) := of_decide_eq_true (by first | (with_reducible assumption) | assumption)
        have q121 : x3_1 < (l0.length : Int) := of_decide_eq_true (by first | (with_reducible assumption) | assumption)
        obtain ⟨ad121, e121, hx121_0, hx121_1, hx121_2, hx121_3, hx121_4, hx121_5, hx121_6⟩ := at_T26 HR0.out x3_1 p121 q121
        have hw121_6 := hx121_6
        have hw121_5 := hx121_5
        have hw121_4 := hx121_4
        have hw121_3 := hx121_3
        have hw121_2 := hx121_2
        have hw121_1 := hx121_1
        have hw121_0 := hx121_0
        obtain rfl : ad119 = ad121 := (by injection e121)
        replace hx121_0 := bcell HB hx121_0
        replace hx121_1 := bcell HB hx121_1
        replace hx121_2 := bcell HB hx121_2
        replace hx121_3 := bcell HB hx121_3
        replace hx121_4 := bcell HB hx121_4
        replace hx121_5 := bcell HB hx121_5
        replace hx121_6 := bcell HB hx121_6
        replace p121 := eq_true p121
        replace q121 := eq_true q121
        have p126 : 0 ≤ (x3_1 : Int) := of_decide_eq_true (by first | (with_reducible assumption) | assumption)
        have q126 : x3_1 < (l0.length : Int) := of_decide_eq_true (by first | (with_reducible assumption) | assumption)
        obtain ⟨ad126, e126, hx126_0, hx126_1, hx126_2, hx126_3, hx126_4, hx126_5, hx126_6⟩ := at_T26 HR0.out x3_1 p126 q126
        have hw126_6 := hx126_6
        have hw126_5 := hx126_5
        have hw126_4 := hx126_4
        have hw126_3 := hx126_3
        have hw126_2 := hx126_2
        have hw126_1 := hx126_1
        have hw126_0 := hx126_0
        obtain rfl : ad119 = ad126 := (by injection e126)
        replace hx126_0 := bcell HB hx126_0
        replace hx126_1 := bcell HB hx126_1
        replace hx126_2 := bcell HB hx126_2
        replace hx126_3 := bcell HB hx126_3
        replace hx126_4 := bcell HB hx126_4
        replace hx126_5 := bcell HB hx126_5
        replace hx126_6 := bcell HB hx126_6
        replace p126 := eq_true p126
        replace q126 := eq_true q126
        refine start_ (n := 24) (S := fun w' => w'.cell? (ad119.add ((x3_1).toNat * 7)) = some (.int .i64 ((rd_T26 l0 x3_1).f0)) ∧ w'.cell? ⟨(ad119.add ((x3_1).toNat * 7)).block, (ad119.add ((x3_1).toNat * 7)).off + 1, none⟩ = some (.int .i64 ((rd_T26 l0 x3_1).f1)) ∧ w'.cell? ⟨(ad119.add ((x3_1).toNat * 7)).block, (ad119.add ((x3_1).toNat * 7)).off + 2, none⟩ = some (.int .i64 ((rd_T26 l0 x3_1).f2.f0)) ∧ w'.cell? ⟨(ad119.add ((x3_1).toNat * 7)).block, (ad119.add ((x3_1).toNat * 7)).off + 3, none⟩ = some (.int .i64 ((rd_T26 l0 x3_1).f2.f1)) ∧ w'.cell? ⟨(ad119.add ((x3_1).toNat * 7)).block, (ad119.add ((x3_1).toNat * 7)).off + 4, none⟩ = some (.int .i64 ((rd_T26 l0 x3_1).f2.f2)) ∧ w'.cell? ⟨(ad119.add ((x3_1).toNat * 7)).block, (ad119.add ((x3_1).toNat * 7)).off + 5, none⟩ = some (.int .i64 ((rd_T26 l0 x3_1).f2.f3)) ∧ w'.cell? ⟨(ad119.add ((x3_1).toNat * 7)).block, (ad119.add ((x3_1).toNat * 7)).off + 6, none⟩ = some (.string ((rd_T26 l0 x3_1).f2.f4)) ∧ w'.cell? (ad119.add ((x3_1).toNat * 7)) = some (.int .i64 ((rd_T26 l0 x3_1).f0)) ∧ w'.cell? ⟨(ad119.add ((x3_1).toNat * 7)).block, (ad119.add ((x3_1).toNat * 7)).off + 1, none⟩ = some (.int .i64 ((rd_T26 l0 x3_1).f1)) ∧ w'.cell? ⟨(ad119.add ((x3_1).toNat * 7)).block, (ad119.add ((x3_1).toNat * 7)).off + 2, none⟩ = some (.int .i64 ((rd_T26 l0 x3_1).f2.f0)) ∧ w'.cell? ⟨(ad119.add ((x3_1).toNat * 7)).block, (ad119.add ((x3_1).toNat * 7)).off + 3, none⟩ = some (.int .i64 ((rd_T26 l0 x3_1).f2.f1)) ∧ w'.cell? ⟨(ad119.add ((x3_1).toNat * 7)).block, (ad119.add ((x3_1).toNat * 7)).off + 4, none⟩ = some (.int .i64 ((rd_T26 l0 x3_1).f2.f2)) ∧ w'.cell? ⟨(ad119.add ((x3_1).toNat * 7)).block, (ad119.add ((x3_1).toNat * 7)).off + 5, none⟩ = some (.int .i64 ((rd_T26 l0 x3_1).f2.f3)) ∧ w'.cell? ⟨(ad119.add ((x3_1).toNat * 7)).block, (ad119.add ((x3_1).toNat * 7)).off + 6, none⟩ = some (.string ((rd_T26 l0 x3_1).f2.f4)) ∧ w'.cell? (ad119.add ((x3_1).toNat * 7)) = some (.int .i64 ((rd_T26 l0 x3_1).f0)) ∧ w'.cell? ⟨(ad119.add ((x3_1).toNat * 7)).block, (ad119.add ((x3_1).toNat * 7)).off + 1, none⟩ = some (.int .i64 ((rd_T26 l0 x3_1).f1)) ∧ w'.cell? ⟨(ad119.add ((x3_1).toNat * 7)).block, (ad119.add ((x3_1).toNat * 7)).off + 2, none⟩ = some (.int .i64 ((rd_T26 l0 x3_1).f2.f0)) ∧ w'.cell? ⟨(ad119.add ((x3_1).toNat * 7)).block, (ad119.add ((x3_1).toNat * 7)).off + 3, none⟩ = some (.int .i64 ((rd_T26 l0 x3_1).f2.f1)) ∧ w'.cell? ⟨(ad119.add ((x3_1).toNat * 7)).block, (ad119.add ((x3_1).toNat * 7)).off + 4, none⟩ = some (.int .i64 ((rd_T26 l0 x3_1).f2.f2)) ∧ w'.cell? ⟨(ad119.add ((x3_1).toNat * 7)).block, (ad119.add ((x3_1).toNat * 7)).off + 5, none⟩ = some (.int .i64 ((rd_T26 l0 x3_1).f2.f3)) ∧ w'.cell? ⟨(ad119.add ((x3_1).toNat * 7)).block, (ad119.add ((x3_1).toNat * 7)).off + 6, none⟩ = some (.string ((rd_T26 l0 x3_1).f2.f4))) (ds := []) (tf 0 24) (by kernel_rfl) rfl rfl ⟨(bcellD HB hw119_0), (bcellD HB hw119_1), (bcellD HB hw119_2), (bcellD HB hw119_3), (bcellD HB hw119_4), (bcellD HB hw119_5), (bcellD HB hw119_6), (bcellD HB hw121_0), (bcellD HB hw121_1), (bcellD HB hw121_2), (bcellD HB hw121_3), (bcellD HB hw121_4), (bcellD HB hw121_5), (bcellD HB hw121_6), (bcellD HB hw126_0), (bcellD HB hw126_1), (bcellD HB hw126_2), (bcellD HB hw126_3), (bcellD HB hw126_4), (bcellD HB hw126_5), (bcellD HB hw126_6)⟩ (fun hHeld => ?_); refine with_tabW spec_LogOk.tab4 spec_LogOk.bits4 (fun HT_ HW_ => ?_)
        generalize wr.drew = w10 at HB hx119_0 hx119_1 hx119_2 hx119_3 hx119_4 hx119_5 hx119_6 hx121_0 hx121_1 hx121_2 hx121_3 hx121_4 hx121_5 hx121_6 hx126_0 hx126_1 hx126_2 hx126_3 hx126_4 hx126_5 hx126_6 hHeld ⊢
        refine pure_ (i := 0) (N := some 10) (tf 1 23) rfl rfl (anA HT_) (fun _ _ _ h => h) yldA putA ?_
        refine pure_ (i := 1) (N := some 11) (tf 2 22) rfl rfl (anA HT_) (fun _ _ _ h => h) yldA putA ?_
        refine pure_ (i := 2) (N := some 12) (tf 3 21) rfl rfl (anA HT_) (fun _ _ _ h => h) yldA putA ?_
        refine take_ (i := 3) (N := some 13) (tf 4 20) rfl rfl (take_ofW HT_.out HW_.out (by kernel_rfl)) (fun _ _ _ h => h) (Or.inl ⟨by rfl, by rintro w' ⟨s0, s1, s2, s3, s4, s5, s6, s7, s8, s9, s10, s11, s12, s13, s14, s15, s16, s17, s18, s19, s20⟩; go_simp; with_reducible rfl⟩) hHeld putA ?_
        refine one_ (i := 4) (N := some 14) (tf 5 19) rfl rfl (one_of HT_.out (by kernel_rfl)) (by decide) (fun K hK => ?_)
        refine goes_ Tryd.func14 (by kernel_rfl) rfl #[.agg #[.int .i64 ((rd_T26 l0 x3_1).f0), .int .i64 ((rd_T26 l0 x3_1).f1), .int .i64 ((rd_T26 l0 x3_1).f2.f0), .int .i64 ((rd_T26 l0 x3_1).f2.f1), .int .i64 ((rd_T26 l0 x3_1).f2.f2), .int .i64 ((rd_T26 l0 x3_1).f2.f3), .string ((rd_T26 l0 x3_1).f2.f4)]] (by rfl) rfl rfl argsA ?_
        with_reducible refine (spec_EntryOk.calls k1 ((rd_T26 l0 x3_1).f0) ((rd_T26 l0 x3_1).f1) ((rd_T26 l0 x3_1).f2.f0) ((rd_T26 l0 x3_1).f2.f1) ((rd_T26 l0 x3_1).f2.f2) ((rd_T26 l0 x3_1).f2.f3) ((rd_T26 l0 x3_1).f2.f4) true _ A4.out).mono ?_
        rintro e w11 ⟨rfl, hb⟩
        refine ⟨_, rfl, ?_⟩
        have n0_ := Aside0.mk (below_step belowA hb)
        clear HB
        have HB := n0_
        clear n0_
        (try clear hb)
        (try clear hb2)
        (try clear hk)
        (try clear hi)
        have q12 : (x3_1 : Int) ≤ ((l0.length : Int) : Int) := of_decide_eq_true (by first | (with_reducible assumption) | assumption)
        obtain ⟨i012, hi012, _, hsz12, _⟩ := info_parts info26
        have hroom12 : l0.length ≤ c0 := HC0.out
        have hC12 : Kd.C k26 _ (some ad119) l0.length l0 := HR0.out
        have hcut12 := cut_to (P := Tryd.prog) 33 26 .i64 Tryd.underlying33 hi012 (some ad119) l0.length c0 x3_1 (of_decide_eq_true (by first | (with_reducible assumption) | assumption)) q12 hroom12
        have hr12 := Kd.C_take (m := (x3_1 : Int).toNat) hC12 (by omega)
        have hy12 : y122.length = (x3_1 : Int).toNat := (by rw [Ny122.out, List.length_take]; omega)
        rw [← Ny122.out] at hr12
        rw [← hy12] at hcut12
        have HR125 := Aside0.mk hr12
        have HC125 := Aside0.mk (show y122.length ≤ c0 from by omega)
        clear hr12 hC12 hroom12 hi012 hsz12
        have KY12 := Aside0.mk hy12
        clear hy12
        replace q12 := eq_true q12
        refine hK.out _ _ ⟨(bcellD HB hw119_0), (bcellD HB hw119_1), (bcellD HB hw119_2), (bcellD HB hw119_3), (bcellD HB hw119_4), (bcellD HB hw119_5), (bcellD HB hw119_6), (bcellD HB hw121_0), (bcellD HB hw121_1), (bcellD HB hw121_2), (bcellD HB hw121_3), (bcellD HB hw121_4), (bcellD HB hw121_5), (bcellD HB hw121_6), (bcellD HB hw126_0), (bcellD HB hw126_1), (bcellD HB hw126_2), (bcellD HB hw126_3), (bcellD HB hw126_4), (bcellD HB hw126_5), (bcellD HB hw126_6)⟩ (fun hHeld => ?_)
        clear hK K
        refine norm_ (a' := ?_) ?_ ?_
        rotate_left
        ·show Act.put _ (some 14) _ = _
         simp only [Act.put, List.setIfInBounds_toArray, List.set_cons_zero, List.set_cons_succ, i64_w, i32_w]
         rfl
        refine pure_ (i := 5) (N := some 15) (tf 6 18) rfl rfl (anA HT_) (fun _ _ _ h => h) yldA putA ?_
        refine pure_ (i := 6) (N := some 16) (tf 7 17) rfl rfl (anA HT_) (fun _ _ _ h => h) yldA putA ?_
        refine pure_ (i := 7) (N := some 17) (tf 8 16) rfl rfl (anA HT_) (fun _ _ _ h => h) yldA putA ?_
        refine pure_ (i := 8) (N := some 18) (tf 9 15) rfl rfl (anA HT_) (fun _ _ _ h => h) yldA putA ?_
        refine pure_ (i := 9) (N := some 19) (tf 10 14) rfl rfl (anA HT_) (fun _ _ _ h => h) yldA putA ?_
        refine pure_ (i := 10) (N := some 20) (tf 11 13) rfl rfl (anA HT_) (fun _ _ _ h => h) yldA putA ?_
        refine pure_ (i := 12) (N := some 22) #[true, true, true, true, true, true, true, true, true, true, true, false, true, false, false, false, false, false, false, false, false, false, false, false] rfl rfl (anA HT_) (fun _ _ _ h => h) yldA putA ?_
        refine pure_ (i := 13) (N := some 23) #[true, true, true, true, true, true, true, true, true, true, true, false, true, true, false, false, false, false, false, false, false, false, false, false] rfl rfl (anA HT_) (fun _ _ _ h => h) yldA putA ?_
        refine pure_ (i := 14) (N := some 24) #[true, true, true, true, true, true, true, true, true, true, true, false, true, true, true, false, false, false, false, false, false, false, false, false] rfl rfl (anA HT_) (fun _ _ _ h => h) yldA putA ?_
        refine pure_ (i := 15) (N := some 25) #[true, true, true, true, true, true, true, true, true, true, true, false, true, true, true, true, false, false, false, false, false, false, false, false] rfl rfl (anA HT_) (fun _ _ _ h => h) yldA putA ?_
        refine pure_ (i := 16) (N := some 26) #[true, true, true, true, true, true, true, true, true, true, true, false, true, true, true, true, true, false, false, false, false, false, false, false] rfl rfl (anA HT_) (fun _ _ _ h => h) yldA putA ?_
        refine pure_ (i := 17) (N := some 27) #[true, true, true, true, true, true, true, true, true, true, true, false, true, true, true, true, true, true, false, false, false, false, false, false] rfl rfl (anA HT_) (fun _ _ _ h => h) yldA putA ?_
        refine pure_ (i := 18) (N := some 28) #[true, true, true, true, true, true, true, true, true, true, true, false, true, true, true, true, true, true, true, false, false, false, false, false] rfl rfl (anA HT_) (fun _ _ _ h => h) yldA putA ?_
        refine take_ (i := 11) (N := some 21) (tf 19 5) rfl rfl (take_ofW HT_.out HW_.out (by kernel_rfl)) (fun _ _ _ h => h) (Or.inl ⟨by rfl, by rintro w' ⟨s0, s1, s2, s3, s4, s5, s6, s7, s8, s9, s10, s11, s12, s13, s14, s15, s16, s17, s18, s19, s20⟩; go_simp; with_reducible rfl⟩) hHeld putA ?_
        refine take_ (i := 19) (N := some 29) (tf 20 4) rfl rfl (take_ofW HT_.out HW_.out (by kernel_rfl)) (fun _ _ _ h => h) (Or.inl ⟨by rfl, by rintro w' ⟨s0, s1, s2, s3, s4, s5, s6, s7, s8, s9, s10, s11, s12, s13, s14, s15, s16, s17, s18, s19, s20⟩; go_simp; with_reducible rfl⟩) hHeld putA ?_
        refine one_ (i := 20) (N := some 30) (tf 21 3) rfl rfl (one_of HT_.out (by kernel_rfl)) (by decide) (fun K hK => ?_)
        refine goes_ Tryd.func45 (by kernel_rfl) rfl #[.slice (some ad119) y122.length c0, .int .i64 ((rd_T26 l0 x3_1).f0)] (by rfl) rfl rfl argsA ?_
        with_reducible refine (spec_l12Seq.calls k1 _ _ y122 ((rd_T26 l0 x3_1).f0) t127 _ ?side1 ?side2 A8.out).mono ?_
        (case side1 => exact CA (Kd.C_below HR125.out HB.out))
        (case side2 => exact HC125.out)
        rintro e w' ⟨rfl, ⟨nd, rfl⟩⟩
        refine ⟨_, rfl, ?_⟩
        refine hK.out _ _ ⟨(bcellD HB hw119_0), (bcellD HB hw119_1), (bcellD HB hw119_2), (bcellD HB hw119_3), (bcellD HB hw119_4), (bcellD HB hw119_5), (bcellD HB hw119_6), (bcellD HB hw121_0), (bcellD HB hw121_1), (bcellD HB hw121_2), (bcellD HB hw121_3), (bcellD HB hw121_4), (bcellD HB hw121_5), (bcellD HB hw121_6), (bcellD HB hw126_0), (bcellD HB hw126_1), (bcellD HB hw126_2), (bcellD HB hw126_3), (bcellD HB hw126_4), (bcellD HB hw126_5), (bcellD HB hw126_6)⟩ (fun hHeld => ?_)
        clear hK K
        refine norm_ (a' := ?_) ?_ ?_
        rotate_left
        ·show Act.put _ (some 30) _ = _
         simp only [Act.put, List.setIfInBounds_toArray, List.set_cons_zero, List.set_cons_succ, i64_w, i32_w]
         rfl
        refine pure_ (i := 21) (N := some 31) (tf 22 2) rfl rfl (anA HT_) (fun _ _ _ h => h) yldA putA ?_
        refine pure_ (i := 22) (N := some 32) (tf 23 1) rfl rfl (anA HT_) (fun _ _ _ h => h) yldA putA ?_
        refine pure_ (i := 23) (N := some 33) (tf 24 0) rfl rfl (anA HT_) (fun _ _ _ h => h) yldA putA ?_
        refine done_ (done_of HT_.out (by kernel_rfl)) ?_
        try go_wp2
        go_roundg k1
        case measure => have := HK1.out; omega
        case rel => exact ⟨(wrap64 (x3_1 + 1)), (by first | rfl | (simp; done) | (simp [*]; done)), H', ⟨by have := HK1.out; omega⟩, ⟨belowA⟩⟩
       ·rw [if_neg c9] at H
        have c9b0 : (((rd_T26 l0 x3_1).f1) == (wrap64 (t127 + 1))) = false := beq_eq_false_iff_ne.mpr c9
        have c9b1 : (((rd_T26 l0 x3_1).f1) != (wrap64 (t127 + 1))) = true := bne_iff_ne.mpr c9
        obtain rfl := Option.some.inj H
        try go_wp2
        have n0_ := Aside0.mk (below_drew1 HB.out)
        clear HB
        have HB := n0_
        clear n0_
        have p119 : 0 ≤ (x3_1 : Int) := of_decide_eq_true (by first | (with_reducible assumption) | assumption)
        have q119 : x3_1 < (l0.length : Int) := of_decide_eq_true (by first | (with_reducible assumption) | assumption)
        obtain ⟨ad119, e119, hx119_0, hx119_1, hx119_2, hx119_3, hx119_4, hx119_5, hx119_6⟩ := at_T26 HR0.out x3_1 p119 q119
        have hw119_6 := hx119_6
        have hw119_5 := hx119_5
        have hw119_4 := hx119_4
        have hw119_3 := hx119_3
        have hw119_2 := hx119_2
        have hw119_1 := hx119_1
        have hw119_0 := hx119_0
        cases e119
        replace hx119_0 := bcell HB hx119_0
        replace hx119_1 := bcell HB hx119_1
        replace hx119_2 := bcell HB hx119_2
        replace hx119_3 := bcell HB hx119_3
        replace hx119_4 := bcell HB hx119_4
        replace hx119_5 := bcell HB hx119_5
        replace hx119_6 := bcell HB hx119_6
        replace p119 := eq_true p119
        replace q119 := eq_true q119
        have p121 : 0 ≤ (x3_1 : Int) := of_decide_eq_true (by first | (with_reducible assumption) | assumption)
        have q121 : x3_1 < (l0.length : Int) := of_decide_eq_true (by first | (with_reducible assumption) | assumption)
        obtain ⟨ad121, e121, hx121_0, hx121_1, hx121_2, hx121_3, hx121_4, hx121_5, hx121_6⟩ := at_T26 HR0.out x3_1 p121 q121
        have hw121_6 := hx121_6
        have hw121_5 := hx121_5
        have hw121_4 := hx121_4
        have hw121_3 := hx121_3
        have hw121_2 := hx121_2
        have hw121_1 := hx121_1
        have hw121_0 := hx121_0
        obtain rfl : ad119 = ad121 := (by injection e121)
        replace hx121_0 := bcell HB hx121_0
        replace hx121_1 := bcell HB hx121_1
        replace hx121_2 := bcell HB hx121_2
        replace hx121_3 := bcell HB hx121_3
        replace hx121_4 := bcell HB hx121_4
        replace hx121_5 := bcell HB hx121_5
        replace hx121_6 := bcell HB hx121_6
        replace p121 := eq_true p121
        replace q121 := eq_true q121
        have p126 : 0 ≤ (x3_1 : Int) := of_decide_eq_true (by first | (with_reducible assumption) | assumption)
        have q126 : x3_1 < (l0.length : Int) := of_decide_eq_true (by first | (with_reducible assumption) | assumption)
        obtain ⟨ad126, e126, hx126_0, hx126_1, hx126_2, hx126_3, hx126_4, hx126_5, hx126_6⟩ := at_T26 HR0.out x3_1 p126 q126
        have hw126_6 := hx126_6
        have hw126_5 := hx126_5
        have hw126_4 := hx126_4
        have hw126_3 := hx126_3
        have hw126_2 := hx126_2
        have hw126_1 := hx126_1
        have hw126_0 := hx126_0
        obtain rfl : ad119 = ad126 := (by injection e126)
        replace hx126_0 := bcell HB hx126_0
        replace hx126_1 := bcell HB hx126_1
        replace hx126_2 := bcell HB hx126_2
        replace hx126_3 := bcell HB hx126_3
        replace hx126_4 := bcell HB hx126_4
        replace hx126_5 := bcell HB hx126_5
        replace hx126_6 := bcell HB hx126_6
        replace p126 := eq_true p126
        replace q126 := eq_true q126
        refine start_ (n := 24) (S := fun w' => w'.cell? (ad119.add ((x3_1).toNat * 7)) = some (.int .i64 ((rd_T26 l0 x3_1).f0)) ∧ w'.cell? ⟨(ad119.add ((x3_1).toNat * 7)).block, (ad119.add ((x3_1).toNat * 7)).off + 1, none⟩ = some (.int .i64 ((rd_T26 l0 x3_1).f1)) ∧ w'.cell? ⟨(ad119.add ((x3_1).toNat * 7)).block, (ad119.add ((x3_1).toNat * 7)).off + 2, none⟩ = some (.int .i64 ((rd_T26 l0 x3_1).f2.f0)) ∧ w'.cell? ⟨(ad119.add ((x3_1).toNat * 7)).block, (ad119.add ((x3_1).toNat * 7)).off + 3, none⟩ = some (.int .i64 ((rd_T26 l0 x3_1).f2.f1)) ∧ w'.cell? ⟨(ad119.add ((x3_1).toNat * 7)).block, (ad119.add ((x3_1).toNat * 7)).off + 4, none⟩ = some (.int .i64 ((rd_T26 l0 x3_1).f2.f2)) ∧ w'.cell? ⟨(ad119.add ((x3_1).toNat * 7)).block, (ad119.add ((x3_1).toNat * 7)).off + 5, none⟩ = some (.int .i64 ((rd_T26 l0 x3_1).f2.f3)) ∧ w'.cell? ⟨(ad119.add ((x3_1).toNat * 7)).block, (ad119.add ((x3_1).toNat * 7)).off + 6, none⟩ = some (.string ((rd_T26 l0 x3_1).f2.f4)) ∧ w'.cell? (ad119.add ((x3_1).toNat * 7)) = some (.int .i64 ((rd_T26 l0 x3_1).f0)) ∧ w'.cell? ⟨(ad119.add ((x3_1).toNat * 7)).block, (ad119.add ((x3_1).toNat * 7)).off + 1, none⟩ = some (.int .i64 ((rd_T26 l0 x3_1).f1)) ∧ w'.cell? ⟨(ad119.add ((x3_1).toNat * 7)).block, (ad119.add ((x3_1).toNat * 7)).off + 2, none⟩ = some (.int .i64 ((rd_T26 l0 x3_1).f2.f0)) ∧ w'.cell? ⟨(ad119.add ((x3_1).toNat * 7)).block, (ad119.add ((x3_1).toNat * 7)).off + 3, none⟩ = some (.int .i64 ((rd_T26 l0 x3_1).f2.f1)) ∧ w'.cell? ⟨(ad119.add ((x3_1).toNat * 7)).block, (ad119.add ((x3_1).toNat * 7)).off + 4, none⟩ = some (.int .i64 ((rd_T26 l0 x3_1).f2.f2)) ∧ w'.cell? ⟨(ad119.add ((x3_1).toNat * 7)).block, (ad119.add ((x3_1).toNat * 7)).off + 5, none⟩ = some (.int .i64 ((rd_T26 l0 x3_1).f2.f3)) ∧ w'.cell? ⟨(ad119.add ((x3_1).toNat * 7)).block, (ad119.add ((x3_1).toNat * 7)).off + 6, none⟩ = some (.string ((rd_T26 l0 x3_1).f2.f4)) ∧ w'.cell? (ad119.add ((x3_1).toNat * 7)) = some (.int .i64 ((rd_T26 l0 x3_1).f0)) ∧ w'.cell? ⟨(ad119.add ((x3_1).toNat * 7)).block, (ad119.add ((x3_1).toNat * 7)).off + 1, none⟩ = some (.int .i64 ((rd_T26 l0 x3_1).f1)) ∧ w'.cell? ⟨(ad119.add ((x3_1).toNat * 7)).block, (ad119.add ((x3_1).toNat * 7)).off + 2, none⟩ = some (.int .i64 ((rd_T26 l0 x3_1).f2.f0)) ∧ w'.cell? ⟨(ad119.add ((x3_1).toNat * 7)).block, (ad119.add ((x3_1).toNat * 7)).off + 3, none⟩ = some (.int .i64 ((rd_T26 l0 x3_1).f2.f1)) ∧ w'.cell? ⟨(ad119.add ((x3_1).toNat * 7)).block, (ad119.add ((x3_1).toNat * 7)).off + 4, none⟩ = some (.int .i64 ((rd_T26 l0 x3_1).f2.f2)) ∧ w'.cell? ⟨(ad119.add ((x3_1).toNat * 7)).block, (ad119.add ((x3_1).toNat * 7)).off + 5, none⟩ = some (.int .i64 ((rd_T26 l0 x3_1).f2.f3)) ∧ w'.cell? ⟨(ad119.add ((x3_1).toNat * 7)).block, (ad119.add ((x3_1).toNat * 7)).off + 6, none⟩ = some (.string ((rd_T26 l0 x3_1).f2.f4))) (ds := []) (tf 0 24) (by kernel_rfl) rfl rfl ⟨(bcellD HB hw119_0), (bcellD HB hw119_1), (bcellD HB hw119_2), (bcellD HB hw119_3), (bcellD HB hw119_4), (bcellD HB hw119_5), (bcellD HB hw119_6), (bcellD HB hw121_0), (bcellD HB hw121_1), (bcellD HB hw121_2), (bcellD HB hw121_3), (bcellD HB hw121_4), (bcellD HB hw121_5), (bcellD HB hw121_6), (bcellD HB hw126_0), (bcellD HB hw126_1), (bcellD HB hw126_2), (bcellD HB hw126_3), (bcellD HB hw126_4), (bcellD HB hw126_5), (bcellD HB hw126_6)⟩ (fun hHeld => ?_); refine with_tabW spec_LogOk.tab4 spec_LogOk.bits4 (fun HT_ HW_ => ?_)
        generalize wr.drew = w13 at HB hx119_0 hx119_1 hx119_2 hx119_3 hx119_4 hx119_5 hx119_6 hx121_0 hx121_1 hx121_2 hx121_3 hx121_4 hx121_5 hx121_6 hx126_0 hx126_1 hx126_2 hx126_3 hx126_4 hx126_5 hx126_6 hHeld ⊢
        refine pure_ (i := 0) (N := some 10) (tf 1 23) rfl rfl (anA HT_) (fun _ _ _ h => h) yldA putA ?_
        refine pure_ (i := 1) (N := some 11) (tf 2 22) rfl rfl (anA HT_) (fun _ _ _ h => h) yldA putA ?_
        refine pure_ (i := 2) (N := some 12) (tf 3 21) rfl rfl (anA HT_) (fun _ _ _ h => h) yldA putA ?_
        refine take_ (i := 3) (N := some 13) (tf 4 20) rfl rfl (take_ofW HT_.out HW_.out (by kernel_rfl)) (fun _ _ _ h => h) (Or.inl ⟨by rfl, by rintro w' ⟨s0, s1, s2, s3, s4, s5, s6, s7, s8, s9, s10, s11, s12, s13, s14, s15, s16, s17, s18, s19, s20⟩; go_simp; with_reducible rfl⟩) hHeld putA ?_
        refine one_ (i := 4) (N := some 14) (tf 5 19) rfl rfl (one_of HT_.out (by kernel_rfl)) (by decide) (fun K hK => ?_)
        refine goes_ Tryd.func14 (by kernel_rfl) rfl #[.agg #[.int .i64 ((rd_T26 l0 x3_1).f0), .int .i64 ((rd_T26 l0 x3_1).f1), .int .i64 ((rd_T26 l0 x3_1).f2.f0), .int .i64 ((rd_T26 l0 x3_1).f2.f1), .int .i64 ((rd_T26 l0 x3_1).f2.f2), .int .i64 ((rd_T26 l0 x3_1).f2.f3), .string ((rd_T26 l0 x3_1).f2.f4)]] (by rfl) rfl rfl argsA ?_
        with_reducible refine (spec_EntryOk.calls k1 ((rd_T26 l0 x3_1).f0) ((rd_T26 l0 x3_1).f1) ((rd_T26 l0 x3_1).f2.f0) ((rd_T26 l0 x3_1).f2.f1) ((rd_T26 l0 x3_1).f2.f2) ((rd_T26 l0 x3_1).f2.f3) ((rd_T26 l0 x3_1).f2.f4) true _ A4.out).mono ?_
        rintro e w14 ⟨rfl, hb⟩
        refine ⟨_, rfl, ?_⟩
        have n0_ := Aside0.mk (below_step belowA hb)
        clear HB
        have HB := n0_
        clear n0_
        (try clear hb)
        (try clear hb2)
        (try clear hk)
        (try clear hi)
        have q15 : (x3_1 : Int) ≤ ((l0.length : Int) : Int) := of_decide_eq_true (by first | (with_reducible assumption) | assumption)
        obtain ⟨i015, hi015, _, hsz15, _⟩ := info_parts info26
        have hroom15 : l0.length ≤ c0 := HC0.out
        have hC15 : Kd.C k26 _ (some ad119) l0.length l0 := HR0.out
        have hcut15 := cut_to (P := Tryd.prog) 33 26 .i64 Tryd.underlying33 hi015 (some ad119) l0.length c0 x3_1 (of_decide_eq_true (by first | (with_reducible assumption) | assumption)) q15 hroom15
        have hr15 := Kd.C_take (m := (x3_1 : Int).toNat) hC15 (by omega)
        have hy15 : y122.length = (x3_1 : Int).toNat := (by rw [Ny122.out, List.length_take]; omega)
        rw [← Ny122.out] at hr15
        rw [← hy15] at hcut15
        have HR125 := Aside0.mk hr15
        have HC125 := Aside0.mk (show y122.length ≤ c0 from by omega)
        clear hr15 hC15 hroom15 hi015 hsz15
        have KY15 := Aside0.mk hy15
        clear hy15
        replace q15 := eq_true q15
        refine hK.out _ _ ⟨(bcellD HB hw119_0), (bcellD HB hw119_1), (bcellD HB hw119_2), (bcellD HB hw119_3), (bcellD HB hw119_4), (bcellD HB hw119_5), (bcellD HB hw119_6), (bcellD HB hw121_0), (bcellD HB hw121_1), (bcellD HB hw121_2), (bcellD HB hw121_3), (bcellD HB hw121_4), (bcellD HB hw121_5), (bcellD HB hw121_6), (bcellD HB hw126_0), (bcellD HB hw126_1), (bcellD HB hw126_2), (bcellD HB hw126_3), (bcellD HB hw126_4), (bcellD HB hw126_5), (bcellD HB hw126_6)⟩ (fun hHeld => ?_)
        clear hK K
        refine norm_ (a' := ?_) ?_ ?_
        rotate_left
        ·show Act.put _ (some 14) _ = _
         simp only [Act.put, List.setIfInBounds_toArray, List.set_cons_zero, List.set_cons_succ, i64_w, i32_w]
         rfl
        refine pure_ (i := 5) (N := some 15) (tf 6 18) rfl rfl (anA HT_) (fun _ _ _ h => h) yldA putA ?_
        refine pure_ (i := 6) (N := some 16) (tf 7 17) rfl rfl (anA HT_) (fun _ _ _ h => h) yldA putA ?_
        refine pure_ (i := 7) (N := some 17) (tf 8 16) rfl rfl (anA HT_) (fun _ _ _ h => h) yldA putA ?_
        refine pure_ (i := 8) (N := some 18) (tf 9 15) rfl rfl (anA HT_) (fun _ _ _ h => h) yldA putA ?_
        refine pure_ (i := 9) (N := some 19) (tf 10 14) rfl rfl (anA HT_) (fun _ _ _ h => h) yldA putA ?_
        refine pure_ (i := 10) (N := some 20) (tf 11 13) rfl rfl (anA HT_) (fun _ _ _ h => h) yldA putA ?_
        refine pure_ (i := 12) (N := some 22) #[true, true, true, true, true, true, true, true, true, true, true, false, true, false, false, false, false, false, false, false, false, false, false, false] rfl rfl (anA HT_) (fun _ _ _ h => h) yldA putA ?_
        refine pure_ (i := 13) (N := some 23) #[true, true, true, true, true, true, true, true, true, true, true, false, true, true, false, false, false, false, false, false, false, false, false, false] rfl rfl (anA HT_) (fun _ _ _ h => h) yldA putA ?_
        refine pure_ (i := 14) (N := some 24) #[true, true, true, true, true, true, true, true, true, true, true, false, true, true, true, false, false, false, false, false, false, false, false, false] rfl rfl (anA HT_) (fun _ _ _ h => h) yldA putA ?_
        refine pure_ (i := 15) (N := some 25) #[true, true, true, true, true, true, true, true, true, true, true, false, true, true, true, true, false, false, false, false, false, false, false, false] rfl rfl (anA HT_) (fun _ _ _ h => h) yldA putA ?_
        refine pure_ (i := 16) (N := some 26) #[true, true, true, true, true, true, true, true, true, true, true, false, true, true, true, true, true, false, false, false, false, false, false, false] rfl rfl (anA HT_) (fun _ _ _ h => h) yldA putA ?_
        refine pure_ (i := 17) (N := some 27) #[true, true, true, true, true, true, true, true, true, true, true, false, true, true, true, true, true, true, false, false, false, false, false, false] rfl rfl (anA HT_) (fun _ _ _ h => h) yldA putA ?_
        refine pure_ (i := 18) (N := some 28) #[true, true, true, true, true, true, true, true, true, true, true, false, true, true, true, true, true, true, true, false, false, false, false, false] rfl rfl (anA HT_) (fun _ _ _ h => h) yldA putA ?_
        refine take_ (i := 11) (N := some 21) (tf 19 5) rfl rfl (take_ofW HT_.out HW_.out (by kernel_rfl)) (fun _ _ _ h => h) (Or.inl ⟨by rfl, by rintro w' ⟨s0, s1, s2, s3, s4, s5, s6, s7, s8, s9, s10, s11, s12, s13, s14, s15, s16, s17, s18, s19, s20⟩; go_simp; with_reducible rfl⟩) hHeld putA ?_
        refine take_ (i := 19) (N := some 29) (tf 20 4) rfl rfl (take_ofW HT_.out HW_.out (by kernel_rfl)) (fun _ _ _ h => h) (Or.inl ⟨by rfl, by rintro w' ⟨s0, s1, s2, s3, s4, s5, s6, s7, s8, s9, s10, s11, s12, s13, s14, s15, s16, s17, s18, s19, s20⟩; go_simp; with_reducible rfl⟩) hHeld putA ?_
        refine one_ (i := 20) (N := some 30) (tf 21 3) rfl rfl (one_of HT_.out (by kernel_rfl)) (by decide) (fun K hK => ?_)
        refine goes_ Tryd.func45 (by kernel_rfl) rfl #[.slice (some ad119) y122.length c0, .int .i64 ((rd_T26 l0 x3_1).f0)] (by rfl) rfl rfl argsA ?_
        with_reducible refine (spec_l12Seq.calls k1 _ _ y122 ((rd_T26 l0 x3_1).f0) t127 _ ?side1 ?side2 A8.out).mono ?_
        (case side1 => exact CA (Kd.C_below HR125.out HB.out))
        (case side2 => exact HC125.out)
        rintro e w' ⟨rfl, ⟨nd, rfl⟩⟩
        refine ⟨_, rfl, ?_⟩
        refine hK.out _ _ ⟨(bcellD HB hw119_0), (bcellD HB hw119_1), (bcellD HB hw119_2), (bcellD HB hw119_3), (bcellD HB hw119_4), (bcellD HB hw119_5), (bcellD HB hw119_6), (bcellD HB hw121_0), (bcellD HB hw121_1), (bcellD HB hw121_2), (bcellD HB hw121_3), (bcellD HB hw121_4), (bcellD HB hw121_5), (bcellD HB hw121_6), (bcellD HB hw126_0), (bcellD HB hw126_1), (bcellD HB hw126_2), (bcellD HB hw126_3), (bcellD HB hw126_4), (bcellD HB hw126_5), (bcellD HB hw126_6)⟩ (fun hHeld => ?_)
        clear hK K
        refine norm_ (a' := ?_) ?_ ?_
        rotate_left
        ·show Act.put _ (some 30) _ = _
         simp only [Act.put, List.setIfInBounds_toArray, List.set_cons_zero, List.set_cons_succ, i64_w, i32_w]
         rfl
        refine pure_ (i := 21) (N := some 31) (tf 22 2) rfl rfl (anA HT_) (fun _ _ _ h => h) yldA putA ?_
        refine pure_ (i := 22) (N := some 32) (tf 23 1) rfl rfl (anA HT_) (fun _ _ _ h => h) yldA putA ?_
        refine pure_ (i := 23) (N := some 33) (tf 24 0) rfl rfl (anA HT_) (fun _ _ _ h => h) yldA putA ?_
        refine done_ (done_of HT_.out (by kernel_rfl)) ?_
        try go_wp2
        go_ret
        exact ⟨endA, belowA⟩
      ·rw [if_neg c7] at H
       exact absurd H (by simp)
     ·replace c5 := Bool.eq_false_iff.mpr c5
      subst c5
      have H1 : (some false) = some r := by rw [if_neg (show ¬ (false = true) by decide)] at H; exact H
      clear H
      have H := H1
      clear H1
      obtain rfl := Option.some.inj H
      try go_wp2
      have n0_ := Aside0.mk (below_drew1 HB.out)
      clear HB
      have HB := n0_
      clear n0_
      have p119 : 0 ≤ (x3_1 : Int) := of_decide_eq_true (by first | (with_reducible assumption) | assumption)
      have q119 : x3_1 < (l0.length : Int) := of_decide_eq_true (by first | (with_reducible assumption) | assumption)
      obtain ⟨ad119, e119, hx119_0, hx119_1, hx119_2, hx119_3, hx119_4, hx119_5, hx119_6⟩ := at_T26 HR0.out x3_1 p119 q119
      have hw119_6 := hx119_6
      have hw119_5 := hx119_5
      have hw119_4 := hx119_4
      have hw119_3 := hx119_3
      have hw119_2 := hx119_2
      have hw119_1 := hx119_1
      have hw119_0 := hx119_0
      cases e119
      replace hx119_0 := bcell HB hx119_0
      replace hx119_1 := bcell HB hx119_1
      replace hx119_2 := bcell HB hx119_2
      replace hx119_3 := bcell HB hx119_3
      replace hx119_4 := bcell HB hx119_4
      replace hx119_5 := bcell HB hx119_5
      replace hx119_6 := bcell HB hx119_6
      replace p119 := eq_true p119
      replace q119 := eq_true q119
      refine start_ (n := 24) (S := fun w' => w'.cell? (ad119.add ((x3_1).toNat * 7)) = some (.int .i64 ((rd_T26 l0 x3_1).f0)) ∧ w'.cell? ⟨(ad119.add ((x3_1).toNat * 7)).block, (ad119.add ((x3_1).toNat * 7)).off + 1, none⟩ = some (.int .i64 ((rd_T26 l0 x3_1).f1)) ∧ w'.cell? ⟨(ad119.add ((x3_1).toNat * 7)).block, (ad119.add ((x3_1).toNat * 7)).off + 2, none⟩ = some (.int .i64 ((rd_T26 l0 x3_1).f2.f0)) ∧ w'.cell? ⟨(ad119.add ((x3_1).toNat * 7)).block, (ad119.add ((x3_1).toNat * 7)).off + 3, none⟩ = some (.int .i64 ((rd_T26 l0 x3_1).f2.f1)) ∧ w'.cell? ⟨(ad119.add ((x3_1).toNat * 7)).block, (ad119.add ((x3_1).toNat * 7)).off + 4, none⟩ = some (.int .i64 ((rd_T26 l0 x3_1).f2.f2)) ∧ w'.cell? ⟨(ad119.add ((x3_1).toNat * 7)).block, (ad119.add ((x3_1).toNat * 7)).off + 5, none⟩ = some (.int .i64 ((rd_T26 l0 x3_1).f2.f3)) ∧ w'.cell? ⟨(ad119.add ((x3_1).toNat * 7)).block, (ad119.add ((x3_1).toNat * 7)).off + 6, none⟩ = some (.string ((rd_T26 l0 x3_1).f2.f4))) (ds := []) (tf 0 24) (by kernel_rfl) rfl rfl ⟨(bcellD HB hw119_0), (bcellD HB hw119_1), (bcellD HB hw119_2), (bcellD HB hw119_3), (bcellD HB hw119_4), (bcellD HB hw119_5), (bcellD HB hw119_6)⟩ (fun hHeld => ?_); refine with_tabW spec_LogOk.tab4 spec_LogOk.bits4 (fun HT_ HW_ => ?_)
      generalize wr.drew = w16 at HB hx119_0 hx119_1 hx119_2 hx119_3 hx119_4 hx119_5 hx119_6 hHeld ⊢
      refine pure_ (i := 0) (N := some 10) (tf 1 23) rfl rfl (anA HT_) (fun _ _ _ h => h) yldA putA ?_
      refine pure_ (i := 1) (N := some 11) (tf 2 22) rfl rfl (anA HT_) (fun _ _ _ h => h) yldA putA ?_
      refine pure_ (i := 2) (N := some 12) (tf 3 21) rfl rfl (anA HT_) (fun _ _ _ h => h) yldA putA ?_
      refine take_ (i := 3) (N := some 13) (tf 4 20) rfl rfl (take_ofW HT_.out HW_.out (by kernel_rfl)) (fun _ _ _ h => h) (Or.inl ⟨by rfl, by rintro w' ⟨s0, s1, s2, s3, s4, s5, s6⟩; go_simp; with_reducible rfl⟩) hHeld putA ?_
      refine one_ (i := 4) (N := some 14) (tf 5 19) rfl rfl (one_of HT_.out (by kernel_rfl)) (by decide) (fun K hK => ?_)
      refine goes_ Tryd.func14 (by kernel_rfl) rfl #[.agg #[.int .i64 ((rd_T26 l0 x3_1).f0), .int .i64 ((rd_T26 l0 x3_1).f1), .int .i64 ((rd_T26 l0 x3_1).f2.f0), .int .i64 ((rd_T26 l0 x3_1).f2.f1), .int .i64 ((rd_T26 l0 x3_1).f2.f2), .int .i64 ((rd_T26 l0 x3_1).f2.f3), .string ((rd_T26 l0 x3_1).f2.f4)]] (by rfl) rfl rfl argsA ?_
      with_reducible refine (spec_EntryOk.calls k1 ((rd_T26 l0 x3_1).f0) ((rd_T26 l0 x3_1).f1) ((rd_T26 l0 x3_1).f2.f0) ((rd_T26 l0 x3_1).f2.f1) ((rd_T26 l0 x3_1).f2.f2) ((rd_T26 l0 x3_1).f2.f3) ((rd_T26 l0 x3_1).f2.f4) false _ A4.out).mono ?_
      rintro e w17 ⟨rfl, hb⟩
      refine ⟨_, rfl, ?_⟩
      have n0_ := Aside0.mk (below_step belowA hb)
      clear HB
      have HB := n0_
      clear n0_
      (try clear hb)
      (try clear hb2)
      (try clear hk)
      (try clear hi)
      refine hK.out _ _ ⟨(bcellD HB hw119_0), (bcellD HB hw119_1), (bcellD HB hw119_2), (bcellD HB hw119_3), (bcellD HB hw119_4), (bcellD HB hw119_5), (bcellD HB hw119_6)⟩ (fun hHeld => ?_)
      clear hK K
      refine norm_ (a' := ?_) ?_ ?_
      rotate_left
      ·show Act.put _ (some 14) _ = _
       simp only [Act.put, List.setIfInBounds_toArray, List.set_cons_zero, List.set_cons_succ, i64_w, i32_w]
       rfl
      refine pure_ (i := 5) (N := some 15) (tf 6 18) rfl rfl (anA HT_) (fun _ _ _ h => h) yldA putA ?_
      refine pure_ (i := 6) (N := some 16) (tf 7 17) rfl rfl (anA HT_) (fun _ _ _ h => h) yldA putA ?_
      refine pure_ (i := 7) (N := some 17) (tf 8 16) rfl rfl (anA HT_) (fun _ _ _ h => h) yldU putA ?_
      refine pure_ (i := 8) (N := some 18) (tf 9 15) rfl rfl (anA HT_) (fun _ _ _ h => h) yldU putA ?_
      refine pure_ (i := 9) (N := some 19) (tf 10 14) rfl rfl (anA HT_) (fun _ _ _ h => h) yldU putA ?_
      refine pure_ (i := 10) (N := some 20) (tf 11 13) rfl rfl (anA HT_) (fun _ _ _ h => h) yldU putA ?_
      refine pure_ (i := 11) (N := some 21) (tf 12 12) rfl rfl (anA HT_) (fun _ _ _ h => h) yldU putA ?_
      refine pure_ (i := 12) (N := some 22) (tf 13 11) rfl rfl (anA HT_) (fun _ _ _ h => h) yldU putA ?_
      refine pure_ (i := 13) (N := some 23) (tf 14 10) rfl rfl (anA HT_) (fun _ _ _ h => h) yldU putA ?_
      refine pure_ (i := 14) (N := some 24) (tf 15 9) rfl rfl (anA HT_) (fun _ _ _ h => h) yldU putA ?_
      refine pure_ (i := 15) (N := some 25) (tf 16 8) rfl rfl (anA HT_) (fun _ _ _ h => h) yldU putA ?_
      refine pure_ (i := 16) (N := some 26) (tf 17 7) rfl rfl (anA HT_) (fun _ _ _ h => h) yldU putA ?_
      refine pure_ (i := 17) (N := some 27) (tf 18 6) rfl rfl (anA HT_) (fun _ _ _ h => h) yldU putA ?_
      refine pure_ (i := 18) (N := some 28) (tf 19 5) rfl rfl (anA HT_) (fun _ _ _ h => h) yldU putA ?_
      refine pure_ (i := 19) (N := some 29) (tf 20 4) rfl rfl (anA HT_) (fun _ _ _ h => h) yldU putA ?_
      refine pure_ (i := 20) (N := some 30) (tf 21 3) rfl rfl (anA HT_) (fun _ _ _ h => h) yldU putA ?_
      refine pure_ (i := 21) (N := some 31) (tf 22 2) rfl rfl (anA HT_) (fun _ _ _ h => h) yldU putA ?_
      refine pure_ (i := 22) (N := some 32) (tf 23 1) rfl rfl (anA HT_) (fun _ _ _ h => h) yldU putA ?_
      refine pure_ (i := 23) (N := some 33) (tf 24 0) rfl rfl (anA HT_) (fun _ _ _ h => h) yldA putA ?_
      refine done_ (done_of HT_.out (by kernel_rfl)) ?_
      try go_wp2
      go_ret
      exact ⟨endA, belowA⟩
    ·rw [if_neg c3] at H
     exact absurd H (by simp)
   ·rw [if_neg c2] at H
    have c2b0 : decide (x3_1 < (l0.length : Int)) = false := decide_eq_false c2
    clear c2
    obtain rfl := Option.some.inj H
    go_wp2
    go_ret
    exact ⟨endA, belowA⟩
def spec_l12Has.l0 : Nat → List (S26) → Int → Int → Int → Int → Int → Int → Int → ByteArray → Option (Bool)
 | 0, _, _, _, _, _, _, _, _, _ => none
 | k + 1, x0, x5, x129000, x129001, x129002, x129003, x129004, x129005, x129006 => if x5 < (x0.length : Int) then (if 0 ≤ x5 then (if (((rd_T26 x0 x5).f0) == x129000 && (((rd_T26 x0 x5).f1) == x129001 && ((((rd_T26 x0 x5).f2.f0) == x129002 && (((rd_T26 x0 x5).f2.f1) == x129003 && (((rd_T26 x0 x5).f2.f2) == x129004 && (((rd_T26 x0 x5).f2.f3) == x129005 && ((((rd_T26 x0 x5).f2.f4).toList) == x129006.toList)))))))) = true then (some true) else (spec_l12Has.l0 k x0 (wrap64 (x5 + 1)) x129000 x129001 x129002 x129003 x129004 x129005 x129006)) else (none)) else (some false)
def spec_l12Has.f (k : Nat) (l0 : List (S26)) (a1_0 : Int) (a1_1 : Int) (a1_2 : Int) (a1_3 : Int) (a1_4 : Int) (a1_5 : Int) (a1_6 : ByteArray) : Option (Bool) := spec_l12Has.l0 k l0 0 a1_0 a1_1 a1_2 a1_3 a1_4 a1_5 a1_6
theorem spec_l12Has.mono_l : ∀ k, (∀ y0 y1 y2 y3 y4 y5 y6 y7 y8, LeO (spec_l12Has.l0 k y0 y1 y2 y3 y4 y5 y6 y7 y8) (spec_l12Has.l0 (k + 1) y0 y1 y2 y3 y4 y5 y6 y7 y8))
 | 0 => fun _ _ _ _ _ _ _ _ _ r h => by simp [spec_l12Has.l0] at h
 | k + 1 => by
  have ih0 := spec_l12Has.mono_l k
  ·intro y0 y1 y2 y3 y4 y5 y6 y7 y8
   unfold spec_l12Has.l0
   repeat' first
   | (with_reducible exact ih0 _ _ _ _ _ _ _ _ _)
   | (with_reducible exact LeO.refl _)
   | (with_reducible exact LeO.none _)
   | (with_reducible refine LeO.ite ?_ ?_)
   | (with_reducible refine LeO.bind ?_ (fun _ => ?_))
   | exact ih0 _ _ _ _ _ _ _ _ _
   | exact LeO.none _
   | refine LeO.ite ?_ ?_
   | refine LeO.bind ?_ (fun _ => ?_)
theorem spec_l12Has.mono : ∀ a0 a1 a2 a3 a4 a5 a6 a7 k, LeO (spec_l12Has.f k a0 a1 a2 a3 a4 a5 a6 a7) (spec_l12Has.f (k + 1) a0 a1 a2 a3 a4 a5 a6 a7) := by
 intro a0 a1 a2 a3 a4 a5 a6 a7 k
 have ih0 := spec_l12Has.mono_l k
 unfold spec_l12Has.f
 repeat' first
   | (with_reducible exact ih0 _ _ _ _ _ _ _ _ _)
   | (with_reducible exact LeO.refl _)
   | (with_reducible exact LeO.none _)
   | (with_reducible refine LeO.ite ?_ ?_)
   | (with_reducible refine LeO.bind ?_ (fun _ => ?_))
   | exact ih0 _ _ _ _ _ _ _ _ _
   | exact LeO.none _
   | refine LeO.ite ?_ ?_
   | refine LeO.bind ?_ (fun _ => ?_)
set_option maxHeartbeats 8000000 in
set_option maxRecDepth 100000 in
theorem spec_l12Has.calls (k : Nat) (A0 : Option Addr) (c0 : Nat) (l0 : List (S26)) (a1_0 : Int) (a1_1 : Int) (a1_2 : Int) (a1_3 : Int) (a1_4 : Int) (a1_5 : Int) (a1_6 : ByteArray) (r : Bool) (w : World) (hr0 : Kd.C k26 w A0 l0.length l0) (hc0 : l0.length ≤ c0) (h : spec_l12Has.f k l0 a1_0 a1_1 a1_2 a1_3 a1_4 a1_5 a1_6 = some r) :
  Calls Tryd.prog 62 #[.slice A0 l0.length c0, .agg #[.int .i64 a1_0, .int .i64 a1_1, .int .i64 a1_2, .int .i64 a1_3, .int .i64 a1_4, .int .i64 a1_5, .string a1_6]] w fun e w' => e = .returned (.bool r) ∧ Below w.heap.size w w' := by
 have hu26 := Tryd.underlying26
 have HR0 := Aside0.mk hr0
 have HC0 := Aside0.mk hc0
 clear hr0 hc0
 have HB := Aside0.mk (Below.refl w.heap.size w)
 have H : (spec_l12Has.l0 k l0 0 a1_0 a1_1 a1_2 a1_3 a1_4 a1_5 a1_6) = some r := h
 clear h
 have H' := Aside0.mk H
 clear H
 go_enter Tryd.func62, Tryd.ntmps62
 go_wp2_with (first | ((with_reducible refine gate_dst (N := 3) rfl ?_); refine box_event ?hg (N := 3) ?hd (cs := #[.int .i64 a1_0, .int .i64 a1_1, .int .i64 a1_2, .int .i64 a1_3, .int .i64 a1_4, .int .i64 a1_5, .string a1_6]) (t := 26) ?hr ?_; (case hd => rfl); (case hg => rfl); (case hr => first | (go_simp; done) | (go_simp; rfl)); intro gb128 hg w3 hbox hb; have n0_ := Aside0.mk (below_step belowA hb); have n1_ := Aside0.mk (hbox); have n2_ := Aside0.mk ((by rw [hg]; exact (below_size belowA) : w.heap.size ≤ gb128)); have n3_ := Aside0.mk ((by rw [hg]; exact (below_size belowA) : w.heap.size ≤ gb128)); clear HB; have HB := n0_; have BK128 := n1_; have GW128 := n2_; have GE128 := n3_; clear n0_ n1_ n2_ n3_; clear hb hbox hg))
 repeat (go_quiet (first | ((with_reducible refine gate_dst (N := 3) rfl ?_); refine box_event ?hg (N := 3) ?hd (cs := #[.int .i64 a1_0, .int .i64 a1_1, .int .i64 a1_2, .int .i64 a1_3, .int .i64 a1_4, .int .i64 a1_5, .string a1_6]) (t := 26) ?hr ?_; (case hd => rfl); (case hg => rfl); (case hr => first | (go_simp; done) | (go_simp; rfl)); intro gb128 hg w3 hbox hb; have n0_ := Aside0.mk (below_step belowA hb); have n1_ := Aside0.mk (hbox); have n2_ := Aside0.mk ((by rw [hg]; exact (below_size belowA) : w.heap.size ≤ gb128)); have n3_ := Aside0.mk ((by rw [hg]; exact (below_size belowA) : w.heap.size ≤ gb128)); clear HB; have HB := n0_; have BK128 := n1_; have GW128 := n2_; have GE128 := n3_; clear n0_ n1_ n2_ n3_; clear hb hbox hg)); try go_wp2_with (first | ((with_reducible refine gate_dst (N := 3) rfl ?_); refine box_event ?hg (N := 3) ?hd (cs := #[.int .i64 a1_0, .int .i64 a1_1, .int .i64 a1_2, .int .i64 a1_3, .int .i64 a1_4, .int .i64 a1_5, .string a1_6]) (t := 26) ?hr ?_; (case hd => rfl); (case hg => rfl); (case hr => first | (go_simp; done) | (go_simp; rfl)); intro gb128 hg w3 hbox hb; have n0_ := Aside0.mk (below_step belowA hb); have n1_ := Aside0.mk (hbox); have n2_ := Aside0.mk ((by rw [hg]; exact (below_size belowA) : w.heap.size ≤ gb128)); have n3_ := Aside0.mk ((by rw [hg]; exact (below_size belowA) : w.heap.size ≤ gb128)); clear HB; have HB := n0_; have BK128 := n1_; have GW128 := n2_; have GE128 := n3_; clear n0_ n1_ n2_ n3_; clear hb hbox hg)))
 go_loopg [5] k (fun kq v5 w' => ∃ (x5_1 : Int), v5 = .int .i64 x5_1 ∧ Aside0 (spec_l12Has.l0 kq l0 x5_1 a1_0 a1_1 a1_2 a1_3 a1_4 a1_5 a1_6 = some r) ∧ Aside0 (kq ≤ k) ∧ Aside0 (w'.heap[gb128]? = some (.cells #[.int .i64 a1_0, .int .i64 a1_1, .int .i64 a1_2, .int .i64 a1_3, .int .i64 a1_4, .int .i64 a1_5, .string a1_6] 26 (0, 0))) ∧ Aside0 (Below w.heap.size w w'))
 case atStart => exact ⟨(0), (by first | rfl | (simp; done) | (simp [*]; done)), H', ⟨Nat.le_refl _⟩, ⟨by (with_reducible repeat (first | refine blk_drewN ?_ _ | refine blk_drew ?_ | refine blk_alloc ?_ _)); exact BK128.out⟩, ⟨belowA⟩⟩
 case round =>
  clear H'
  try clear p2
  obtain ⟨x5_1, rfl, HA, HK1, BK128, HB⟩ := hrel
  cases gk with
  | zero => exact absurd HA.out (by simp [spec_l12Has.l0])
  | succ k1 =>
   have H := HA.out
   clear HA
   simp only [spec_l12Has.l0] at H
   by_cases c4 : x5_1 < (l0.length : Int)
   ·rw [if_pos c4] at H
    have c4b0 : decide (x5_1 < (l0.length : Int)) = true := decide_eq_true c4
    clear c4
    by_cases c5 : 0 ≤ x5_1
    ·rw [if_pos c5] at H
     have c5b0 : decide (0 ≤ x5_1) = true := decide_eq_true c5
     clear c5
     by_cases c6 : (((rd_T26 l0 x5_1).f0) == a1_0 && (((rd_T26 l0 x5_1).f1) == a1_1 && ((((rd_T26 l0 x5_1).f2.f0) == a1_2 && (((rd_T26 l0 x5_1).f2.f1) == a1_3 && (((rd_T26 l0 x5_1).f2.f2) == a1_4 && (((rd_T26 l0 x5_1).f2.f3) == a1_5 && ((((rd_T26 l0 x5_1).f2.f4).toList) == a1_6.toList)))))))) = true
     ·rw [if_pos c6] at H
      have c6b0 : (((rd_T26 l0 x5_1).f0) == a1_0 && (((rd_T26 l0 x5_1).f1) == a1_1 && ((((rd_T26 l0 x5_1).f2.f0) == a1_2 && (((rd_T26 l0 x5_1).f2.f1) == a1_3 && (((rd_T26 l0 x5_1).f2.f2) == a1_4 && (((rd_T26 l0 x5_1).f2.f3) == a1_5 && ((((rd_T26 l0 x5_1).f2.f4).toList) == a1_6.toList)))))))) = true := c6
      (try (have c6b1 : decide (((rd_T26 l0 x5_1).f0) = a1_0 && (((rd_T26 l0 x5_1).f1) == a1_1 && ((((rd_T26 l0 x5_1).f2.f0) == a1_2 && (((rd_T26 l0 x5_1).f2.f1) == a1_3 && (((rd_T26 l0 x5_1).f2.f2) == a1_4 && (((rd_T26 l0 x5_1).f2.f3) == a1_5 && ((((rd_T26 l0 x5_1).f2.f4).toList) == a1_6.toList)))))))) = true := by simpa using c6))
      (try (have c6b2 : (((rd_T26 l0 x5_1).f0) == a1_0 && (((rd_T26 l0 x5_1).f1) == a1_1 && ((((rd_T26 l0 x5_1).f2.f0) == a1_2 && (((rd_T26 l0 x5_1).f2.f1) == a1_3 && (((rd_T26 l0 x5_1).f2.f2) == a1_4 && (((rd_T26 l0 x5_1).f2.f3) == a1_5 && ((((rd_T26 l0 x5_1).f2.f4).toList) == a1_6.toList)))))))) = true := by simpa using c6))
      clear c6
      obtain rfl := Option.some.inj H
      have p129 : 0 ≤ (x5_1 : Int) := of_decide_eq_true (by first | (with_reducible assumption) | assumption)
      have q129 : x5_1 < (l0.length : Int) := of_decide_eq_true (by first | (with_reducible assumption) | assumption)
      obtain ⟨ad129, e129, hx129_0, hx129_1, hx129_2, hx129_3, hx129_4, hx129_5, hx129_6⟩ := at_T26 HR0.out x5_1 p129 q129
      cases e129
      replace hx129_0 := bcell HB hx129_0
      replace hx129_1 := bcell HB hx129_1
      replace hx129_2 := bcell HB hx129_2
      replace hx129_3 := bcell HB hx129_3
      replace hx129_4 := bcell HB hx129_4
      replace hx129_5 := bcell HB hx129_5
      replace hx129_6 := bcell HB hx129_6
      replace p129 := eq_true p129
      replace q129 := eq_true q129
      obtain ⟨hcz7_0, hcz7_1, hcz7_2, hcz7_3, hcz7_4, hcz7_5, hcz7_6, hfz7_0, hfz7_1, hfz7_2, hfz7_3, hfz7_4, hfz7_5, hfz7_6⟩ := blk_facts7 BK128.out
      go_wp2
      repeat (go_quiet (fail); try go_wp2)
      go_ret
      exact ⟨endA, belowA⟩
     ·rw [if_neg c6] at H
      have c6b0 : (((rd_T26 l0 x5_1).f0) == a1_0 && (((rd_T26 l0 x5_1).f1) == a1_1 && ((((rd_T26 l0 x5_1).f2.f0) == a1_2 && (((rd_T26 l0 x5_1).f2.f1) == a1_3 && (((rd_T26 l0 x5_1).f2.f2) == a1_4 && (((rd_T26 l0 x5_1).f2.f3) == a1_5 && ((((rd_T26 l0 x5_1).f2.f4).toList) == a1_6.toList)))))))) = false := by simpa using c6
      (try (have c6b1 : decide (((rd_T26 l0 x5_1).f0) = a1_0 && (((rd_T26 l0 x5_1).f1) == a1_1 && ((((rd_T26 l0 x5_1).f2.f0) == a1_2 && (((rd_T26 l0 x5_1).f2.f1) == a1_3 && (((rd_T26 l0 x5_1).f2.f2) == a1_4 && (((rd_T26 l0 x5_1).f2.f3) == a1_5 && ((((rd_T26 l0 x5_1).f2.f4).toList) == a1_6.toList)))))))) = false := by simpa using c6))
      (try (have c6b2 : (((rd_T26 l0 x5_1).f0) == a1_0 && (((rd_T26 l0 x5_1).f1) == a1_1 && ((((rd_T26 l0 x5_1).f2.f0) == a1_2 && (((rd_T26 l0 x5_1).f2.f1) == a1_3 && (((rd_T26 l0 x5_1).f2.f2) == a1_4 && (((rd_T26 l0 x5_1).f2.f3) == a1_5 && ((((rd_T26 l0 x5_1).f2.f4).toList) == a1_6.toList)))))))) = false := by simpa using c6))
      (try (have c6b3 : ¬ (((rd_T26 l0 x5_1).f0) = a1_0 && (((rd_T26 l0 x5_1).f1) == a1_1 && ((((rd_T26 l0 x5_1).f2.f0) == a1_2 && (((rd_T26 l0 x5_1).f2.f1) == a1_3 && (((rd_T26 l0 x5_1).f2.f2) == a1_4 && (((rd_T26 l0 x5_1).f2.f3) == a1_5 && ((((rd_T26 l0 x5_1).f2.f4).toList) == a1_6.toList)))))))) := by simpa using c6))
      clear c6
      have H' := Aside0.mk H
      clear H
      have p129 : 0 ≤ (x5_1 : Int) := of_decide_eq_true (by first | (with_reducible assumption) | assumption)
      have q129 : x5_1 < (l0.length : Int) := of_decide_eq_true (by first | (with_reducible assumption) | assumption)
      obtain ⟨ad129, e129, hx129_0, hx129_1, hx129_2, hx129_3, hx129_4, hx129_5, hx129_6⟩ := at_T26 HR0.out x5_1 p129 q129
      cases e129
      replace hx129_0 := bcell HB hx129_0
      replace hx129_1 := bcell HB hx129_1
      replace hx129_2 := bcell HB hx129_2
      replace hx129_3 := bcell HB hx129_3
      replace hx129_4 := bcell HB hx129_4
      replace hx129_5 := bcell HB hx129_5
      replace hx129_6 := bcell HB hx129_6
      replace p129 := eq_true p129
      replace q129 := eq_true q129
      obtain ⟨hcz8_0, hcz8_1, hcz8_2, hcz8_3, hcz8_4, hcz8_5, hcz8_6, hfz8_0, hfz8_1, hfz8_2, hfz8_3, hfz8_4, hfz8_5, hfz8_6⟩ := blk_facts7 BK128.out
      go_wp2
      repeat (go_quiet (fail); try go_wp2)
      go_roundg k1
      case measure => have := HK1.out; omega
      case rel => exact ⟨(wrap64 (x5_1 + 1)), (by first | rfl | (simp; done) | (simp [*]; done)), H', ⟨by have := HK1.out; omega⟩, ⟨by (with_reducible repeat (first | refine blk_drewN ?_ _ | refine blk_drew ?_ | refine blk_alloc ?_ _)); exact BK128.out⟩, ⟨belowA⟩⟩
    ·rw [if_neg c5] at H
     exact absurd H (by simp)
   ·rw [if_neg c4] at H
    have c4b0 : decide (x5_1 < (l0.length : Int)) = false := decide_eq_false c4
    clear c4
    obtain rfl := Option.some.inj H
    go_wp2
    repeat (go_quiet (fail); try go_wp2)
    go_ret
    exact ⟨endA, belowA⟩
end Go.Proofs.YtlpfjabfhgfpmaaDoor.P
