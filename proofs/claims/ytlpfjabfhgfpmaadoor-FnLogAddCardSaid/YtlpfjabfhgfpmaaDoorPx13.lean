
-- Written by wip/tools/pprint.py (a program of this session) over the kit's printer; not trusted: Lean checks it.
import Derived.Test.YtlpfjabfhgfpmaaDoorPx0
import Derived.Test.YtlpfjabfhgfpmaaDoorPx2
import Derived.Test.YtlpfjabfhgfpmaaDoorPx3
import Derived.Test.YtlpfjabfhgfpmaaDoorPx4
import Derived.Test.YtlpfjabfhgfpmaaDoorPx5
import Derived.Test.YtlpfjabfhgfpmaaDoorPx12
import Derived.Test.YtlpfjabfhgfpmaaDoorV
namespace Go.Proofs.YtlpfjabfhgfpmaaDoor.P
open Go.RowKit Go.Proofs.YtlpfjabfhgfpmaaDoorW.PrintWords Go.Proofs.YtlpfjabfhgfpmaaDoorW.PrintLast Go.Proofs.YtlpfjabfhgfpmaaDoorW.PrintMore
attribute [local go_sem] cell_set_set cell_set_far_set max2_int min2_int max_two min_two max_three min_three max_four min_four   -- for this text's walks alone
set_option linter.unusedVariables false
set_option linter.unusedSimpArgs false
mutual
def laws_FnLogAdd.j0 : Nat → List (S26) → List (S26) → Int → List (S26) → Int → Bool → Int → Int → Int → Int → Int → Int → ByteArray → Option (Bool)
 | 0, _, _, _, _, _, _, _, _, _, _, _, _, _ => none
 | k + 1, x3, x5, x6, x7, x8, x48, x509000, x509001, x509002, x509003, x509004, x509005, x509006 => if x48 = true then (if x8 = x6 then ((laws_lpLog.f k x7 x5).bind fun t520 => (some t520)) else (some false)) else ((laws_lpHas.f k x3 x509000 x509001 x509002 x509003 x509004 x509005 x509006).bind fun t521 => (if t521 = true then (if x8 = 0 then ((laws_lpLog.f k x7 x3).bind fun t522 => (some t522)) else (some false)) else ((impl_LogSeq.f x3 x509000).bind fun t523 => (if x509001 = (wrap64 (t523 + 1)) then (laws_FnLogAdd.j1 k x3 x7 x8 (decide ((x3.length : Int) < 40)) x509000 x509001 x509002 x509003 x509004 x509005 x509006) else (laws_FnLogAdd.j1 k x3 x7 x8 false x509000 x509001 x509002 x509003 x509004 x509005 x509006)))))
def laws_FnLogAdd.j1 : Nat → List (S26) → List (S26) → Int → Bool → Int → Int → Int → Int → Int → Int → ByteArray → Option (Bool)
 | 0, _, _, _, _, _, _, _, _, _, _, _ => none
 | k + 1, x3, x7, x8, x9, x509000, x509001, x509002, x509003, x509004, x509005, x509006 => if x9 = true then (if x8 = 1 then ((some (([] : List (S26)) : List (S26))).bind fun y524 => (if y524.length + x3.length < 2199023255552 then ((some (y524 ++ x3 : List (S26))).bind fun y527 => ((some (([(⟨x509000, x509001, (⟨x509002, x509003, x509004, x509005, x509006⟩ : S24)⟩ : S26)] : List (S26)) : List (S26))).bind fun y530 => (if y527.length + y530.length < 2199023255552 then ((laws_lpLog.f k x7 (y527 ++ y530)).bind fun t536 => (if t536 = true then ((impl_LogOk.f x7).bind fun t537 => (some t537)) else (some false))) else (none)))) else (none))) else (some false)) else (if x8 = (-1) then ((laws_lpLog.f k x7 x3).bind fun t538 => (some t538)) else (some false))
end
def laws_FnLogAdd.f (k : Nat) (l0 : List Int) : Option (Bool) := if (l0.length : Int) > 1048576 then (some true) else ((spec_DrawLogAdd.f k l0).bind fun bt498 => ((spec_LogAdd.f k bt498.1 bt498.2.1 bt498.2.2.1 bt498.2.2.2.1 bt498.2.2.2.2.1 bt498.2.2.2.2.2.1 bt498.2.2.2.2.2.2.1 bt498.2.2.2.2.2.2.2).bind fun bt509 => ((impl_LogAdd.f k bt498.1 bt498.2.1 bt498.2.2.1 bt498.2.2.2.1 bt498.2.2.2.2.1 bt498.2.2.2.2.2.1 bt498.2.2.2.2.2.2.1 bt498.2.2.2.2.2.2.2).bind fun bt513 => (if bt513.2 = bt509.2 then ((laws_lpLog.f k bt513.1 bt509.1).bind fun t517 => (if t517 = true then ((spec_LogOk.f k bt498.1).bind fun t518 => (if t518 = true then ((spec_EntryOk.f k bt498.2.1 bt498.2.2.1 bt498.2.2.2.1 bt498.2.2.2.2.1 bt498.2.2.2.2.2.1 bt498.2.2.2.2.2.2.1 bt498.2.2.2.2.2.2.2).bind fun t519 => (laws_FnLogAdd.j0 k bt498.1 bt509.1 bt509.2 bt513.1 bt513.2 (!t519) bt498.2.1 bt498.2.2.1 bt498.2.2.2.1 bt498.2.2.2.2.1 bt498.2.2.2.2.2.1 bt498.2.2.2.2.2.2.1 bt498.2.2.2.2.2.2.2)) else (laws_FnLogAdd.j0 k bt498.1 bt509.1 bt509.2 bt513.1 bt513.2 true bt498.2.1 bt498.2.2.1 bt498.2.2.2.1 bt498.2.2.2.2.1 bt498.2.2.2.2.2.1 bt498.2.2.2.2.2.2.1 bt498.2.2.2.2.2.2.2))) else (laws_FnLogAdd.j0 k bt498.1 bt509.1 bt509.2 bt513.1 bt513.2 true bt498.2.1 bt498.2.2.1 bt498.2.2.2.1 bt498.2.2.2.2.1 bt498.2.2.2.2.2.1 bt498.2.2.2.2.2.2.1 bt498.2.2.2.2.2.2.2))) else (laws_FnLogAdd.j0 k bt498.1 bt509.1 bt509.2 bt513.1 bt513.2 true bt498.2.1 bt498.2.2.1 bt498.2.2.2.1 bt498.2.2.2.2.1 bt498.2.2.2.2.2.1 bt498.2.2.2.2.2.2.1 bt498.2.2.2.2.2.2.2)))))
theorem laws_FnLogAdd.mono_l : ∀ k, (∀ y0 y1 y2 y3 y4 y5 y6 y7 y8 y9 y10 y11 y12, LeO (laws_FnLogAdd.j0 k y0 y1 y2 y3 y4 y5 y6 y7 y8 y9 y10 y11 y12) (laws_FnLogAdd.j0 (k + 1) y0 y1 y2 y3 y4 y5 y6 y7 y8 y9 y10 y11 y12)) ∧ (∀ y0 y1 y2 y3 y4 y5 y6 y7 y8 y9 y10, LeO (laws_FnLogAdd.j1 k y0 y1 y2 y3 y4 y5 y6 y7 y8 y9 y10) (laws_FnLogAdd.j1 (k + 1) y0 y1 y2 y3 y4 y5 y6 y7 y8 y9 y10))
 | 0 => ⟨fun _ _ _ _ _ _ _ _ _ _ _ _ _ r h => by simp [laws_FnLogAdd.j0] at h, fun _ _ _ _ _ _ _ _ _ _ _ r h => by simp [laws_FnLogAdd.j1] at h⟩
 | k + 1 => by
  obtain ⟨ih0, ih1⟩ := laws_FnLogAdd.mono_l k
  refine ⟨?_, ?_⟩
  ·intro y0 y1 y2 y3 y4 y5 y6 y7 y8 y9 y10 y11 y12
   unfold laws_FnLogAdd.j0
   repeat' first
   | (with_reducible exact ih0 _ _ _ _ _ _ _ _ _ _ _ _ _)
   | (with_reducible exact ih1 _ _ _ _ _ _ _ _ _ _ _)
   | (with_reducible exact impl_LogAdd.mono _ _ _ _ _ _ _ _ _)
   | (with_reducible exact laws_lpHas.mono _ _ _ _ _ _ _ _ _)
   | (with_reducible exact laws_lpLog.mono _ _ _)
   | (with_reducible exact spec_DrawLogAdd.mono _ _)
   | (with_reducible exact spec_EntryOk.mono _ _ _ _ _ _ _ _)
   | (with_reducible exact spec_LogAdd.mono _ _ _ _ _ _ _ _ _)
   | (with_reducible exact spec_LogOk.mono _ _)
   | (with_reducible exact LeO.refl _)
   | (with_reducible exact LeO.none _)
   | (with_reducible refine LeO.ite ?_ ?_)
   | (with_reducible refine LeO.bind ?_ (fun _ => ?_))
   | exact ih0 _ _ _ _ _ _ _ _ _ _ _ _ _
   | exact ih1 _ _ _ _ _ _ _ _ _ _ _
   | exact impl_LogAdd.mono _ _ _ _ _ _ _ _ _
   | exact laws_lpHas.mono _ _ _ _ _ _ _ _ _
   | exact laws_lpLog.mono _ _ _
   | exact spec_DrawLogAdd.mono _ _
   | exact spec_EntryOk.mono _ _ _ _ _ _ _ _
   | exact spec_LogAdd.mono _ _ _ _ _ _ _ _ _
   | exact spec_LogOk.mono _ _
   | exact LeO.none _
   | refine LeO.ite ?_ ?_
   | refine LeO.bind ?_ (fun _ => ?_)
  ·intro y0 y1 y2 y3 y4 y5 y6 y7 y8 y9 y10
   unfold laws_FnLogAdd.j1
   repeat' first
   | (with_reducible exact ih0 _ _ _ _ _ _ _ _ _ _ _ _ _)
   | (with_reducible exact ih1 _ _ _ _ _ _ _ _ _ _ _)
   | (with_reducible exact impl_LogAdd.mono _ _ _ _ _ _ _ _ _)
   | (with_reducible exact laws_lpHas.mono _ _ _ _ _ _ _ _ _)
   | (with_reducible exact laws_lpLog.mono _ _ _)
   | (with_reducible exact spec_DrawLogAdd.mono _ _)
   | (with_reducible exact spec_EntryOk.mono _ _ _ _ _ _ _ _)
   | (with_reducible exact spec_LogAdd.mono _ _ _ _ _ _ _ _ _)
   | (with_reducible exact spec_LogOk.mono _ _)
   | (with_reducible exact LeO.refl _)
   | (with_reducible exact LeO.none _)
   | (with_reducible refine LeO.ite ?_ ?_)
   | (with_reducible refine LeO.bind ?_ (fun _ => ?_))
   | exact ih0 _ _ _ _ _ _ _ _ _ _ _ _ _
   | exact ih1 _ _ _ _ _ _ _ _ _ _ _
   | exact impl_LogAdd.mono _ _ _ _ _ _ _ _ _
   | exact laws_lpHas.mono _ _ _ _ _ _ _ _ _
   | exact laws_lpLog.mono _ _ _
   | exact spec_DrawLogAdd.mono _ _
   | exact spec_EntryOk.mono _ _ _ _ _ _ _ _
   | exact spec_LogAdd.mono _ _ _ _ _ _ _ _ _
   | exact spec_LogOk.mono _ _
   | exact LeO.none _
   | refine LeO.ite ?_ ?_
   | refine LeO.bind ?_ (fun _ => ?_)
theorem laws_FnLogAdd.mono : ∀ a0 k, LeO (laws_FnLogAdd.f k a0) (laws_FnLogAdd.f (k + 1) a0) := by
 intro a0 k
 obtain ⟨ih0, ih1⟩ := laws_FnLogAdd.mono_l k
 unfold laws_FnLogAdd.f
 repeat' first
   | (with_reducible exact ih0 _ _ _ _ _ _ _ _ _ _ _ _ _)
   | (with_reducible exact ih1 _ _ _ _ _ _ _ _ _ _ _)
   | (with_reducible exact impl_LogAdd.mono _ _ _ _ _ _ _ _ _)
   | (with_reducible exact laws_lpHas.mono _ _ _ _ _ _ _ _ _)
   | (with_reducible exact laws_lpLog.mono _ _ _)
   | (with_reducible exact spec_DrawLogAdd.mono _ _)
   | (with_reducible exact spec_EntryOk.mono _ _ _ _ _ _ _ _)
   | (with_reducible exact spec_LogAdd.mono _ _ _ _ _ _ _ _ _)
   | (with_reducible exact spec_LogOk.mono _ _)
   | (with_reducible exact LeO.refl _)
   | (with_reducible exact LeO.none _)
   | (with_reducible refine LeO.ite ?_ ?_)
   | (with_reducible refine LeO.bind ?_ (fun _ => ?_))
   | exact ih0 _ _ _ _ _ _ _ _ _ _ _ _ _
   | exact ih1 _ _ _ _ _ _ _ _ _ _ _
   | exact impl_LogAdd.mono _ _ _ _ _ _ _ _ _
   | exact laws_lpHas.mono _ _ _ _ _ _ _ _ _
   | exact laws_lpLog.mono _ _ _
   | exact spec_DrawLogAdd.mono _ _
   | exact spec_EntryOk.mono _ _ _ _ _ _ _ _
   | exact spec_LogAdd.mono _ _ _ _ _ _ _ _ _
   | exact spec_LogOk.mono _ _
   | exact LeO.none _
   | refine LeO.ite ?_ ?_
   | refine LeO.bind ?_ (fun _ => ?_)
def laws_FnLogAdd.T10 : Bool × List (List Nat × List Nat) := (true, [([], []), ([0], [0]), ([], []), ([], []), ([3], [3]), ([2, 4], [2, 4]), ([5], [5]), ([1, 6], [1, 6]), ([7, 5], [7]), ([8], [8]), ([9, 8], [8, 9]), ([10, 8], [8, 10]), ([8, 11], [8, 11]), ([12, 8, 0, 1, 2, 3, 4, 5, 6, 7, 8, 9, 10, 11, 12], [12])])
def laws_FnLogAdd.B10 : List Nat := [0, 1, 0, 0, 8, 28, 60, 127, 255, 511, 1023, 2047, 4095, 8191]
theorem laws_FnLogAdd.tab10 : rtab .any (opsOf Tryd.f11 10) = laws_FnLogAdd.T10 := by kernel_rfl
theorem laws_FnLogAdd.bits10 : waitsOk laws_FnLogAdd.T10.2 laws_FnLogAdd.B10 = true := by kernel_rfl
def laws_FnLogAdd.T13 : Bool × List (List Nat × List Nat) := (true, [([], []), ([0], [0]), ([1], [1]), ([2], [2]), ([2], [2]), ([2], [2]), ([4, 5, 2, 2], [2, 4, 5]), ([2], [2]), ([7, 2], [2, 7]), ([6, 8, 6, 2], [2, 6, 8]), ([3, 9, 9, 2], [2, 3, 9]), ([2, 10], [2, 10]), ([11, 10], [11]), ([12], [12]), ([13, 12, 12], [12, 13]), ([12, 14], [12, 14]), ([15, 14, 0, 1, 2, 3, 4, 5, 6, 7, 8, 9, 10, 11, 12, 13, 14, 15], [15])])
def laws_FnLogAdd.B13 : List Nat := [0, 1, 3, 7, 7, 7, 55, 7, 135, 503, 1023, 2047, 4095, 8191, 16383, 32767, 65535]
theorem laws_FnLogAdd.tab13 : rtab .any (opsOf Tryd.f11 13) = laws_FnLogAdd.T13 := by kernel_rfl
theorem laws_FnLogAdd.bits13 : waitsOk laws_FnLogAdd.T13.2 laws_FnLogAdd.B13 = true := by kernel_rfl
set_option maxHeartbeats 8000000 in
set_option maxRecDepth 100000 in
theorem laws_FnLogAdd.calls (k : Nat) (A0 : Option Addr) (c0 : Nat) (l0 : List Int) (r : Bool) (w : World) (hr0 : Kd.C (Kd.int .u8) w A0 l0.length l0) (hc0 : l0.length ≤ c0) (ht : TabOk w) (h : laws_FnLogAdd.f k l0 = some r) :
  Calls Tryd.prog 11 #[.slice A0 l0.length c0] w fun e w' => e = .returned (.bool r) ∧ Below w.heap.size w w' := by
 have hu26 := Tryd.underlying26
 have HR0 := Aside0.mk hr0
 have HC0 := Aside0.mk hc0
 clear hr0 hc0
 have HT := Aside0.mk ht
 clear ht
 have HB := Aside0.mk (Below.refl w.heap.size w)
 have H : (if (l0.length : Int) > 1048576 then (some true) else ((spec_DrawLogAdd.f k l0).bind fun bt498 => ((spec_LogAdd.f k bt498.1 bt498.2.1 bt498.2.2.1 bt498.2.2.2.1 bt498.2.2.2.2.1 bt498.2.2.2.2.2.1 bt498.2.2.2.2.2.2.1 bt498.2.2.2.2.2.2.2).bind fun bt509 => ((impl_LogAdd.f k bt498.1 bt498.2.1 bt498.2.2.1 bt498.2.2.2.1 bt498.2.2.2.2.1 bt498.2.2.2.2.2.1 bt498.2.2.2.2.2.2.1 bt498.2.2.2.2.2.2.2).bind fun bt513 => (if bt513.2 = bt509.2 then ((laws_lpLog.f k bt513.1 bt509.1).bind fun t517 => (if t517 = true then ((spec_LogOk.f k bt498.1).bind fun t518 => (if t518 = true then ((spec_EntryOk.f k bt498.2.1 bt498.2.2.1 bt498.2.2.2.1 bt498.2.2.2.2.1 bt498.2.2.2.2.2.1 bt498.2.2.2.2.2.2.1 bt498.2.2.2.2.2.2.2).bind fun t519 => (laws_FnLogAdd.j0 k bt498.1 bt509.1 bt509.2 bt513.1 bt513.2 (!t519) bt498.2.1 bt498.2.2.1 bt498.2.2.2.1 bt498.2.2.2.2.1 bt498.2.2.2.2.2.1 bt498.2.2.2.2.2.2.1 bt498.2.2.2.2.2.2.2)) else (laws_FnLogAdd.j0 k bt498.1 bt509.1 bt509.2 bt513.1 bt513.2 true bt498.2.1 bt498.2.2.1 bt498.2.2.2.1 bt498.2.2.2.2.1 bt498.2.2.2.2.2.1 bt498.2.2.2.2.2.2.1 bt498.2.2.2.2.2.2.2))) else (laws_FnLogAdd.j0 k bt498.1 bt509.1 bt509.2 bt513.1 bt513.2 true bt498.2.1 bt498.2.2.1 bt498.2.2.2.1 bt498.2.2.2.2.1 bt498.2.2.2.2.2.1 bt498.2.2.2.2.2.2.1 bt498.2.2.2.2.2.2.2))) else (laws_FnLogAdd.j0 k bt498.1 bt509.1 bt509.2 bt513.1 bt513.2 true bt498.2.1 bt498.2.2.1 bt498.2.2.2.1 bt498.2.2.2.2.1 bt498.2.2.2.2.2.1 bt498.2.2.2.2.2.2.1 bt498.2.2.2.2.2.2.2)))))) = some r := h
 clear h
 by_cases c2 : (l0.length : Int) > 1048576
 ·rw [if_pos c2] at H
  have c2b0 : decide (1048576 < (l0.length : Int)) = true := decide_eq_true c2
  have c2b1 : decide (1048576 < l0.length) = true := decide_eq_true (by omega)
  clear c2
  obtain rfl := Option.some.inj H
  go_enter Tryd.func11, Tryd.ntmps11
  go_wp2
  go_ret
  exact ⟨endA, belowA⟩
 ·rw [if_neg c2] at H
  have c2b0 : decide (1048576 < (l0.length : Int)) = false := decide_eq_false c2
  have c2b1 : decide (1048576 < l0.length) = false := decide_eq_false (by omega)
  clear c2
  replace H := Option.bind_eq_some_iff.mp H
  obtain ⟨⟨t498, t501, t502, t503, t504, t505, t506, t507⟩, A30, H⟩ := H
  (try dsimp only at H)
  have A3 := Aside0.mk A30
  clear A30
  replace H := Option.bind_eq_some_iff.mp H
  obtain ⟨⟨t509, t512⟩, A40, H⟩ := H
  (try dsimp only at H)
  have A4 := Aside0.mk A40
  clear A40
  replace H := Option.bind_eq_some_iff.mp H
  obtain ⟨⟨t513, t516⟩, A50, H⟩ := H
  (try dsimp only at H)
  have A5 := Aside0.mk A50
  clear A50
  have HC6 := Aside0.mk H
  clear H
  go_enter Tryd.func11, Tryd.ntmps11
  go_upto_region 6 with (first | ((with_reducible refine gate_callee (f := 34) rfl ?_); refine goesL_ (some 15) rfl rfl Tryd.func34 (by kernel_rfl) rfl #[.slice A0 l0.length c0] rfl argsA ?_; (with_reducible refine (spec_DrawLogAdd.calls k _ _ l0 t498 t501 t502 t503 t504 t505 t506 t507 _ ?side1 ?side2 A3.out).mono ?_); (case side1 => exact CA (HR0.out)); (case side2 => exact HC0.out); rintro e w7 ⟨v499, rfl, ho0, hb⟩; refine ⟨_, rfl, ?_⟩; have n0_ := Aside0.mk (Kd.R_lower ho0 (below_size belowA)); have n1_ := Aside0.mk (below_step belowA hb); clear HB; have HO500 := n0_; have HB := n1_; clear n0_ n1_; (try clear hb); (try clear hb2); (try clear hk); (try clear hi); (try clear ho0)) | ((with_reducible refine gate_dst (N := 4) rfl ?_); (try (refine gate_guard (by rfl) ?_; dsimp only)); refine box_event ?hg (N := 4) ?hd (cs := #[.int .i64 0, .int .i64 0, .int .i64 0, .int .i64 0, .int .i64 0, .int .i64 0, .string (⟨#[]⟩ : ByteArray)]) (t := 26) ?hr ?_; (case hd => rfl); (case hg => rfl); (case hr => first | (go_simp; done) | (go_simp; rfl)); intro gb508 hg w8 hbox hb; have n0_ := Aside0.mk (Kd.R_below (Kd.R_elderB (RA HO500) gb508 (Nat.le_of_eq hg.symm)) hb); have n1_ := Aside0.mk (below_step belowA hb); have n2_ := Aside0.mk (hbox); have n3_ := Aside0.mk ((by rw [hg]; exact (below_size belowA) : w.heap.size ≤ gb508)); have n4_ := Aside0.mk ((by rw [hg]; exact (below_size belowA) : w.heap.size ≤ gb508)); clear HO500; clear HB; have HO500 := n0_; have HB := n1_; have BK508 := n2_; have GW508 := n3_; have GE508 := n4_; clear n0_ n1_ n2_ n3_ n4_; clear hb hbox hg; obtain ⟨hcz9_0, hcz9_1, hcz9_2, hcz9_3, hcz9_4, hcz9_5, hcz9_6, hfz9_0, hfz9_1, hfz9_2, hfz9_3, hfz9_4, hfz9_5, hfz9_6⟩ := blk_facts7 BK508.out; obtain ⟨Ao10, co10, eo10⟩ := Kd.R_slice HO500.out; subst eo10) | ((with_reducible refine gate_callee (f := 28) rfl ?_); refine goesL_ (some 21) rfl rfl Tryd.func28 (by kernel_rfl) rfl #[.slice Ao10 t498.length co10, .agg #[.int .i64 t501, .int .i64 t502, .int .i64 t503, .int .i64 t504, .int .i64 t505, .int .i64 t506, .string t507]] rfl argsA ?_; (with_reducible refine (spec_LogAdd.calls k _ _ t498 t501 t502 t503 t504 t505 t506 t507 t509 t512 _ ?side1 ?side2 A4.out).mono ?_); (case side1 => refine (Kd.R_reads' (e := 26) (base := w.heap.size) (ok := fun k_ => (True ∧ k_ ≠ gb508)) (n := t498.length) (c := co10) ?_).2.2; exact (by (with_reducible repeat (first | apply Kd.R_alloc | apply Kd.R_drewN | apply Kd.R_drew)); exact (Kd.R_mono (Kd.R_far (p := ⟨gb508, 6, none⟩) (Kd.R_far (p := ⟨gb508, 5, none⟩) (Kd.R_far (p := ⟨gb508, 4, none⟩) (Kd.R_far (p := ⟨gb508, 3, none⟩) (Kd.R_far (p := ⟨gb508, 2, none⟩) (Kd.R_far (p := ⟨gb508, 1, none⟩) (Kd.R_far (p := ⟨gb508, 0, none⟩) (Kd.R_mono HO500.out (fun k_ hk => (⟨hk, hk.2⟩ : _ ∧ k_ ≠ gb508))) (fun _ hk => hk.2) (.int .i64 t501)) (fun _ hk => hk.2) (.int .i64 t502)) (fun _ hk => hk.2) (.int .i64 t503)) (fun _ hk => hk.2) (.int .i64 t504)) (fun _ hk => hk.2) (.int .i64 t505)) (fun _ hk => hk.2) (.int .i64 t506)) (fun _ hk => hk.2) (.string t507)) (fun _ h_ => h_.1)))); (case side2 => exact (Kd.R_reads' HO500.out).2.1); rintro e w11 ⟨v510, rfl, ho0, hb⟩; refine ⟨_, rfl, ?_⟩; have n0_ := Aside0.mk (Kd.R_elder' (by (with_reducible repeat (first | apply Kd.R_alloc | apply Kd.R_drewN | apply Kd.R_drew)); exact (Kd.R_mono (Kd.R_far (p := ⟨gb508, 6, none⟩) (Kd.R_far (p := ⟨gb508, 5, none⟩) (Kd.R_far (p := ⟨gb508, 4, none⟩) (Kd.R_far (p := ⟨gb508, 3, none⟩) (Kd.R_far (p := ⟨gb508, 2, none⟩) (Kd.R_far (p := ⟨gb508, 1, none⟩) (Kd.R_far (p := ⟨gb508, 0, none⟩) (Kd.R_mono HO500.out (fun k_ hk => (⟨hk, hk.2⟩ : _ ∧ k_ ≠ gb508))) (fun _ hk => hk.2) (.int .i64 t501)) (fun _ hk => hk.2) (.int .i64 t502)) (fun _ hk => hk.2) (.int .i64 t503)) (fun _ hk => hk.2) (.int .i64 t504)) (fun _ hk => hk.2) (.int .i64 t505)) (fun _ hk => hk.2) (.int .i64 t506)) (fun _ hk => hk.2) (.string t507)) (fun _ h_ => h_.1))) (Kd.R_base ho0) hb); have n1_ := Aside0.mk (Kd.R_lower (Kd.R_newB (Kd.R_new' ho0 (Kd.R_lt (by (with_reducible repeat (first | apply Kd.R_alloc | apply Kd.R_drewN | apply Kd.R_drew)); exact (Kd.R_mono (Kd.R_far (p := ⟨gb508, 6, none⟩) (Kd.R_far (p := ⟨gb508, 5, none⟩) (Kd.R_far (p := ⟨gb508, 4, none⟩) (Kd.R_far (p := ⟨gb508, 3, none⟩) (Kd.R_far (p := ⟨gb508, 2, none⟩) (Kd.R_far (p := ⟨gb508, 1, none⟩) (Kd.R_far (p := ⟨gb508, 0, none⟩) (Kd.R_mono HO500.out (fun k_ hk => (⟨hk, hk.2⟩ : _ ∧ k_ ≠ gb508))) (fun _ hk => hk.2) (.int .i64 t501)) (fun _ hk => hk.2) (.int .i64 t502)) (fun _ hk => hk.2) (.int .i64 t503)) (fun _ hk => hk.2) (.int .i64 t504)) (fun _ hk => hk.2) (.int .i64 t505)) (fun _ hk => hk.2) (.int .i64 t506)) (fun _ hk => hk.2) (.string t507)) (fun _ h_ => h_.1))))) (g := gb508) (o := .cells #[.int .i64 t501, .int .i64 t502, .int .i64 t503, .int .i64 t504, .int .i64 t505, .int .i64 t506, .string t507] 26 (0, 0)) (blk_put (blk_put (blk_put (blk_put (blk_put (blk_put (blk_put (blkC #[.int .i64 0, .int .i64 0, .int .i64 0, .int .i64 0, .int .i64 0, .int .i64 0, .string (⟨#[]⟩ : ByteArray)]) 0 _ rfl) 1 _ rfl) 2 _ rfl) 3 _ rfl) 4 _ rfl) 5 _ rfl) 6 _ rfl)) (below_size belowA)); have n2_ := Aside0.mk (blk_below (g := gb508) (o := .cells #[.int .i64 t501, .int .i64 t502, .int .i64 t503, .int .i64 t504, .int .i64 t505, .int .i64 t506, .string t507] 26 (0, 0)) (blk_put (blk_put (blk_put (blk_put (blk_put (blk_put (blk_put (blkC #[.int .i64 0, .int .i64 0, .int .i64 0, .int .i64 0, .int .i64 0, .int .i64 0, .string (⟨#[]⟩ : ByteArray)]) 0 _ rfl) 1 _ rfl) 2 _ rfl) 3 _ rfl) 4 _ rfl) 5 _ rfl) 6 _ rfl) hb); have n3_ := Aside0.mk (below_step belowA hb); clear HO500; clear BK508; clear HB; have HO500 := n0_; have HO511 := n1_; have BK508 := n2_; have HB := n3_; clear n0_ n1_ n2_ n3_; (try clear hb); (try clear hb2); (try clear hk); (try clear hi); (try clear ho0); obtain ⟨hcz12_0, hcz12_1, hcz12_2, hcz12_3, hcz12_4, hcz12_5, hcz12_6, hfz12_0, hfz12_1, hfz12_2, hfz12_3, hfz12_4, hfz12_5, hfz12_6⟩ := blk_facts7 BK508.out) | ((with_reducible refine gate_callee (f := 30) rfl ?_); refine goesL_ (some 27) rfl rfl Tryd.func30 (by kernel_rfl) rfl #[.slice Ao10 t498.length co10, .agg #[.int .i64 t501, .int .i64 t502, .int .i64 t503, .int .i64 t504, .int .i64 t505, .int .i64 t506, .string t507]] rfl argsA ?_; (with_reducible refine (impl_LogAdd.calls k _ _ t498 t501 t502 t503 t504 t505 t506 t507 t513 t516 _ ?side1 ?side2 ?side3 A5.out).mono ?_); (case side1 => repeat (first | exact (Kd.R_reads' HO500.out).2.2 | (with_reducible refine Kd.C_alloc ?_ _) | (with_reducible refine Kd.C_drewN ?_ _) | (with_reducible refine Kd.C_drew ?_))); (case side2 => exact (Kd.R_reads' HO500.out).2.1); (case side3 => exact TabOk.below HT.out belowA); rintro e w13 ⟨v514, rfl, ho0, hb⟩; refine ⟨_, rfl, ?_⟩; have n0_ := Aside0.mk (Kd.R_elder' (RA HO500) (Kd.R_base ho0) hb); have n1_ := Aside0.mk (Kd.R_elder' (RA HO511) (Kd.R_base ho0) hb); have n2_ := Aside0.mk (Kd.R_lower (Kd.R_newB (Kd.R_new' (Kd.R_new' ho0 (Kd.R_lt (RA HO500))) (Kd.R_lt (RA HO511))) (g := gb508) (o := .cells #[.int .i64 t501, .int .i64 t502, .int .i64 t503, .int .i64 t504, .int .i64 t505, .int .i64 t506, .string t507] 26 (0, 0)) blkA) (below_size belowA)); have n3_ := Aside0.mk (blk_below (g := gb508) (o := .cells #[.int .i64 t501, .int .i64 t502, .int .i64 t503, .int .i64 t504, .int .i64 t505, .int .i64 t506, .string t507] 26 (0, 0)) blkA hb); have n4_ := Aside0.mk (below_step belowA hb); clear HO500; clear HO511; clear BK508; clear HB; have HO500 := n0_; have HO511 := n1_; have HO515 := n2_; have BK508 := n3_; have HB := n4_; clear n0_ n1_ n2_ n3_ n4_; (try clear hb); (try clear hb2); (try clear hk); (try clear hi); (try clear ho0)))
  (try simp only [Act.put, List.setIfInBounds_toArray, List.set_cons_zero, List.set_cons_succ])
  go_cut [48] (fun v48 wc => ∃ (kq : Nat) (x48_5 : Bool), v48 = .bool x48_5 ∧ Aside0 (laws_FnLogAdd.j0 kq t498 t509 t512 t513 t516 x48_5 t501 t502 t503 t504 t505 t506 t507 = some r) ∧ Aside0 (kq ≤ k) ∧ Aside0 (Kd.R k26 26 wc w.heap.size (fun k_ => some k_ ≠ (v510 : Value).ownBlock ∧ some k_ ≠ (v514 : Value).ownBlock ∧ k_ ≠ gb508) (.slice Ao10 t498.length co10) t498) ∧ Aside0 (Kd.R k26 26 wc w.heap.size (fun k_ => some k_ ≠ ((.slice Ao10 t498.length co10) : Value).ownBlock ∧ some k_ ≠ (v514 : Value).ownBlock ∧ k_ ≠ gb508) v510 t509) ∧ Aside0 (Kd.R k26 26 wc w.heap.size (fun k_ => some k_ ≠ ((.slice Ao10 t498.length co10) : Value).ownBlock ∧ some k_ ≠ (v510 : Value).ownBlock ∧ k_ ≠ gb508) v514 t513) ∧ Aside0 (wc.heap[gb508]? = some (.cells #[.int .i64 t501, .int .i64 t502, .int .i64 t503, .int .i64 t504, .int .i64 t505, .int .i64 t506, .string t507] 26 (0, 0))) ∧ Aside0 (Below w.heap.size w wc))
  case first =>
   have H := HC6.out
   clear HC6
   by_cases c14 : t516 = t512
   ·rw [if_pos c14] at H
    have c14b0 : (t516 == t512) = true := beq_iff_eq.mpr c14
    have c14b1 : (t516 != t512) = false := bne_eq_false_iff_eq.mpr c14
    clear c14
    (first | rw [c14b0] | (simp only [i64_w, i32_w]; rw [c14b0]) | skip)
    replace H := Option.bind_eq_some_iff.mp H
    obtain ⟨t517, A150, H⟩ := H
    (try dsimp only at H)
    have A15 := Aside0.mk A150
    clear A150
    by_cases c16 : t517 = true
    ·subst c16
     have H1 : ((spec_LogOk.f k t498).bind fun t518 => (if t518 = true then ((spec_EntryOk.f k t501 t502 t503 t504 t505 t506 t507).bind fun t519 => (laws_FnLogAdd.j0 k t498 t509 t512 t513 t516 (!t519) t501 t502 t503 t504 t505 t506 t507)) else (laws_FnLogAdd.j0 k t498 t509 t512 t513 t516 true t501 t502 t503 t504 t505 t506 t507))) = some r := by rw [if_pos rfl] at H; exact H
     clear H
     have H := H1
     clear H1
     replace H := Option.bind_eq_some_iff.mp H
     obtain ⟨t518, A170, H⟩ := H
     (try dsimp only at H)
     have A17 := Aside0.mk A170
     clear A170
     by_cases c18 : t518 = true
     ·subst c18
      have H1 : ((spec_EntryOk.f k t501 t502 t503 t504 t505 t506 t507).bind fun t519 => (laws_FnLogAdd.j0 k t498 t509 t512 t513 t516 (!t519) t501 t502 t503 t504 t505 t506 t507)) = some r := by rw [if_pos rfl] at H; exact H
      clear H
      have H := H1
      clear H1
      replace H := Option.bind_eq_some_iff.mp H
      obtain ⟨t519, A190, H⟩ := H
      (try dsimp only at H)
      have A19 := Aside0.mk A190
      clear A190
      have H' := Aside0.mk H
      clear H
      obtain ⟨Ao20, co20, eo20⟩ := Kd.R_slice HO515.out
      subst eo20
      obtain ⟨Ao21, co21, eo21⟩ := Kd.R_slice HO511.out
      subst eo21
      go_wp2_with (first | (go_at_call 35; (with_reducible refine (laws_lpLog.calls k _ _ t513 _ _ t509 true _ ?side1 ?side2 ?side3 ?side4 A15.out).mono ?_); (case side1 => repeat (first | exact (Kd.R_reads' HO515.out).2.2 | (with_reducible refine Kd.C_alloc ?_ _) | (with_reducible refine Kd.C_drewN ?_ _) | (with_reducible refine Kd.C_drew ?_))); (case side2 => exact (Kd.R_reads' HO515.out).2.1); (case side3 => repeat (first | exact (Kd.R_reads' HO511.out).2.2 | (with_reducible refine Kd.C_alloc ?_ _) | (with_reducible refine Kd.C_drewN ?_ _) | (with_reducible refine Kd.C_drew ?_))); (case side4 => exact (Kd.R_reads' HO511.out).2.1); rintro e w' ⟨rfl, ⟨nd, rfl⟩⟩) | (go_at_call 16; (with_reducible refine (spec_LogOk.calls k _ _ t498 true _ ?side1 ?side2 A17.out).mono ?_); (case side1 => repeat (first | exact (Kd.R_reads' HO500.out).2.2 | (with_reducible refine Kd.C_alloc ?_ _) | (with_reducible refine Kd.C_drewN ?_ _) | (with_reducible refine Kd.C_drew ?_))); (case side2 => exact (Kd.R_reads' HO500.out).2.1); rintro e w22 ⟨rfl, hb⟩; have n0_ := Aside0.mk (Kd.R_below (RA HO500) hb); have n1_ := Aside0.mk (Kd.R_below (RA HO511) hb); have n2_ := Aside0.mk (Kd.R_below (RA HO515) hb); have n3_ := Aside0.mk (blk_below (g := gb508) (o := .cells #[.int .i64 t501, .int .i64 t502, .int .i64 t503, .int .i64 t504, .int .i64 t505, .int .i64 t506, .string t507] 26 (0, 0)) blkA hb); have n4_ := Aside0.mk (below_step belowA hb); clear HO500; clear HO511; clear HO515; clear BK508; clear HB; have HO500 := n0_; have HO511 := n1_; have HO515 := n2_; have BK508 := n3_; have HB := n4_; clear n0_ n1_ n2_ n3_ n4_; (try clear hb); (try clear hb2); (try clear hk); (try clear hi); obtain ⟨hcz23_0, hcz23_1, hcz23_2, hcz23_3, hcz23_4, hcz23_5, hcz23_6, hfz23_0, hfz23_1, hfz23_2, hfz23_3, hfz23_4, hfz23_5, hfz23_6⟩ := blk_facts7 BK508.out) | (go_at_call 14; (with_reducible refine (spec_EntryOk.calls k t501 t502 t503 t504 t505 t506 t507 t519 _ A19.out).mono ?_); rintro e w24 ⟨rfl, hb⟩; have n0_ := Aside0.mk (Kd.R_below (RA HO500) hb); have n1_ := Aside0.mk (Kd.R_below (RA HO511) hb); have n2_ := Aside0.mk (Kd.R_below (RA HO515) hb); have n3_ := Aside0.mk (blk_below (g := gb508) (o := .cells #[.int .i64 t501, .int .i64 t502, .int .i64 t503, .int .i64 t504, .int .i64 t505, .int .i64 t506, .string t507] 26 (0, 0)) blkA hb); have n4_ := Aside0.mk (below_step belowA hb); clear HO500; clear HO511; clear HO515; clear BK508; clear HB; have HO500 := n0_; have HO511 := n1_; have HO515 := n2_; have BK508 := n3_; have HB := n4_; clear n0_ n1_ n2_ n3_ n4_; (try clear hb); (try clear hb2); (try clear hk); (try clear hi)))
      go_meet
      case rel => exact ⟨_, (!t519), (by first | rfl | (simp; done) | (simp [*]; done)), H', ⟨by first | omega | exact Nat.le_refl _⟩, ⟨by (with_reducible repeat (first | apply Kd.R_alloc | apply Kd.R_drewN | apply Kd.R_drew)); exact Kd.R_mono HO500.out (fun _ hk => ⟨hk.1.2, ⟨hk.2, hk.1.1.2⟩⟩)⟩, ⟨by (with_reducible repeat (first | apply Kd.R_alloc | apply Kd.R_drewN | apply Kd.R_drew)); exact Kd.R_mono HO511.out (fun _ hk => ⟨hk.1.1.2, ⟨hk.2, hk.1.2⟩⟩)⟩, ⟨by (with_reducible repeat (first | apply Kd.R_alloc | apply Kd.R_drewN | apply Kd.R_drew)); exact Kd.R_mono HO515.out (fun _ hk => ⟨hk.1.1.2, ⟨hk.1.2, hk.2⟩⟩)⟩, ⟨by (with_reducible repeat (first | refine blk_drewN ?_ _ | refine blk_drew ?_ | refine blk_alloc ?_ _)); exact BK508.out⟩, ⟨belowA⟩⟩
     ·replace c18 := Bool.eq_false_iff.mpr c18
      subst c18
      have H1 : (laws_FnLogAdd.j0 k t498 t509 t512 t513 t516 true t501 t502 t503 t504 t505 t506 t507) = some r := by rw [if_neg (show ¬ (false = true) by decide)] at H; exact H
      clear H
      have H := H1
      clear H1
      have H' := Aside0.mk H
      clear H
      obtain ⟨Ao25, co25, eo25⟩ := Kd.R_slice HO515.out
      subst eo25
      obtain ⟨Ao26, co26, eo26⟩ := Kd.R_slice HO511.out
      subst eo26
      go_wp2_with (first | (go_at_call 35; (with_reducible refine (laws_lpLog.calls k _ _ t513 _ _ t509 true _ ?side1 ?side2 ?side3 ?side4 A15.out).mono ?_); (case side1 => repeat (first | exact (Kd.R_reads' HO515.out).2.2 | (with_reducible refine Kd.C_alloc ?_ _) | (with_reducible refine Kd.C_drewN ?_ _) | (with_reducible refine Kd.C_drew ?_))); (case side2 => exact (Kd.R_reads' HO515.out).2.1); (case side3 => repeat (first | exact (Kd.R_reads' HO511.out).2.2 | (with_reducible refine Kd.C_alloc ?_ _) | (with_reducible refine Kd.C_drewN ?_ _) | (with_reducible refine Kd.C_drew ?_))); (case side4 => exact (Kd.R_reads' HO511.out).2.1); rintro e w' ⟨rfl, ⟨nd, rfl⟩⟩) | (go_at_call 16; (with_reducible refine (spec_LogOk.calls k _ _ t498 false _ ?side1 ?side2 A17.out).mono ?_); (case side1 => repeat (first | exact (Kd.R_reads' HO500.out).2.2 | (with_reducible refine Kd.C_alloc ?_ _) | (with_reducible refine Kd.C_drewN ?_ _) | (with_reducible refine Kd.C_drew ?_))); (case side2 => exact (Kd.R_reads' HO500.out).2.1); rintro e w27 ⟨rfl, hb⟩; have n0_ := Aside0.mk (Kd.R_below (RA HO500) hb); have n1_ := Aside0.mk (Kd.R_below (RA HO511) hb); have n2_ := Aside0.mk (Kd.R_below (RA HO515) hb); have n3_ := Aside0.mk (blk_below (g := gb508) (o := .cells #[.int .i64 t501, .int .i64 t502, .int .i64 t503, .int .i64 t504, .int .i64 t505, .int .i64 t506, .string t507] 26 (0, 0)) blkA hb); have n4_ := Aside0.mk (below_step belowA hb); clear HO500; clear HO511; clear HO515; clear BK508; clear HB; have HO500 := n0_; have HO511 := n1_; have HO515 := n2_; have BK508 := n3_; have HB := n4_; clear n0_ n1_ n2_ n3_ n4_; (try clear hb); (try clear hb2); (try clear hk); (try clear hi)))
      go_meet
      case rel => exact ⟨_, (true), (by first | rfl | (simp; done) | (simp [*]; done)), H', ⟨by first | omega | exact Nat.le_refl _⟩, ⟨by (with_reducible repeat (first | apply Kd.R_alloc | apply Kd.R_drewN | apply Kd.R_drew)); exact Kd.R_mono HO500.out (fun _ hk => ⟨hk.1.2, ⟨hk.2, hk.1.1.2⟩⟩)⟩, ⟨by (with_reducible repeat (first | apply Kd.R_alloc | apply Kd.R_drewN | apply Kd.R_drew)); exact Kd.R_mono HO511.out (fun _ hk => ⟨hk.1.1.2, ⟨hk.2, hk.1.2⟩⟩)⟩, ⟨by (with_reducible repeat (first | apply Kd.R_alloc | apply Kd.R_drewN | apply Kd.R_drew)); exact Kd.R_mono HO515.out (fun _ hk => ⟨hk.1.1.2, ⟨hk.1.2, hk.2⟩⟩)⟩, ⟨by (with_reducible repeat (first | refine blk_drewN ?_ _ | refine blk_drew ?_ | refine blk_alloc ?_ _)); exact BK508.out⟩, ⟨belowA⟩⟩
    ·replace c16 := Bool.eq_false_iff.mpr c16
     subst c16
     have H1 : (laws_FnLogAdd.j0 k t498 t509 t512 t513 t516 true t501 t502 t503 t504 t505 t506 t507) = some r := by rw [if_neg (show ¬ (false = true) by decide)] at H; exact H
     clear H
     have H := H1
     clear H1
     have H' := Aside0.mk H
     clear H
     obtain ⟨Ao28, co28, eo28⟩ := Kd.R_slice HO515.out
     subst eo28
     obtain ⟨Ao29, co29, eo29⟩ := Kd.R_slice HO511.out
     subst eo29
     go_wp2_with (first | (go_at_call 35; (with_reducible refine (laws_lpLog.calls k _ _ t513 _ _ t509 false _ ?side1 ?side2 ?side3 ?side4 A15.out).mono ?_); (case side1 => repeat (first | exact (Kd.R_reads' HO515.out).2.2 | (with_reducible refine Kd.C_alloc ?_ _) | (with_reducible refine Kd.C_drewN ?_ _) | (with_reducible refine Kd.C_drew ?_))); (case side2 => exact (Kd.R_reads' HO515.out).2.1); (case side3 => repeat (first | exact (Kd.R_reads' HO511.out).2.2 | (with_reducible refine Kd.C_alloc ?_ _) | (with_reducible refine Kd.C_drewN ?_ _) | (with_reducible refine Kd.C_drew ?_))); (case side4 => exact (Kd.R_reads' HO511.out).2.1); rintro e w' ⟨rfl, ⟨nd, rfl⟩⟩))
     go_meet
     case rel => exact ⟨_, (true), (by first | rfl | (simp; done) | (simp [*]; done)), H', ⟨by first | omega | exact Nat.le_refl _⟩, ⟨by (with_reducible repeat (first | apply Kd.R_alloc | apply Kd.R_drewN | apply Kd.R_drew)); exact Kd.R_mono HO500.out (fun _ hk => ⟨hk.1.2, ⟨hk.2, hk.1.1.2⟩⟩)⟩, ⟨by (with_reducible repeat (first | apply Kd.R_alloc | apply Kd.R_drewN | apply Kd.R_drew)); exact Kd.R_mono HO511.out (fun _ hk => ⟨hk.1.1.2, ⟨hk.2, hk.1.2⟩⟩)⟩, ⟨by (with_reducible repeat (first | apply Kd.R_alloc | apply Kd.R_drewN | apply Kd.R_drew)); exact Kd.R_mono HO515.out (fun _ hk => ⟨hk.1.1.2, ⟨hk.1.2, hk.2⟩⟩)⟩, ⟨by (with_reducible repeat (first | refine blk_drewN ?_ _ | refine blk_drew ?_ | refine blk_alloc ?_ _)); exact BK508.out⟩, ⟨belowA⟩⟩
   ·rw [if_neg c14] at H
    have c14b0 : (t516 == t512) = false := beq_eq_false_iff_ne.mpr c14
    have c14b1 : (t516 != t512) = true := bne_iff_ne.mpr c14
    (first | rw [c14b0] | (simp only [i64_w, i32_w]; rw [c14b0]) | skip)
    have H' := Aside0.mk H
    clear H
    go_wp2
    go_meet
    case rel => exact ⟨_, (true), (by first | rfl | (simp; done) | (simp [*]; done)), H', ⟨by first | omega | exact Nat.le_refl _⟩, ⟨by (with_reducible repeat (first | apply Kd.R_alloc | apply Kd.R_drewN | apply Kd.R_drew)); exact Kd.R_mono HO500.out (fun _ hk => ⟨hk.1.2, ⟨hk.2, hk.1.1.2⟩⟩)⟩, ⟨by (with_reducible repeat (first | apply Kd.R_alloc | apply Kd.R_drewN | apply Kd.R_drew)); exact Kd.R_mono HO511.out (fun _ hk => ⟨hk.1.1.2, ⟨hk.2, hk.1.2⟩⟩)⟩, ⟨by (with_reducible repeat (first | apply Kd.R_alloc | apply Kd.R_drewN | apply Kd.R_drew)); exact Kd.R_mono HO515.out (fun _ hk => ⟨hk.1.1.2, ⟨hk.1.2, hk.2⟩⟩)⟩, ⟨by (with_reducible repeat (first | refine blk_drewN ?_ _ | refine blk_drew ?_ | refine blk_alloc ?_ _)); exact BK508.out⟩, ⟨belowA⟩⟩
  case rest =>
   clear HC6
   try clear c1
   try clear c2
   try clear c2b0
   try clear c2b1
   try clear p2
   try clear c3
   try clear c11
   try clear c14
   try clear c14b0
   try clear c14b1
   try clear c16
   try clear c18
   try clear c28
   try clear hcz12_0 hcz12_1 hcz12_2 hcz12_3 hcz12_4 hcz12_5 hcz12_6
   try clear hcz23_0 hcz23_1 hcz23_2 hcz23_3 hcz23_4 hcz23_5 hcz23_6
   try clear hcz9_0 hcz9_1 hcz9_2 hcz9_3 hcz9_4 hcz9_5 hcz9_6
   try clear hfz12_0 hfz12_1 hfz12_2 hfz12_3 hfz12_4 hfz12_5 hfz12_6
   try clear hfz23_0 hfz23_1 hfz23_2 hfz23_3 hfz23_4 hfz23_5 hfz23_6
   try clear hfz9_0 hfz9_1 hfz9_2 hfz9_3 hfz9_4 hfz9_5 hfz9_6
   obtain ⟨kq, x48_5, rfl, HA, HJ5, HO_3, HO_5, HO_7, BK508, HB⟩ := hcut
   cases kq with
   | zero => exact absurd HA.out (by simp [laws_FnLogAdd.j0])
   | succ kj5 =>
    have H := HA.out
    clear HA
    simp only [laws_FnLogAdd.j0] at H
    by_cases c30 : x48_5 = true
    ·subst c30
     have H1 : (if t516 = t512 then ((laws_lpLog.f kj5 t513 t509).bind fun t520 => (some t520)) else (some false)) = some r := by rw [if_pos rfl] at H; exact H
     clear H
     have H := H1
     clear H1
     by_cases c31 : t516 = t512
     ·rw [if_pos c31] at H
      have c31b0 : (t516 == t512) = true := beq_iff_eq.mpr c31
      have c31b1 : (t516 != t512) = false := bne_eq_false_iff_eq.mpr c31
      clear c31
      replace H := Option.bind_eq_some_iff.mp H
      obtain ⟨t520, A320, H⟩ := H
      (try dsimp only at H)
      have A32 := Aside0.mk A320
      clear A320
      obtain rfl := Option.some.inj H
      obtain ⟨Ao33, co33, eo33⟩ := Kd.R_slice HO_7.out
      subst eo33
      obtain ⟨Ao34, co34, eo34⟩ := Kd.R_slice HO_5.out
      subst eo34
      go_wp2_with (first | (go_at_call 35; (with_reducible refine (laws_lpLog.calls kj5 _ _ t513 _ _ t509 t520 _ ?side1 ?side2 ?side3 ?side4 A32.out).mono ?_); (case side1 => repeat (first | exact (Kd.R_reads' HO_7.out).2.2 | (with_reducible refine Kd.C_alloc ?_ _) | (with_reducible refine Kd.C_drewN ?_ _) | (with_reducible refine Kd.C_drew ?_))); (case side2 => exact (Kd.R_reads' HO_7.out).2.1); (case side3 => repeat (first | exact (Kd.R_reads' HO_5.out).2.2 | (with_reducible refine Kd.C_alloc ?_ _) | (with_reducible refine Kd.C_drewN ?_ _) | (with_reducible refine Kd.C_drew ?_))); (case side4 => exact (Kd.R_reads' HO_5.out).2.1); rintro e w' ⟨rfl, ⟨nd, rfl⟩⟩))
      go_ret
      exact ⟨endA, belowA⟩
     ·rw [if_neg c31] at H
      have c31b0 : (t516 == t512) = false := beq_eq_false_iff_ne.mpr c31
      have c31b1 : (t516 != t512) = true := bne_iff_ne.mpr c31
      obtain rfl := Option.some.inj H
      go_wp2
      go_ret
      exact ⟨endA, belowA⟩
    ·replace c30 := Bool.eq_false_iff.mpr c30
     subst c30
     have H1 : ((laws_lpHas.f kj5 t498 t501 t502 t503 t504 t505 t506 t507).bind fun t521 => (if t521 = true then (if t516 = 0 then ((laws_lpLog.f kj5 t513 t498).bind fun t522 => (some t522)) else (some false)) else ((impl_LogSeq.f t498 t501).bind fun t523 => (if t502 = (wrap64 (t523 + 1)) then (laws_FnLogAdd.j1 kj5 t498 t513 t516 (decide ((t498.length : Int) < 40)) t501 t502 t503 t504 t505 t506 t507) else (laws_FnLogAdd.j1 kj5 t498 t513 t516 false t501 t502 t503 t504 t505 t506 t507))))) = some r := by rw [if_neg (show ¬ (false = true) by decide)] at H; exact H
     clear H
     have H := H1
     clear H1
     replace H := Option.bind_eq_some_iff.mp H
     obtain ⟨t521, A350, H⟩ := H
     (try dsimp only at H)
     have A35 := Aside0.mk A350
     clear A350
     by_cases c36 : t521 = true
     ·subst c36
      have H1 : (if t516 = 0 then ((laws_lpLog.f kj5 t513 t498).bind fun t522 => (some t522)) else (some false)) = some r := by rw [if_pos rfl] at H; exact H
      clear H
      have H := H1
      clear H1
      by_cases c37 : t516 = 0
      ·rw [if_pos c37] at H
       have c37b0 : (t516 == 0) = true := beq_iff_eq.mpr c37
       have c37b1 : (t516 != 0) = false := bne_eq_false_iff_eq.mpr c37
       clear c37
       replace H := Option.bind_eq_some_iff.mp H
       obtain ⟨t522, A380, H⟩ := H
       (try dsimp only at H)
       have A38 := Aside0.mk A380
       clear A380
       obtain rfl := Option.some.inj H
       obtain ⟨hcz39_0, hcz39_1, hcz39_2, hcz39_3, hcz39_4, hcz39_5, hcz39_6, hfz39_0, hfz39_1, hfz39_2, hfz39_3, hfz39_4, hfz39_5, hfz39_6⟩ := blk_facts7 BK508.out
       go_wp2_with (first | ((with_reducible refine gate_callee (f := 36) rfl ?_); refine goesL_ (some 59) rfl rfl Tryd.func36 (by kernel_rfl) rfl #[.slice Ao10 t498.length co10, .agg #[.int .i64 t501, .int .i64 t502, .int .i64 t503, .int .i64 t504, .int .i64 t505, .int .i64 t506, .string t507]] rfl argsA ?_; (with_reducible refine (laws_lpHas.calls kj5 _ _ t498 t501 t502 t503 t504 t505 t506 t507 true _ ?side1 ?side2 A35.out).mono ?_); (case side1 => repeat (first | exact (Kd.R_reads' HO_3.out).2.2 | (with_reducible refine Kd.C_alloc ?_ _) | (with_reducible refine Kd.C_drewN ?_ _) | (with_reducible refine Kd.C_drew ?_))); (case side2 => exact (Kd.R_reads' HO_3.out).2.1); rintro e w40 ⟨rfl, hb⟩; refine ⟨_, rfl, ?_⟩; have n0_ := Aside0.mk (Kd.R_below (RA HO_3) hb); have n1_ := Aside0.mk (Kd.R_below (RA HO_5) hb); have n2_ := Aside0.mk (Kd.R_below (RA HO_7) hb); have n3_ := Aside0.mk (blk_below (g := gb508) (o := .cells #[.int .i64 t501, .int .i64 t502, .int .i64 t503, .int .i64 t504, .int .i64 t505, .int .i64 t506, .string t507] 26 (0, 0)) blkA hb); have n4_ := Aside0.mk (below_step belowA hb); clear HO_3; clear HO_5; clear HO_7; clear BK508; clear HB; have HO_3 := n0_; have HO_5 := n1_; have HO_7 := n2_; have BK508 := n3_; have HB := n4_; clear n0_ n1_ n2_ n3_ n4_; (try clear hb); (try clear hb2); (try clear hk); (try clear hi); obtain ⟨Ao41, co41, eo41⟩ := Kd.R_slice HO_7.out; subst eo41) | (go_at_call 35; (with_reducible refine (laws_lpLog.calls kj5 _ _ t513 _ _ t498 t522 _ ?side1 ?side2 ?side3 ?side4 A38.out).mono ?_); (case side1 => repeat (first | exact (Kd.R_reads' HO_7.out).2.2 | (with_reducible refine Kd.C_alloc ?_ _) | (with_reducible refine Kd.C_drewN ?_ _) | (with_reducible refine Kd.C_drew ?_))); (case side2 => exact (Kd.R_reads' HO_7.out).2.1); (case side3 => repeat (first | exact (Kd.R_reads' HO_3.out).2.2 | (with_reducible refine Kd.C_alloc ?_ _) | (with_reducible refine Kd.C_drewN ?_ _) | (with_reducible refine Kd.C_drew ?_))); (case side4 => exact (Kd.R_reads' HO_3.out).2.1); rintro e w' ⟨rfl, ⟨nd, rfl⟩⟩))
       go_ret
       exact ⟨endA, belowA⟩
      ·rw [if_neg c37] at H
       have c37b0 : (t516 == 0) = false := beq_eq_false_iff_ne.mpr c37
       have c37b1 : (t516 != 0) = true := bne_iff_ne.mpr c37
       obtain rfl := Option.some.inj H
       obtain ⟨hcz42_0, hcz42_1, hcz42_2, hcz42_3, hcz42_4, hcz42_5, hcz42_6, hfz42_0, hfz42_1, hfz42_2, hfz42_3, hfz42_4, hfz42_5, hfz42_6⟩ := blk_facts7 BK508.out
       go_wp2_with (first | ((with_reducible refine gate_callee (f := 36) rfl ?_); refine goesL_ (some 59) rfl rfl Tryd.func36 (by kernel_rfl) rfl #[.slice Ao10 t498.length co10, .agg #[.int .i64 t501, .int .i64 t502, .int .i64 t503, .int .i64 t504, .int .i64 t505, .int .i64 t506, .string t507]] rfl argsA ?_; (with_reducible refine (laws_lpHas.calls kj5 _ _ t498 t501 t502 t503 t504 t505 t506 t507 true _ ?side1 ?side2 A35.out).mono ?_); (case side1 => repeat (first | exact (Kd.R_reads' HO_3.out).2.2 | (with_reducible refine Kd.C_alloc ?_ _) | (with_reducible refine Kd.C_drewN ?_ _) | (with_reducible refine Kd.C_drew ?_))); (case side2 => exact (Kd.R_reads' HO_3.out).2.1); rintro e w43 ⟨rfl, hb⟩; refine ⟨_, rfl, ?_⟩; have n0_ := Aside0.mk (Kd.R_below (RA HO_3) hb); have n1_ := Aside0.mk (Kd.R_below (RA HO_5) hb); have n2_ := Aside0.mk (Kd.R_below (RA HO_7) hb); have n3_ := Aside0.mk (blk_below (g := gb508) (o := .cells #[.int .i64 t501, .int .i64 t502, .int .i64 t503, .int .i64 t504, .int .i64 t505, .int .i64 t506, .string t507] 26 (0, 0)) blkA hb); have n4_ := Aside0.mk (below_step belowA hb); clear HO_3; clear HO_5; clear HO_7; clear BK508; clear HB; have HO_3 := n0_; have HO_5 := n1_; have HO_7 := n2_; have BK508 := n3_; have HB := n4_; clear n0_ n1_ n2_ n3_ n4_; (try clear hb); (try clear hb2); (try clear hk); (try clear hi)))
       go_ret
       exact ⟨endA, belowA⟩
     ·replace c36 := Bool.eq_false_iff.mpr c36
      subst c36
      have H1 : ((impl_LogSeq.f t498 t501).bind fun t523 => (if t502 = (wrap64 (t523 + 1)) then (laws_FnLogAdd.j1 kj5 t498 t513 t516 (decide ((t498.length : Int) < 40)) t501 t502 t503 t504 t505 t506 t507) else (laws_FnLogAdd.j1 kj5 t498 t513 t516 false t501 t502 t503 t504 t505 t506 t507))) = some r := by rw [if_neg (show ¬ (false = true) by decide)] at H; exact H
      clear H
      have H := H1
      clear H1
      have HC44 := Aside0.mk H
      clear H
      obtain ⟨hcz45_0, hcz45_1, hcz45_2, hcz45_3, hcz45_4, hcz45_5, hcz45_6, hfz45_0, hfz45_1, hfz45_2, hfz45_3, hfz45_4, hfz45_5, hfz45_6⟩ := blk_facts7 BK508.out
      go_upto_region 10 with (first | ((with_reducible refine gate_callee (f := 36) rfl ?_); refine goesL_ (some 59) rfl rfl Tryd.func36 (by kernel_rfl) rfl #[.slice Ao10 t498.length co10, .agg #[.int .i64 t501, .int .i64 t502, .int .i64 t503, .int .i64 t504, .int .i64 t505, .int .i64 t506, .string t507]] rfl argsA ?_; (with_reducible refine (laws_lpHas.calls kj5 _ _ t498 t501 t502 t503 t504 t505 t506 t507 false _ ?side1 ?side2 A35.out).mono ?_); (case side1 => repeat (first | exact (Kd.R_reads' HO_3.out).2.2 | (with_reducible refine Kd.C_alloc ?_ _) | (with_reducible refine Kd.C_drewN ?_ _) | (with_reducible refine Kd.C_drew ?_))); (case side2 => exact (Kd.R_reads' HO_3.out).2.1); rintro e w46 ⟨rfl, hb⟩; refine ⟨_, rfl, ?_⟩; have n0_ := Aside0.mk (Kd.R_below (RA HO_3) hb); have n1_ := Aside0.mk (Kd.R_below (RA HO_5) hb); have n2_ := Aside0.mk (Kd.R_below (RA HO_7) hb); have n3_ := Aside0.mk (blk_below (g := gb508) (o := .cells #[.int .i64 t501, .int .i64 t502, .int .i64 t503, .int .i64 t504, .int .i64 t505, .int .i64 t506, .string t507] 26 (0, 0)) blkA hb); have n4_ := Aside0.mk (below_step belowA hb); clear HO_3; clear HO_5; clear HO_7; clear BK508; clear HB; have HO_3 := n0_; have HO_5 := n1_; have HO_7 := n2_; have BK508 := n3_; have HB := n4_; clear n0_ n1_ n2_ n3_ n4_; (try clear hb); (try clear hb2); (try clear hk); (try clear hi)))
      (try simp only [Act.put, List.setIfInBounds_toArray, List.set_cons_zero, List.set_cons_succ])
      go_cut [9] (fun v9 wc => ∃ (kq : Nat) (x9_43 : Bool), v9 = .bool x9_43 ∧ Aside0 (laws_FnLogAdd.j1 kq t498 t513 t516 x9_43 t501 t502 t503 t504 t505 t506 t507 = some r) ∧ Aside0 (kq ≤ kj5) ∧ Aside0 (Kd.R k26 26 wc w.heap.size (fun k_ => some k_ ≠ (v514 : Value).ownBlock ∧ k_ ≠ gb508) (.slice Ao10 t498.length co10) t498) ∧ Aside0 (Kd.R k26 26 wc w.heap.size (fun k_ => some k_ ≠ ((.slice Ao10 t498.length co10) : Value).ownBlock ∧ k_ ≠ gb508) v514 t513) ∧ Aside0 (wc.heap[gb508]? = some (.cells #[.int .i64 t501, .int .i64 t502, .int .i64 t503, .int .i64 t504, .int .i64 t505, .int .i64 t506, .string t507] 26 (0, 0))) ∧ Aside0 (Below w.heap.size w wc))
      case first =>
       have H := HC44.out
       clear HC44
       replace H := Option.bind_eq_some_iff.mp H
       obtain ⟨t523, A470, H⟩ := H
       (try dsimp only at H)
       have A47 := Aside0.mk A470
       clear A470
       by_cases c48 : t502 = (wrap64 (t523 + 1))
       ·rw [if_pos c48] at H
        have c48b0 : (t502 == (wrap64 (t523 + 1))) = true := beq_iff_eq.mpr c48
        have c48b1 : (t502 != (wrap64 (t523 + 1))) = false := bne_eq_false_iff_eq.mpr c48
        clear c48
        (first | rw [c48b0] | (simp only [i64_w, i32_w]; rw [c48b0]) | skip)
        have H' := Aside0.mk H
        clear H
        try go_wp2
        have n0_ := Aside0.mk (Kd.R_drew HO_3.out)
        have n1_ := Aside0.mk (Kd.R_drew HO_5.out)
        have n2_ := Aside0.mk (Kd.R_drew HO_7.out)
        have n3_ := Aside0.mk (blk_drew BK508.out)
        have n4_ := Aside0.mk (below_drew1 HB.out)
        clear HO_3
        clear HO_5
        clear HO_7
        clear BK508
        clear HB
        have HO_3 := n0_
        have HO_5 := n1_
        have HO_7 := n2_
        have BK508 := n3_
        have HB := n4_
        clear n0_ n1_ n2_ n3_ n4_
        refine start_ (n := 14) (S := fun w' => w'.cell? ⟨gb508, 0, none⟩ = some (.int .i64 t501) ∧ w'.cell? ⟨gb508, 1, none⟩ = some (.int .i64 t502) ∧ w'.cell? ⟨gb508, 2, none⟩ = some (.int .i64 t503) ∧ w'.cell? ⟨gb508, 3, none⟩ = some (.int .i64 t504) ∧ w'.cell? ⟨gb508, 4, none⟩ = some (.int .i64 t505) ∧ w'.cell? ⟨gb508, 5, none⟩ = some (.int .i64 t506) ∧ w'.cell? ⟨gb508, 6, none⟩ = some (.string t507)) (ds := []) (tf 0 14) (by kernel_rfl) rfl rfl (bk7 BK508) (fun hHeld => ?_); refine with_tabW laws_FnLogAdd.tab10 laws_FnLogAdd.bits10 (fun HT_ HW_ => ?_)
        generalize w46.drew = w49 at HO_3 HO_5 HO_7 BK508 HB hHeld ⊢
        refine pure_ (i := 0) (N := some 67) (tf 1 13) rfl rfl (anA HT_) (fun _ _ _ h => h) yldA putA ?_
        refine pure_ (i := 2) (N := some 69) #[true, false, true, false, false, false, false, false, false, false, false, false, false, false] rfl rfl (anA HT_) (fun _ _ _ h => h) yldA putA ?_
        refine pure_ (i := 3) (N := some 70) #[true, false, true, true, false, false, false, false, false, false, false, false, false, false] rfl rfl (anA HT_) (fun _ _ _ h => h) yldA putA ?_
        refine take_ (i := 1) (N := some 68) (tf 4 10) rfl rfl (take_ofW HT_.out HW_.out (by kernel_rfl)) (fun _ _ _ h => h) (Or.inl ⟨by rfl, by rintro w' ⟨s0, s1, s2, s3, s4, s5, s6⟩; go_simp; with_reducible rfl⟩) hHeld putA ?_
        refine take_ (i := 4) (N := some 71) (tf 5 9) rfl rfl (take_ofW HT_.out HW_.out (by kernel_rfl)) (fun _ _ _ h => h) (Or.inl ⟨by rfl, by rintro w' ⟨s0, s1, s2, s3, s4, s5, s6⟩; go_simp; with_reducible rfl⟩) hHeld putA ?_
        refine one_ (i := 5) (N := some 72) (tf 6 8) rfl rfl (one_of HT_.out (by kernel_rfl)) (by decide) (fun K hK => ?_)
        refine goes_ Tryd.func21 (by kernel_rfl) rfl #[.slice Ao10 t498.length co10, .int .i64 t501] (by rfl) rfl rfl argsA ?_
        with_reducible refine (impl_LogSeq.calls _ _ t498 t501 t523 _ ?side1 ?side2 ?side3 A47.out).mono ?_
        (case side1 => repeat (first | exact (Kd.R_reads' HO_3.out).2.2 | (with_reducible refine Kd.C_alloc ?_ _) | (with_reducible refine Kd.C_drewN ?_ _) | (with_reducible refine Kd.C_drew ?_)))
        (case side2 => exact (Kd.R_reads' HO_3.out).2.1)
        (case side3 => exact TabOk.below HT.out belowA)
        rintro e w50 ⟨rfl, hb⟩
        refine ⟨_, rfl, ?_⟩
        have n0_ := Aside0.mk (Kd.R_below (RA HO_3) hb)
        have n1_ := Aside0.mk (Kd.R_below (RA HO_5) hb)
        have n2_ := Aside0.mk (Kd.R_below (RA HO_7) hb)
        have n3_ := Aside0.mk (blk_below (g := gb508) (o := .cells #[.int .i64 t501, .int .i64 t502, .int .i64 t503, .int .i64 t504, .int .i64 t505, .int .i64 t506, .string t507] 26 (0, 0)) blkA hb)
        have n4_ := Aside0.mk (below_step belowA hb)
        clear HO_3
        clear HO_5
        clear HO_7
        clear BK508
        clear HB
        have HO_3 := n0_
        have HO_5 := n1_
        have HO_7 := n2_
        have BK508 := n3_
        have HB := n4_
        clear n0_ n1_ n2_ n3_ n4_
        (try clear hb)
        (try clear hb2)
        (try clear hk)
        (try clear hi)
        refine hK.out _ _ (bk7 BK508) (fun hHeld => ?_)
        clear hK K
        refine norm_ (a' := ?_) ?_ ?_
        rotate_left
        ·show Act.put _ (some 72) _ = _
         simp only [Act.put, List.setIfInBounds_toArray, List.set_cons_zero, List.set_cons_succ, i64_w, i32_w]
         rfl
        refine pure_ (i := 6) (N := some 73) (tf 7 7) rfl rfl (anA HT_) (fun _ _ _ h => h) yldA putA ?_
        refine pure_ (i := 7) (N := some 74) (tf 8 6) rfl rfl (anA HT_) (fun _ _ _ h => h) yldA putA ?_
        refine pure_ (i := 8) (N := some 75) (tf 9 5) rfl rfl (anA HT_) (fun _ _ _ h => h) yldA putA ?_
        refine pure_ (i := 9) (N := some 76) (tf 10 4) rfl rfl (anA HT_) (fun _ _ _ h => h) yldA putA ?_
        refine pure_ (i := 10) (N := some 77) (tf 11 3) rfl rfl (anA HT_) (fun _ _ _ h => h) yldA putA ?_
        refine pure_ (i := 11) (N := some 78) (tf 12 2) rfl rfl (anA HT_) (fun _ _ _ h => h) yldA putA ?_
        refine pure_ (i := 12) (N := some 79) (tf 13 1) rfl rfl (anA HT_) (fun _ _ _ h => h) yldA putA ?_
        refine pure_ (i := 13) (N := some 9) (tf 14 0) rfl rfl (anA HT_) (fun _ _ _ h => h) yldA putA ?_
        refine done_ (done_of HT_.out (by kernel_rfl)) ?_
        try go_wp2
        go_meet
        case rel => exact ⟨_, (decide ((t498.length : Int) < 40)), (by first | rfl | (simp; done) | (simp [*]; done)), H', ⟨by have := HJ5.out; first | omega | exact Nat.le_refl _⟩, ⟨by (with_reducible repeat (first | apply Kd.R_alloc | apply Kd.R_drewN | apply Kd.R_drew)); exact Kd.R_mono HO_3.out (fun _ hk => ⟨hk.2.1, hk.2.2⟩)⟩, ⟨by (with_reducible repeat (first | apply Kd.R_alloc | apply Kd.R_drewN | apply Kd.R_drew)); exact Kd.R_mono HO_7.out (fun _ hk => ⟨hk.1, hk.2.2⟩)⟩, ⟨by (with_reducible repeat (first | refine blk_drewN ?_ _ | refine blk_drew ?_ | refine blk_alloc ?_ _)); exact BK508.out⟩, ⟨belowA⟩⟩
       ·rw [if_neg c48] at H
        have c48b0 : (t502 == (wrap64 (t523 + 1))) = false := beq_eq_false_iff_ne.mpr c48
        have c48b1 : (t502 != (wrap64 (t523 + 1))) = true := bne_iff_ne.mpr c48
        (first | rw [c48b0] | (simp only [i64_w, i32_w]; rw [c48b0]) | skip)
        have H' := Aside0.mk H
        clear H
        try go_wp2
        have n0_ := Aside0.mk (Kd.R_drew HO_3.out)
        have n1_ := Aside0.mk (Kd.R_drew HO_5.out)
        have n2_ := Aside0.mk (Kd.R_drew HO_7.out)
        have n3_ := Aside0.mk (blk_drew BK508.out)
        have n4_ := Aside0.mk (below_drew1 HB.out)
        clear HO_3
        clear HO_5
        clear HO_7
        clear BK508
        clear HB
        have HO_3 := n0_
        have HO_5 := n1_
        have HO_7 := n2_
        have BK508 := n3_
        have HB := n4_
        clear n0_ n1_ n2_ n3_ n4_
        refine start_ (n := 14) (S := fun w' => w'.cell? ⟨gb508, 0, none⟩ = some (.int .i64 t501) ∧ w'.cell? ⟨gb508, 1, none⟩ = some (.int .i64 t502) ∧ w'.cell? ⟨gb508, 2, none⟩ = some (.int .i64 t503) ∧ w'.cell? ⟨gb508, 3, none⟩ = some (.int .i64 t504) ∧ w'.cell? ⟨gb508, 4, none⟩ = some (.int .i64 t505) ∧ w'.cell? ⟨gb508, 5, none⟩ = some (.int .i64 t506) ∧ w'.cell? ⟨gb508, 6, none⟩ = some (.string t507)) (ds := []) (tf 0 14) (by kernel_rfl) rfl rfl (bk7 BK508) (fun hHeld => ?_); refine with_tabW laws_FnLogAdd.tab10 laws_FnLogAdd.bits10 (fun HT_ HW_ => ?_)
        generalize w46.drew = w51 at HO_3 HO_5 HO_7 BK508 HB hHeld ⊢
        refine pure_ (i := 0) (N := some 67) (tf 1 13) rfl rfl (anA HT_) (fun _ _ _ h => h) yldA putA ?_
        refine pure_ (i := 2) (N := some 69) #[true, false, true, false, false, false, false, false, false, false, false, false, false, false] rfl rfl (anA HT_) (fun _ _ _ h => h) yldA putA ?_
        refine pure_ (i := 3) (N := some 70) #[true, false, true, true, false, false, false, false, false, false, false, false, false, false] rfl rfl (anA HT_) (fun _ _ _ h => h) yldA putA ?_
        refine take_ (i := 1) (N := some 68) (tf 4 10) rfl rfl (take_ofW HT_.out HW_.out (by kernel_rfl)) (fun _ _ _ h => h) (Or.inl ⟨by rfl, by rintro w' ⟨s0, s1, s2, s3, s4, s5, s6⟩; go_simp; with_reducible rfl⟩) hHeld putA ?_
        refine take_ (i := 4) (N := some 71) (tf 5 9) rfl rfl (take_ofW HT_.out HW_.out (by kernel_rfl)) (fun _ _ _ h => h) (Or.inl ⟨by rfl, by rintro w' ⟨s0, s1, s2, s3, s4, s5, s6⟩; go_simp; with_reducible rfl⟩) hHeld putA ?_
        refine one_ (i := 5) (N := some 72) (tf 6 8) rfl rfl (one_of HT_.out (by kernel_rfl)) (by decide) (fun K hK => ?_)
        refine goes_ Tryd.func21 (by kernel_rfl) rfl #[.slice Ao10 t498.length co10, .int .i64 t501] (by rfl) rfl rfl argsA ?_
        with_reducible refine (impl_LogSeq.calls _ _ t498 t501 t523 _ ?side1 ?side2 ?side3 A47.out).mono ?_
        (case side1 => repeat (first | exact (Kd.R_reads' HO_3.out).2.2 | (with_reducible refine Kd.C_alloc ?_ _) | (with_reducible refine Kd.C_drewN ?_ _) | (with_reducible refine Kd.C_drew ?_)))
        (case side2 => exact (Kd.R_reads' HO_3.out).2.1)
        (case side3 => exact TabOk.below HT.out belowA)
        rintro e w52 ⟨rfl, hb⟩
        refine ⟨_, rfl, ?_⟩
        have n0_ := Aside0.mk (Kd.R_below (RA HO_3) hb)
        have n1_ := Aside0.mk (Kd.R_below (RA HO_5) hb)
        have n2_ := Aside0.mk (Kd.R_below (RA HO_7) hb)
        have n3_ := Aside0.mk (blk_below (g := gb508) (o := .cells #[.int .i64 t501, .int .i64 t502, .int .i64 t503, .int .i64 t504, .int .i64 t505, .int .i64 t506, .string t507] 26 (0, 0)) blkA hb)
        have n4_ := Aside0.mk (below_step belowA hb)
        clear HO_3
        clear HO_5
        clear HO_7
        clear BK508
        clear HB
        have HO_3 := n0_
        have HO_5 := n1_
        have HO_7 := n2_
        have BK508 := n3_
        have HB := n4_
        clear n0_ n1_ n2_ n3_ n4_
        (try clear hb)
        (try clear hb2)
        (try clear hk)
        (try clear hi)
        refine hK.out _ _ (bk7 BK508) (fun hHeld => ?_)
        clear hK K
        refine norm_ (a' := ?_) ?_ ?_
        rotate_left
        ·show Act.put _ (some 72) _ = _
         simp only [Act.put, List.setIfInBounds_toArray, List.set_cons_zero, List.set_cons_succ, i64_w, i32_w]
         rfl
        refine pure_ (i := 6) (N := some 73) (tf 7 7) rfl rfl (anA HT_) (fun _ _ _ h => h) yldA putA ?_
        refine pure_ (i := 7) (N := some 74) (tf 8 6) rfl rfl (anA HT_) (fun _ _ _ h => h) yldA putA ?_
        refine pure_ (i := 8) (N := some 75) (tf 9 5) rfl rfl (anA HT_) (fun _ _ _ h => h) yldA putA ?_
        refine pure_ (i := 9) (N := some 76) (tf 10 4) rfl rfl (anA HT_) (fun _ _ _ h => h) yldU putA ?_
        refine pure_ (i := 10) (N := some 77) (tf 11 3) rfl rfl (anA HT_) (fun _ _ _ h => h) yldU putA ?_
        refine pure_ (i := 11) (N := some 78) (tf 12 2) rfl rfl (anA HT_) (fun _ _ _ h => h) yldU putA ?_
        refine pure_ (i := 12) (N := some 79) (tf 13 1) rfl rfl (anA HT_) (fun _ _ _ h => h) yldA putA ?_
        refine pure_ (i := 13) (N := some 9) (tf 14 0) rfl rfl (anA HT_) (fun _ _ _ h => h) yldA putA ?_
        refine done_ (done_of HT_.out (by kernel_rfl)) ?_
        try go_wp2
        go_meet
        case rel => exact ⟨_, (false), (by first | rfl | (simp; done) | (simp [*]; done)), H', ⟨by have := HJ5.out; first | omega | exact Nat.le_refl _⟩, ⟨by (with_reducible repeat (first | apply Kd.R_alloc | apply Kd.R_drewN | apply Kd.R_drew)); exact Kd.R_mono HO_3.out (fun _ hk => ⟨hk.2.1, hk.2.2⟩)⟩, ⟨by (with_reducible repeat (first | apply Kd.R_alloc | apply Kd.R_drewN | apply Kd.R_drew)); exact Kd.R_mono HO_7.out (fun _ hk => ⟨hk.1, hk.2.2⟩)⟩, ⟨by (with_reducible repeat (first | refine blk_drewN ?_ _ | refine blk_drew ?_ | refine blk_alloc ?_ _)); exact BK508.out⟩, ⟨belowA⟩⟩
      case rest =>
       clear HC44
       try clear c1
       try clear c2
       try clear c2b0
       try clear c2b1
       try clear p2
       try clear c3
       try clear c4
       try clear p6
       try clear c11
       try clear c14
       try clear c14b0
       try clear c14b1
       try clear c16
       try clear c18
       try clear c21
       try clear c28
       try clear c30
       try clear c31
       try clear c31b0
       try clear c31b1
       try clear c36
       try clear c37
       try clear c37b0
       try clear c37b1
       try clear c48
       try clear c48b0
       try clear c48b1
       try clear hcz12_0 hcz12_1 hcz12_2 hcz12_3 hcz12_4 hcz12_5 hcz12_6
       try clear hcz23_0 hcz23_1 hcz23_2 hcz23_3 hcz23_4 hcz23_5 hcz23_6
       try clear hcz39_0 hcz39_1 hcz39_2 hcz39_3 hcz39_4 hcz39_5 hcz39_6
       try clear hcz42_0 hcz42_1 hcz42_2 hcz42_3 hcz42_4 hcz42_5 hcz42_6
       try clear hcz45_0 hcz45_1 hcz45_2 hcz45_3 hcz45_4 hcz45_5 hcz45_6
       try clear hcz9_0 hcz9_1 hcz9_2 hcz9_3 hcz9_4 hcz9_5 hcz9_6
       try clear hfz12_0 hfz12_1 hfz12_2 hfz12_3 hfz12_4 hfz12_5 hfz12_6
       try clear hfz23_0 hfz23_1 hfz23_2 hfz23_3 hfz23_4 hfz23_5 hfz23_6
       try clear hfz39_0 hfz39_1 hfz39_2 hfz39_3 hfz39_4 hfz39_5 hfz39_6
       try clear hfz42_0 hfz42_1 hfz42_2 hfz42_3 hfz42_4 hfz42_5 hfz42_6
       try clear hfz45_0 hfz45_1 hfz45_2 hfz45_3 hfz45_4 hfz45_5 hfz45_6
       try clear hfz9_0 hfz9_1 hfz9_2 hfz9_3 hfz9_4 hfz9_5 hfz9_6
       try clear p2
       obtain ⟨kq, x9_43, rfl, HA, HJ43, HO_3, HO_7, BK508, HB⟩ := hcut
       cases kq with
       | zero => exact absurd HA.out (by simp [laws_FnLogAdd.j1])
       | succ kj43 =>
        have H := HA.out
        clear HA
        simp only [laws_FnLogAdd.j1] at H
        by_cases c53 : x9_43 = true
        ·subst c53
         have H1 : (if t516 = 1 then ((some (([] : List (S26)) : List (S26))).bind fun y524 => (if y524.length + t498.length < 2199023255552 then ((some (y524 ++ t498 : List (S26))).bind fun y527 => ((some (([(⟨t501, t502, (⟨t503, t504, t505, t506, t507⟩ : S24)⟩ : S26)] : List (S26)) : List (S26))).bind fun y530 => (if y527.length + y530.length < 2199023255552 then ((laws_lpLog.f kj43 t513 (y527 ++ y530)).bind fun t536 => (if t536 = true then ((impl_LogOk.f t513).bind fun t537 => (some t537)) else (some false))) else (none)))) else (none))) else (some false)) = some r := by rw [if_pos rfl] at H; exact H
         clear H
         have H := H1
         clear H1
         by_cases c54 : t516 = 1
         ·rw [if_pos c54] at H
          have c54b0 : (t516 == 1) = true := beq_iff_eq.mpr c54
          have c54b1 : (t516 != 1) = false := bne_eq_false_iff_eq.mpr c54
          clear c54
          obtain ⟨y524, hy524⟩ : ∃ y_ : List (S26), y_ = (([] : List (S26))) := ⟨_, rfl⟩
          replace H : (if y524.length + t498.length < 2199023255552 then ((some (y524 ++ t498 : List (S26))).bind fun y527 => ((some (([(⟨t501, t502, (⟨t503, t504, t505, t506, t507⟩ : S24)⟩ : S26)] : List (S26)) : List (S26))).bind fun y530 => (if y527.length + y530.length < 2199023255552 then ((laws_lpLog.f kj43 t513 (y527 ++ y530)).bind fun t536 => (if t536 = true then ((impl_LogOk.f t513).bind fun t537 => (some t537)) else (some false))) else (none)))) else (none)) = some r := by first | (rw [hy524]; with_reducible exact H) | (have H2_ := (Option.bind_some _ _).symm.trans H; rw [hy524]; with_reducible exact H2_) | (have H2_ := (Option.bind_some _ _).symm.trans H; with_reducible exact H2_) | with_reducible exact H | (rw [hy524]; exact H) | exact H
          have Ny524 := Aside0.mk hy524
          clear hy524
          by_cases c55 : y524.length + t498.length < 2199023255552
          ·rw [if_pos c55] at H
           have LMc55 := Aside0.mk c55
           clear c55
           obtain ⟨y527, hy527⟩ : ∃ y_ : List (S26), y_ = (y524 ++ t498) := ⟨_, rfl⟩
           replace H : ((some (([(⟨t501, t502, (⟨t503, t504, t505, t506, t507⟩ : S24)⟩ : S26)] : List (S26)) : List (S26))).bind fun y530 => (if y527.length + y530.length < 2199023255552 then ((laws_lpLog.f kj43 t513 (y527 ++ y530)).bind fun t536 => (if t536 = true then ((impl_LogOk.f t513).bind fun t537 => (some t537)) else (some false))) else (none))) = some r := by first | (rw [hy527]; with_reducible exact H) | (have H2_ := (Option.bind_some _ _).symm.trans H; rw [hy527]; with_reducible exact H2_) | (have H2_ := (Option.bind_some _ _).symm.trans H; with_reducible exact H2_) | with_reducible exact H | (rw [hy527]; exact H) | exact H
           have Ny527 := Aside0.mk hy527
           clear hy527
           obtain ⟨y530, hy530⟩ : ∃ y_ : List (S26), y_ = (([(⟨t501, t502, (⟨t503, t504, t505, t506, t507⟩ : S24)⟩ : S26)] : List (S26))) := ⟨_, rfl⟩
           replace H : (if y527.length + y530.length < 2199023255552 then ((laws_lpLog.f kj43 t513 (y527 ++ y530)).bind fun t536 => (if t536 = true then ((impl_LogOk.f t513).bind fun t537 => (some t537)) else (some false))) else (none)) = some r := by first | (rw [hy530]; with_reducible exact H) | (have H2_ := (Option.bind_some _ _).symm.trans H; rw [hy530]; with_reducible exact H2_) | (have H2_ := (Option.bind_some _ _).symm.trans H; with_reducible exact H2_) | with_reducible exact H | (rw [hy530]; exact H) | exact H
           have Ny530 := Aside0.mk hy530
           clear hy530
           by_cases c56 : y527.length + y530.length < 2199023255552
           ·rw [if_pos c56] at H
            have LMc56 := Aside0.mk c56
            clear c56
            obtain ⟨y533, hy533⟩ : ∃ y_ : List (S26), y_ = (y527 ++ y530) := ⟨_, rfl⟩
            replace H : ((laws_lpLog.f kj43 t513 y533).bind fun t536 => (if t536 = true then ((impl_LogOk.f t513).bind fun t537 => (some t537)) else (some false))) = some r := by first | (rw [hy533]; with_reducible exact H) | (have H2_ := (Option.bind_some _ _).symm.trans H; rw [hy533]; with_reducible exact H2_) | (have H2_ := (Option.bind_some _ _).symm.trans H; with_reducible exact H2_) | with_reducible exact H | (rw [hy533]; exact H) | exact H
            have Ny533 := Aside0.mk hy533
            clear hy533
            replace H := Option.bind_eq_some_iff.mp H
            obtain ⟨t536, A570, H⟩ := H
            (try dsimp only at H)
            have A57 := Aside0.mk A570
            clear A570
            by_cases c58 : t536 = true
            ·subst c58
             have H1 : ((impl_LogOk.f t513).bind fun t537 => (some t537)) = some r := by rw [if_pos rfl] at H; exact H
             clear H
             have H := H1
             clear H1
             replace H := Option.bind_eq_some_iff.mp H
             obtain ⟨t537, A590, H⟩ := H
             (try dsimp only at H)
             have A59 := Aside0.mk A590
             clear A590
             obtain rfl := Option.some.inj H
             obtain ⟨Ao60, co60, eo60⟩ := Kd.R_slice HO_7.out
             subst eo60
             try go_wp2
             have n0_ := Aside0.mk (Kd.R_drew HO_3.out)
             have n1_ := Aside0.mk (Kd.R_drew HO_7.out)
             have n2_ := Aside0.mk (blk_drew BK508.out)
             have n3_ := Aside0.mk (below_drew1 HB.out)
             clear HO_3
             clear HO_7
             clear BK508
             clear HB
             have HO_3 := n0_
             have HO_7 := n1_
             have BK508 := n2_
             have HB := n3_
             clear n0_ n1_ n2_ n3_
             refine start_ (n := 17) (S := fun w' => w'.cell? ⟨gb508, 0, none⟩ = some (.int .i64 t501) ∧ w'.cell? ⟨gb508, 1, none⟩ = some (.int .i64 t502) ∧ w'.cell? ⟨gb508, 2, none⟩ = some (.int .i64 t503) ∧ w'.cell? ⟨gb508, 3, none⟩ = some (.int .i64 t504) ∧ w'.cell? ⟨gb508, 4, none⟩ = some (.int .i64 t505) ∧ w'.cell? ⟨gb508, 5, none⟩ = some (.int .i64 t506) ∧ w'.cell? ⟨gb508, 6, none⟩ = some (.string t507)) (ds := []) (tf 0 17) (by kernel_rfl) rfl rfl (bk7 BK508) (fun hHeld => ?_); refine with_tabW laws_FnLogAdd.tab13 laws_FnLogAdd.bits13 (fun HT_ HW_ => ?_)
             generalize wc.drew = w61 at HO_3 HO_7 BK508 HB hHeld ⊢
             refine pure_ (i := 0) (N := some 89) (tf 1 16) rfl rfl (anA HT_) (fun _ _ _ h => h) yldA putA ?_
             refine pure_ (i := 1) (N := some 90) (tf 2 15) rfl rfl (anA HT_) (fun _ _ _ h => h) yldA putA ?_
             refine pure_ (i := 2) (N := some 91) (tf 3 14) rfl rfl (anA HT_) (fun _ _ _ h => h) yldA putA ?_
             refine pure_ (i := 3) (N := some 92) (tf 4 13) rfl rfl (anA HT_) (fun _ _ _ h => h) yldA putA ?_
             refine pure_ (i := 5) (N := some 94) #[true, true, true, true, false, true, false, false, false, false, false, false, false, false, false, false, false] rfl rfl (anA HT_) (fun _ _ _ h => h) yldA putA ?_
             refine take_ (i := 7) (N := some 96) #[true, true, true, true, false, true, false, true, false, false, false, false, false, false, false, false, false] rfl rfl (take_ofW HT_.out HW_.out (by kernel_rfl)) (fun _ _ _ h => h) (Or.inl ⟨by rfl, by rintro w' ⟨s0, s1, s2, s3, s4, s5, s6⟩; go_simp; with_reducible rfl⟩) hHeld putA ?_
             refine join_ (σ := Value × Value × Value) 8 (tf 9 8) (fun s_ => [(93, s_.1), (95, s_.2.1), (97, s_.2.2)]) (fun s_ w' => (w'.cell? ⟨gb508, 0, none⟩ = some (.int .i64 t501) ∧ w'.cell? ⟨gb508, 1, none⟩ = some (.int .i64 t502) ∧ w'.cell? ⟨gb508, 2, none⟩ = some (.int .i64 t503) ∧ w'.cell? ⟨gb508, 3, none⟩ = some (.int .i64 t504) ∧ w'.cell? ⟨gb508, 4, none⟩ = some (.int .i64 t505) ∧ w'.cell? ⟨gb508, 5, none⟩ = some (.int .i64 t506) ∧ w'.cell? ⟨gb508, 6, none⟩ = some (.string t507)) ∧ (Kd.R k26 26 w' w.heap.size (fun k_ => some k_ ≠ (s_.2.2 : Value).ownBlock ∧ some k_ ≠ (.slice Ao10 t498.length co10 : Value).ownBlock ∧ some k_ ≠ (.slice Ao60 t513.length co60 : Value).ownBlock ∧ k_ ≠ gb508) s_.2.1 y527) ∧ (Kd.R k26 26 w' w.heap.size (fun k_ => some k_ ≠ (s_.2.1 : Value).ownBlock ∧ some k_ ≠ (.slice Ao10 t498.length co10 : Value).ownBlock ∧ some k_ ≠ (.slice Ao60 t513.length co60 : Value).ownBlock ∧ k_ ≠ gb508) s_.2.2 y530) ∧ (Kd.R k26 26 w' w.heap.size (fun k_ => some k_ ≠ (s_.2.1 : Value).ownBlock ∧ some k_ ≠ (s_.2.2 : Value).ownBlock ∧ some k_ ≠ (.slice Ao60 t513.length co60 : Value).ownBlock ∧ k_ ≠ gb508) (.slice Ao10 t498.length co10) t498) ∧ (Kd.R k26 26 w' w.heap.size (fun k_ => some k_ ≠ (s_.2.1 : Value).ownBlock ∧ some k_ ≠ (s_.2.2 : Value).ownBlock ∧ some k_ ≠ (.slice Ao10 t498.length co10 : Value).ownBlock ∧ k_ ≠ gb508) (.slice Ao60 t513.length co60) t513) ∧ (w'.heap[gb508]? = some (.cells #[.int .i64 t501, .int .i64 t502, .int .i64 t503, .int .i64 t504, .int .i64 t505, .int .i64 t506, .string t507] 26 (0, 0))) ∧ (Below w.heap.size w w')) ?_ ?_
             rotate_left
             ·intro hCont
              refine two_ (i := 4) (j := 8) (Ni := some 93) (Nj := some 97) #[true, true, true, true, true, true, false, true, false, false, false, false, false, false, false, false, false] #[true, true, true, true, false, true, false, true, true, false, false, false, false, false, false, false, false] rfl rfl rfl rfl (two_of HT_.out (by kernel_rfl)) (by decide) (by decide) (fun K hK => ?_) (fun K hK => ?_)
              ·skip
               refine Kd.R_lit_step k26 _ 26 ?hg (N := 93) ?hd (xs := ([] : List (S26))) (inner := []) (ok := fun _ => True) (okp := fun _ => True) ?hr ?hp (fun _ hk => hk) trivial (Below.refl _ _) (Nat.le_refl _) (by simp) ?_; (case hd => rfl); (case hg => rfl); (case hr => first | (go_simp; done) | (go_simp; rfl)); (case hp => exact (Reps.none _ _))
               intro v525 w62 ho63 hb hg_ hnew_
               clear hg_ hnew_
               (first | rw [← Ny524.out] at ho63 | (simp only [Int.reduceToNat] at ho63; rw [← Ny524.out] at ho63))
               have n0_ := Aside0.mk (Kd.R_elder' (RA HO_3) (Kd.R_base ho63) hb)
               have n1_ := Aside0.mk (Kd.R_elder' (RA HO_7) (Kd.R_base ho63) hb)
               have n2_ := Aside0.mk (Kd.R_lower (Kd.R_newB (Kd.R_new' (Kd.R_new' ho63 (Kd.R_lt (RA HO_3))) (Kd.R_lt (RA HO_7))) (g := gb508) (o := .cells #[.int .i64 t501, .int .i64 t502, .int .i64 t503, .int .i64 t504, .int .i64 t505, .int .i64 t506, .string t507] 26 (0, 0)) blkA) (below_size belowA))
               have n3_ := Aside0.mk (blk_below (g := gb508) (o := .cells #[.int .i64 t501, .int .i64 t502, .int .i64 t503, .int .i64 t504, .int .i64 t505, .int .i64 t506, .string t507] 26 (0, 0)) blkA hb)
               have n4_ := Aside0.mk (below_step belowA hb)
               clear HO_3
               clear HO_7
               clear BK508
               clear HB
               have HO_3 := n0_
               have HO_7 := n1_
               have HO526 := n2_
               have BK508 := n3_
               have HB := n4_
               clear n0_ n1_ n2_ n3_ n4_
               clear hb ho63
               refine hK.out _ _ (bk7 BK508) (fun hHeld => ?_)
               clear hK K
               refine norm_ (a' := ?_) ?_ ?_
               rotate_left
               ·show Act.put _ (some 93) _ = _
                simp only [Act.put, List.setIfInBounds_toArray, List.set_cons_zero, List.set_cons_succ, i64_w, i32_w]
                rfl
               refine two_ (i := 6) (j := 8) (Ni := some 95) (Nj := some 97) (tf 8 9) #[true, true, true, true, true, true, false, true, true, false, false, false, false, false, false, false, false] rfl rfl rfl rfl (two_of HT_.out (by kernel_rfl)) (by decide) (by decide) (fun K hK => ?_) (fun K hK => ?_)
               ·skip
                refine Kd.R_append_rows_step k26 (w0 := w) w.heap.size (by rfl) (.tmp 93) (.tmp 94) 33 26 (.agg #[(.int .i64 0), (.int .i64 0), (.int .i64 0), (.int .i64 0), (.int .i64 0), (.int .i64 0), (.string ⟨#[]⟩)]) 64 rfl Tryd.underlying33 info26 rfl (by decide) (by omega) v525 y524 t498 _ _ _ (fun k_ => some k_ ≠ (.slice Ao10 t498.length co10 : Value).ownBlock ∧ some k_ ≠ (.slice Ao60 t513.length co60 : Value).ownBlock ∧ k_ ≠ gb508) (fun _ => False) rfl rfl ?aO ?aR (fun _ _ h => h) (fun _ h => h.elim) ?aF ?aB ?aS ?aL ?_
                (case aR => repeat (first | exact (Kd.R_reads' HO_3.out).2.2 | (with_reducible refine Kd.C_alloc ?_ _) | (with_reducible refine Kd.C_drewN ?_ _) | (with_reducible refine Kd.C_drew ?_)))
                (case aB => exact belowA)
                (case aF => exact (fun k_ hk => ⟨Kd.fresh' (Kd.R_lt (RA HO_3)) k_ hk, Kd.fresh' (Kd.R_lt (RA HO_7)) k_ hk, Kd.freshB (g := gb508) (o := .cells #[.int .i64 t501, .int .i64 t502, .int .i64 t503, .int .i64 t504, .int .i64 t505, .int .i64 t506, .string t507] 26 (0, 0)) blkA k_ hk⟩))
                (case aO => exact (by (with_reducible repeat (first | apply Kd.R_alloc | apply Kd.R_drewN | apply Kd.R_drew)); exact Kd.R_mono HO526.out (fun _ hk => ⟨hk.1.1.2, ⟨hk.1.2, hk.2⟩⟩)))
                (case aS => exact (below_size belowA))
                (case aL => have := LMc55.out; omega)
                intro v528 w64 ho hb hg hat
                rw [← Ny527.out] at ho
                have n0_ := Aside0.mk (Kd.R_after (ok := (fun k_ => some k_ ≠ (.slice Ao60 t513.length co60 : Value).ownBlock ∧ k_ ≠ gb508)) (RA HO_3) hg hat)
                have n1_ := Aside0.mk (Kd.R_after (ok := (fun k_ => some k_ ≠ (.slice Ao10 t498.length co10 : Value).ownBlock ∧ k_ ≠ gb508)) (RA HO_7) hg hat)
                have n2_ := Aside0.mk (blk_grown (g := gb508) (o := .cells #[.int .i64 t501, .int .i64 t502, .int .i64 t503, .int .i64 t504, .int .i64 t505, .int .i64 t506, .string t507] 26 (0, 0)) blkA hg (Kd.R_away HO526.out (fun _ hk => hk.2)))
                have n3_ := Aside0.mk (hb)
                have n4_ := Aside0.mk (ho)
                clear HO_3
                clear HO_7
                clear BK508
                clear HB
                clear HO526
                have HO_3 := n0_
                have HO_7 := n1_
                have BK508 := n2_
                have HB := n3_
                have HO529 := n4_
                clear n0_ n1_ n2_ n3_ n4_
                clear ho hb hg hat
                refine hK.out _ _ (bk7 BK508) (fun hHeld => ?_)
                clear hK K
                refine norm_ (a' := ?_) ?_ ?_
                rotate_left
                ·show Act.put _ (some 95) _ = _
                 simp only [Act.put, List.setIfInBounds_toArray, List.set_cons_zero, List.set_cons_succ, i64_w, i32_w]
                 rfl
                refine one_ (i := 8) (N := some 97) (tf 9 8) rfl rfl (one_of HT_.out (by kernel_rfl)) (by decide) (fun K hK => ?_)
                refine Kd.R_lit_step k26 _ 26 ?hg (N := 97) ?hd (xs := ([(⟨t501, t502, (⟨t503, t504, t505, t506, t507⟩ : S24)⟩ : S26)] : List (S26))) (inner := [.int .i64 t501, .int .i64 t502, .int .i64 t503, .int .i64 t504, .int .i64 t505, .int .i64 t506, .string t507]) (ok := fun _ => True) (okp := fun _ => True) ?hr ?hp (fun _ hk => hk) trivial (Below.refl _ _) (Nat.le_refl _) (by simp) ?_; (case hd => rfl); (case hg => rfl); (case hr => first | (go_simp; done) | (go_simp; rfl)); (case hp => exact (Reps.c7 (show Kd.M k26 _ _ _ (⟨t501, t502, (⟨t503, t504, t505, t506, t507⟩ : S24)⟩ : S26) [.int .i64 t501, .int .i64 t502, .int .i64 t503, .int .i64 t504, .int .i64 t505, .int .i64 t506, .string t507] from (k26_mkM _ _ _ (⟨t501, t502, (⟨t503, t504, t505, t506, t507⟩ : S24)⟩ : S26) )) (Reps.none _ _)))
                intro v531 w65 ho66 hb hg_ hnew_
                clear hg_ hnew_
                (first | rw [← Ny530.out] at ho66 | (simp only [Int.reduceToNat] at ho66; rw [← Ny530.out] at ho66))
                have n0_ := Aside0.mk (Kd.R_elder' (RA HO_3) (Kd.R_base ho66) hb)
                have n1_ := Aside0.mk (Kd.R_elder' (RA HO_7) (Kd.R_base ho66) hb)
                have n2_ := Aside0.mk (Kd.R_elder' (RA HO529) (Kd.R_base ho66) hb)
                have n3_ := Aside0.mk (Kd.R_lower (Kd.R_newB (Kd.R_new' (Kd.R_new' (Kd.R_new' ho66 (Kd.R_lt (RA HO_3))) (Kd.R_lt (RA HO_7))) (Kd.R_lt (RA HO529))) (g := gb508) (o := .cells #[.int .i64 t501, .int .i64 t502, .int .i64 t503, .int .i64 t504, .int .i64 t505, .int .i64 t506, .string t507] 26 (0, 0)) blkA) (below_size belowA))
                have n4_ := Aside0.mk (blk_below (g := gb508) (o := .cells #[.int .i64 t501, .int .i64 t502, .int .i64 t503, .int .i64 t504, .int .i64 t505, .int .i64 t506, .string t507] 26 (0, 0)) blkA hb)
                have n5_ := Aside0.mk (below_step belowA hb)
                clear HO_3
                clear HO_7
                clear HO529
                clear BK508
                clear HB
                have HO_3 := n0_
                have HO_7 := n1_
                have HO529 := n2_
                have HO532 := n3_
                have BK508 := n4_
                have HB := n5_
                clear n0_ n1_ n2_ n3_ n4_ n5_
                clear hb ho66
                refine hK.out _ _ (bk7 BK508) (fun hHeld => ?_)
                clear hK K
                refine norm_ (a' := ?_) ?_ ?_
                rotate_left
                ·show Act.put _ (some 97) _ = _
                 simp only [Act.put, List.setIfInBounds_toArray, List.set_cons_zero, List.set_cons_succ, i64_w, i32_w]
                 rfl
                exact norm_ (by simp only [putAll, Act.put, List.setIfInBounds_toArray, List.set_cons_zero, List.set_cons_succ]) (hCont (v525, v528, v531) _ ⟨hHeld, (by (with_reducible repeat (first | apply Kd.R_alloc | apply Kd.R_drewN | apply Kd.R_drew)); exact Kd.R_mono HO529.out (fun _ hk => ⟨hk.2, ⟨hk.1.1, ⟨hk.1.2.1, hk.1.2.2⟩⟩⟩)), (by (with_reducible repeat (first | apply Kd.R_alloc | apply Kd.R_drewN | apply Kd.R_drew)); exact Kd.R_mono HO532.out (fun _ hk => ⟨hk.1.2, ⟨hk.1.1.1.2, ⟨hk.1.1.2, hk.2⟩⟩⟩)), (by (with_reducible repeat (first | apply Kd.R_alloc | apply Kd.R_drewN | apply Kd.R_drew)); exact Kd.R_mono HO_3.out (fun _ hk => ⟨hk.1.2, ⟨hk.2, ⟨hk.1.1.1, hk.1.1.2⟩⟩⟩)), (by (with_reducible repeat (first | apply Kd.R_alloc | apply Kd.R_drewN | apply Kd.R_drew)); exact Kd.R_mono HO_7.out (fun _ hk => ⟨hk.1.2, ⟨hk.2, ⟨hk.1.1.1, hk.1.1.2⟩⟩⟩)), blkA, belowA⟩)
               ·skip
                refine Kd.R_lit_step k26 _ 26 ?hg (N := 97) ?hd (xs := ([(⟨t501, t502, (⟨t503, t504, t505, t506, t507⟩ : S24)⟩ : S26)] : List (S26))) (inner := [.int .i64 t501, .int .i64 t502, .int .i64 t503, .int .i64 t504, .int .i64 t505, .int .i64 t506, .string t507]) (ok := fun _ => True) (okp := fun _ => True) ?hr ?hp (fun _ hk => hk) trivial (Below.refl _ _) (Nat.le_refl _) (by simp) ?_; (case hd => rfl); (case hg => rfl); (case hr => first | (go_simp; done) | (go_simp; rfl)); (case hp => exact (Reps.c7 (show Kd.M k26 _ _ _ (⟨t501, t502, (⟨t503, t504, t505, t506, t507⟩ : S24)⟩ : S26) [.int .i64 t501, .int .i64 t502, .int .i64 t503, .int .i64 t504, .int .i64 t505, .int .i64 t506, .string t507] from (k26_mkM _ _ _ (⟨t501, t502, (⟨t503, t504, t505, t506, t507⟩ : S24)⟩ : S26) )) (Reps.none _ _)))
                intro v531 w64 ho65 hb hg_ hnew_
                clear hg_ hnew_
                (first | rw [← Ny530.out] at ho65 | (simp only [Int.reduceToNat] at ho65; rw [← Ny530.out] at ho65))
                have n0_ := Aside0.mk (Kd.R_elder' (RA HO_3) (Kd.R_base ho65) hb)
                have n1_ := Aside0.mk (Kd.R_elder' (RA HO_7) (Kd.R_base ho65) hb)
                have n2_ := Aside0.mk (Kd.R_elder' (RA HO526) (Kd.R_base ho65) hb)
                have n3_ := Aside0.mk (Kd.R_lower (Kd.R_newB (Kd.R_new' (Kd.R_new' (Kd.R_new' ho65 (Kd.R_lt (RA HO_3))) (Kd.R_lt (RA HO_7))) (Kd.R_lt (RA HO526))) (g := gb508) (o := .cells #[.int .i64 t501, .int .i64 t502, .int .i64 t503, .int .i64 t504, .int .i64 t505, .int .i64 t506, .string t507] 26 (0, 0)) blkA) (below_size belowA))
                have n4_ := Aside0.mk (blk_below (g := gb508) (o := .cells #[.int .i64 t501, .int .i64 t502, .int .i64 t503, .int .i64 t504, .int .i64 t505, .int .i64 t506, .string t507] 26 (0, 0)) blkA hb)
                have n5_ := Aside0.mk (below_step belowA hb)
                clear HO_3
                clear HO_7
                clear HO526
                clear BK508
                clear HB
                have HO_3 := n0_
                have HO_7 := n1_
                have HO526 := n2_
                have HO532 := n3_
                have BK508 := n4_
                have HB := n5_
                clear n0_ n1_ n2_ n3_ n4_ n5_
                clear hb ho65
                refine hK.out _ _ (bk7 BK508) (fun hHeld => ?_)
                clear hK K
                refine norm_ (a' := ?_) ?_ ?_
                rotate_left
                ·show Act.put _ (some 97) _ = _
                 simp only [Act.put, List.setIfInBounds_toArray, List.set_cons_zero, List.set_cons_succ, i64_w, i32_w]
                 rfl
                refine one_ (i := 6) (N := some 95) (tf 9 8) rfl rfl (one_of HT_.out (by kernel_rfl)) (by decide) (fun K hK => ?_)
                refine Kd.R_append_rows_step k26 (w0 := w) w.heap.size (by rfl) (.tmp 93) (.tmp 94) 33 26 (.agg #[(.int .i64 0), (.int .i64 0), (.int .i64 0), (.int .i64 0), (.int .i64 0), (.int .i64 0), (.string ⟨#[]⟩)]) 64 rfl Tryd.underlying33 info26 rfl (by decide) (by omega) v525 y524 t498 _ _ _ (fun k_ => some k_ ≠ (.slice Ao10 t498.length co10 : Value).ownBlock ∧ some k_ ≠ (.slice Ao60 t513.length co60 : Value).ownBlock ∧ some k_ ≠ (v531 : Value).ownBlock ∧ k_ ≠ gb508) (fun _ => False) rfl rfl ?aO ?aR (fun _ _ h => h) (fun _ h => h.elim) ?aF ?aB ?aS ?aL ?_
                (case aR => repeat (first | exact (Kd.R_reads' HO_3.out).2.2 | (with_reducible refine Kd.C_alloc ?_ _) | (with_reducible refine Kd.C_drewN ?_ _) | (with_reducible refine Kd.C_drew ?_)))
                (case aB => exact belowA)
                (case aF => exact (fun k_ hk => ⟨Kd.fresh' (Kd.R_lt (RA HO_3)) k_ hk, Kd.fresh' (Kd.R_lt (RA HO_7)) k_ hk, Kd.fresh' (Kd.R_lt (RA HO532)) k_ hk, Kd.freshB (g := gb508) (o := .cells #[.int .i64 t501, .int .i64 t502, .int .i64 t503, .int .i64 t504, .int .i64 t505, .int .i64 t506, .string t507] 26 (0, 0)) blkA k_ hk⟩))
                (case aO => exact (by (with_reducible repeat (first | apply Kd.R_alloc | apply Kd.R_drewN | apply Kd.R_drew)); exact Kd.R_mono HO526.out (fun _ hk => ⟨hk.1.1.1.2, ⟨hk.1.1.2, ⟨hk.2, hk.1.2⟩⟩⟩)))
                (case aS => exact (below_size belowA))
                (case aL => have := LMc55.out; omega)
                intro v528 w66 ho hb hg hat
                rw [← Ny527.out] at ho
                have n0_ := Aside0.mk (Kd.R_after (ok := (fun k_ => some k_ ≠ (.slice Ao60 t513.length co60 : Value).ownBlock ∧ some k_ ≠ (v531 : Value).ownBlock ∧ k_ ≠ gb508)) (by (with_reducible repeat (first | apply Kd.R_alloc | apply Kd.R_drewN | apply Kd.R_drew)); exact Kd.R_mono HO_3.out (fun _ hk => ⟨⟨hk.1.1.1, ⟨hk.2, hk.1.1.2⟩⟩, hk.1.2⟩)) hg hat)
                have n1_ := Aside0.mk (Kd.R_after (ok := (fun k_ => some k_ ≠ (.slice Ao10 t498.length co10 : Value).ownBlock ∧ some k_ ≠ (v531 : Value).ownBlock ∧ k_ ≠ gb508)) (by (with_reducible repeat (first | apply Kd.R_alloc | apply Kd.R_drewN | apply Kd.R_drew)); exact Kd.R_mono HO_7.out (fun _ hk => ⟨⟨hk.1.1.1, ⟨hk.2, hk.1.1.2⟩⟩, hk.1.2⟩)) hg hat)
                have n2_ := Aside0.mk (blk_grown (g := gb508) (o := .cells #[.int .i64 t501, .int .i64 t502, .int .i64 t503, .int .i64 t504, .int .i64 t505, .int .i64 t506, .string t507] 26 (0, 0)) blkA hg (Kd.R_away HO526.out (fun _ hk => hk.1.2)))
                have n3_ := Aside0.mk (Kd.R_after (ok := (fun k_ => some k_ ≠ (.slice Ao10 t498.length co10 : Value).ownBlock ∧ some k_ ≠ (.slice Ao60 t513.length co60 : Value).ownBlock ∧ k_ ≠ gb508)) (by (with_reducible repeat (first | apply Kd.R_alloc | apply Kd.R_drewN | apply Kd.R_drew)); exact Kd.R_mono HO532.out (fun _ hk => ⟨⟨hk.1.1.1.2, ⟨hk.1.1.2, hk.2⟩⟩, hk.1.2⟩)) hg hat)
                have n4_ := Aside0.mk (hb)
                have n5_ := Aside0.mk (ho)
                clear HO_3
                clear HO_7
                clear BK508
                clear HO532
                clear HB
                clear HO526
                have HO_3 := n0_
                have HO_7 := n1_
                have BK508 := n2_
                have HO532 := n3_
                have HB := n4_
                have HO529 := n5_
                clear n0_ n1_ n2_ n3_ n4_ n5_
                clear ho hb hg hat
                refine hK.out _ _ (bk7 BK508) (fun hHeld => ?_)
                clear hK K
                refine norm_ (a' := ?_) ?_ ?_
                rotate_left
                ·show Act.put _ (some 95) _ = _
                 simp only [Act.put, List.setIfInBounds_toArray, List.set_cons_zero, List.set_cons_succ, i64_w, i32_w]
                 rfl
                exact norm_ (by simp only [putAll, Act.put, List.setIfInBounds_toArray, List.set_cons_zero, List.set_cons_succ]) (hCont (v525, v528, v531) _ ⟨hHeld, (by (with_reducible repeat (first | apply Kd.R_alloc | apply Kd.R_drewN | apply Kd.R_drew)); exact Kd.R_mono HO529.out (fun _ hk => ⟨hk.2.2.1, ⟨hk.1, ⟨hk.2.1, hk.2.2.2⟩⟩⟩)), (by (with_reducible repeat (first | apply Kd.R_alloc | apply Kd.R_drewN | apply Kd.R_drew)); exact Kd.R_mono HO532.out (fun _ hk => ⟨hk.2, ⟨hk.1.1, ⟨hk.1.2.1, hk.1.2.2⟩⟩⟩)), (by (with_reducible repeat (first | apply Kd.R_alloc | apply Kd.R_drewN | apply Kd.R_drew)); exact Kd.R_mono HO_3.out (fun _ hk => ⟨hk.2, ⟨hk.1.2.1, ⟨hk.1.1, hk.1.2.2⟩⟩⟩)), (by (with_reducible repeat (first | apply Kd.R_alloc | apply Kd.R_drewN | apply Kd.R_drew)); exact Kd.R_mono HO_7.out (fun _ hk => ⟨hk.2, ⟨hk.1.2.1, ⟨hk.1.1, hk.1.2.2⟩⟩⟩)), blkA, belowA⟩)
              ·skip
               refine Kd.R_lit_step k26 _ 26 ?hg (N := 97) ?hd (xs := ([(⟨t501, t502, (⟨t503, t504, t505, t506, t507⟩ : S24)⟩ : S26)] : List (S26))) (inner := [.int .i64 t501, .int .i64 t502, .int .i64 t503, .int .i64 t504, .int .i64 t505, .int .i64 t506, .string t507]) (ok := fun _ => True) (okp := fun _ => True) ?hr ?hp (fun _ hk => hk) trivial (Below.refl _ _) (Nat.le_refl _) (by simp) ?_; (case hd => rfl); (case hg => rfl); (case hr => first | (go_simp; done) | (go_simp; rfl)); (case hp => exact (Reps.c7 (show Kd.M k26 _ _ _ (⟨t501, t502, (⟨t503, t504, t505, t506, t507⟩ : S24)⟩ : S26) [.int .i64 t501, .int .i64 t502, .int .i64 t503, .int .i64 t504, .int .i64 t505, .int .i64 t506, .string t507] from (k26_mkM _ _ _ (⟨t501, t502, (⟨t503, t504, t505, t506, t507⟩ : S24)⟩ : S26) )) (Reps.none _ _)))
               intro v531 w62 ho63 hb hg_ hnew_
               clear hg_ hnew_
               (first | rw [← Ny530.out] at ho63 | (simp only [Int.reduceToNat] at ho63; rw [← Ny530.out] at ho63))
               have n0_ := Aside0.mk (Kd.R_elder' (RA HO_3) (Kd.R_base ho63) hb)
               have n1_ := Aside0.mk (Kd.R_elder' (RA HO_7) (Kd.R_base ho63) hb)
               have n2_ := Aside0.mk (Kd.R_lower (Kd.R_newB (Kd.R_new' (Kd.R_new' ho63 (Kd.R_lt (RA HO_3))) (Kd.R_lt (RA HO_7))) (g := gb508) (o := .cells #[.int .i64 t501, .int .i64 t502, .int .i64 t503, .int .i64 t504, .int .i64 t505, .int .i64 t506, .string t507] 26 (0, 0)) blkA) (below_size belowA))
               have n3_ := Aside0.mk (blk_below (g := gb508) (o := .cells #[.int .i64 t501, .int .i64 t502, .int .i64 t503, .int .i64 t504, .int .i64 t505, .int .i64 t506, .string t507] 26 (0, 0)) blkA hb)
               have n4_ := Aside0.mk (below_step belowA hb)
               clear HO_3
               clear HO_7
               clear BK508
               clear HB
               have HO_3 := n0_
               have HO_7 := n1_
               have HO532 := n2_
               have BK508 := n3_
               have HB := n4_
               clear n0_ n1_ n2_ n3_ n4_
               clear hb ho63
               refine hK.out _ _ (bk7 BK508) (fun hHeld => ?_)
               clear hK K
               refine norm_ (a' := ?_) ?_ ?_
               rotate_left
               ·show Act.put _ (some 97) _ = _
                simp only [Act.put, List.setIfInBounds_toArray, List.set_cons_zero, List.set_cons_succ, i64_w, i32_w]
                rfl
               refine one_ (i := 4) (N := some 93) #[true, true, true, true, true, true, false, true, true, false, false, false, false, false, false, false, false] rfl rfl (one_of HT_.out (by kernel_rfl)) (by decide) (fun K hK => ?_)
               refine Kd.R_lit_step k26 _ 26 ?hg (N := 93) ?hd (xs := ([] : List (S26))) (inner := []) (ok := fun _ => True) (okp := fun _ => True) ?hr ?hp (fun _ hk => hk) trivial (Below.refl _ _) (Nat.le_refl _) (by simp) ?_; (case hd => rfl); (case hg => rfl); (case hr => first | (go_simp; done) | (go_simp; rfl)); (case hp => exact (Reps.none _ _))
               intro v525 w64 ho65 hb hg_ hnew_
               clear hg_ hnew_
               (first | rw [← Ny524.out] at ho65 | (simp only [Int.reduceToNat] at ho65; rw [← Ny524.out] at ho65))
               have n0_ := Aside0.mk (Kd.R_elder' (RA HO_3) (Kd.R_base ho65) hb)
               have n1_ := Aside0.mk (Kd.R_elder' (RA HO_7) (Kd.R_base ho65) hb)
               have n2_ := Aside0.mk (Kd.R_elder' (RA HO532) (Kd.R_base ho65) hb)
               have n3_ := Aside0.mk (Kd.R_lower (Kd.R_newB (Kd.R_new' (Kd.R_new' (Kd.R_new' ho65 (Kd.R_lt (RA HO_3))) (Kd.R_lt (RA HO_7))) (Kd.R_lt (RA HO532))) (g := gb508) (o := .cells #[.int .i64 t501, .int .i64 t502, .int .i64 t503, .int .i64 t504, .int .i64 t505, .int .i64 t506, .string t507] 26 (0, 0)) blkA) (below_size belowA))
               have n4_ := Aside0.mk (blk_below (g := gb508) (o := .cells #[.int .i64 t501, .int .i64 t502, .int .i64 t503, .int .i64 t504, .int .i64 t505, .int .i64 t506, .string t507] 26 (0, 0)) blkA hb)
               have n5_ := Aside0.mk (below_step belowA hb)
               clear HO_3
               clear HO_7
               clear HO532
               clear BK508
               clear HB
               have HO_3 := n0_
               have HO_7 := n1_
               have HO532 := n2_
               have HO526 := n3_
               have BK508 := n4_
               have HB := n5_
               clear n0_ n1_ n2_ n3_ n4_ n5_
               clear hb ho65
               refine hK.out _ _ (bk7 BK508) (fun hHeld => ?_)
               clear hK K
               refine norm_ (a' := ?_) ?_ ?_
               rotate_left
               ·show Act.put _ (some 93) _ = _
                simp only [Act.put, List.setIfInBounds_toArray, List.set_cons_zero, List.set_cons_succ, i64_w, i32_w]
                rfl
               refine one_ (i := 6) (N := some 95) (tf 9 8) rfl rfl (one_of HT_.out (by kernel_rfl)) (by decide) (fun K hK => ?_)
               refine Kd.R_append_rows_step k26 (w0 := w) w.heap.size (by rfl) (.tmp 93) (.tmp 94) 33 26 (.agg #[(.int .i64 0), (.int .i64 0), (.int .i64 0), (.int .i64 0), (.int .i64 0), (.int .i64 0), (.string ⟨#[]⟩)]) 64 rfl Tryd.underlying33 info26 rfl (by decide) (by omega) v525 y524 t498 _ _ _ (fun k_ => some k_ ≠ (.slice Ao10 t498.length co10 : Value).ownBlock ∧ some k_ ≠ (.slice Ao60 t513.length co60 : Value).ownBlock ∧ some k_ ≠ (v531 : Value).ownBlock ∧ k_ ≠ gb508) (fun _ => False) rfl rfl ?aO ?aR (fun _ _ h => h) (fun _ h => h.elim) ?aF ?aB ?aS ?aL ?_
               (case aR => repeat (first | exact (Kd.R_reads' HO_3.out).2.2 | (with_reducible refine Kd.C_alloc ?_ _) | (with_reducible refine Kd.C_drewN ?_ _) | (with_reducible refine Kd.C_drew ?_)))
               (case aB => exact belowA)
               (case aF => exact (fun k_ hk => ⟨Kd.fresh' (Kd.R_lt (RA HO_3)) k_ hk, Kd.fresh' (Kd.R_lt (RA HO_7)) k_ hk, Kd.fresh' (Kd.R_lt (RA HO532)) k_ hk, Kd.freshB (g := gb508) (o := .cells #[.int .i64 t501, .int .i64 t502, .int .i64 t503, .int .i64 t504, .int .i64 t505, .int .i64 t506, .string t507] 26 (0, 0)) blkA k_ hk⟩))
               (case aO => exact (by (with_reducible repeat (first | apply Kd.R_alloc | apply Kd.R_drewN | apply Kd.R_drew)); exact Kd.R_mono HO526.out (fun _ hk => ⟨hk.1.1.1.2, ⟨hk.1.1.2, ⟨hk.1.2, hk.2⟩⟩⟩)))
               (case aS => exact (below_size belowA))
               (case aL => have := LMc55.out; omega)
               intro v528 w66 ho hb hg hat
               rw [← Ny527.out] at ho
               have n0_ := Aside0.mk (Kd.R_after (ok := (fun k_ => some k_ ≠ (.slice Ao60 t513.length co60 : Value).ownBlock ∧ some k_ ≠ (v531 : Value).ownBlock ∧ k_ ≠ gb508)) (by (with_reducible repeat (first | apply Kd.R_alloc | apply Kd.R_drewN | apply Kd.R_drew)); exact Kd.R_mono HO_3.out (fun _ hk => ⟨⟨hk.1.1.1, ⟨hk.1.2, hk.1.1.2⟩⟩, hk.2⟩)) hg hat)
               have n1_ := Aside0.mk (Kd.R_after (ok := (fun k_ => some k_ ≠ (.slice Ao10 t498.length co10 : Value).ownBlock ∧ some k_ ≠ (v531 : Value).ownBlock ∧ k_ ≠ gb508)) (by (with_reducible repeat (first | apply Kd.R_alloc | apply Kd.R_drewN | apply Kd.R_drew)); exact Kd.R_mono HO_7.out (fun _ hk => ⟨⟨hk.1.1.1, ⟨hk.1.2, hk.1.1.2⟩⟩, hk.2⟩)) hg hat)
               have n2_ := Aside0.mk (blk_grown (g := gb508) (o := .cells #[.int .i64 t501, .int .i64 t502, .int .i64 t503, .int .i64 t504, .int .i64 t505, .int .i64 t506, .string t507] 26 (0, 0)) blkA hg (Kd.R_away HO526.out (fun _ hk => hk.2)))
               have n3_ := Aside0.mk (Kd.R_after (ok := (fun k_ => some k_ ≠ (.slice Ao10 t498.length co10 : Value).ownBlock ∧ some k_ ≠ (.slice Ao60 t513.length co60 : Value).ownBlock ∧ k_ ≠ gb508)) (by (with_reducible repeat (first | apply Kd.R_alloc | apply Kd.R_drewN | apply Kd.R_drew)); exact Kd.R_mono HO532.out (fun _ hk => ⟨⟨hk.1.1.1.2, ⟨hk.1.1.2, hk.1.2⟩⟩, hk.2⟩)) hg hat)
               have n4_ := Aside0.mk (hb)
               have n5_ := Aside0.mk (ho)
               clear HO_3
               clear HO_7
               clear BK508
               clear HO532
               clear HB
               clear HO526
               have HO_3 := n0_
               have HO_7 := n1_
               have BK508 := n2_
               have HO532 := n3_
               have HB := n4_
               have HO529 := n5_
               clear n0_ n1_ n2_ n3_ n4_ n5_
               clear ho hb hg hat
               refine hK.out _ _ (bk7 BK508) (fun hHeld => ?_)
               clear hK K
               refine norm_ (a' := ?_) ?_ ?_
               rotate_left
               ·show Act.put _ (some 95) _ = _
                simp only [Act.put, List.setIfInBounds_toArray, List.set_cons_zero, List.set_cons_succ, i64_w, i32_w]
                rfl
               exact norm_ (by simp only [putAll, Act.put, List.setIfInBounds_toArray, List.set_cons_zero, List.set_cons_succ]) (hCont (v525, v528, v531) _ ⟨hHeld, (by (with_reducible repeat (first | apply Kd.R_alloc | apply Kd.R_drewN | apply Kd.R_drew)); exact Kd.R_mono HO529.out (fun _ hk => ⟨hk.2.2.1, ⟨hk.1, ⟨hk.2.1, hk.2.2.2⟩⟩⟩)), (by (with_reducible repeat (first | apply Kd.R_alloc | apply Kd.R_drewN | apply Kd.R_drew)); exact Kd.R_mono HO532.out (fun _ hk => ⟨hk.2, ⟨hk.1.1, ⟨hk.1.2.1, hk.1.2.2⟩⟩⟩)), (by (with_reducible repeat (first | apply Kd.R_alloc | apply Kd.R_drewN | apply Kd.R_drew)); exact Kd.R_mono HO_3.out (fun _ hk => ⟨hk.2, ⟨hk.1.2.1, ⟨hk.1.1, hk.1.2.2⟩⟩⟩)), (by (with_reducible repeat (first | apply Kd.R_alloc | apply Kd.R_drewN | apply Kd.R_drew)); exact Kd.R_mono HO_7.out (fun _ hk => ⟨hk.2, ⟨hk.1.2.1, ⟨hk.1.1, hk.1.2.2⟩⟩⟩)), blkA, belowA⟩)
             rintro ⟨v525, v528, v531⟩ w67 ⟨hS_, h0_, h1_, h2_, h3_, h4_, h5_⟩
             have n0_ : Aside0 (Kd.R k26 26 w67 w.heap.size (fun k_ => some k_ ≠ (v531 : Value).ownBlock ∧ some k_ ≠ (.slice Ao10 t498.length co10 : Value).ownBlock ∧ some k_ ≠ (.slice Ao60 t513.length co60 : Value).ownBlock ∧ k_ ≠ gb508) v528 y527) := ⟨h0_⟩
             have n1_ : Aside0 (Kd.R k26 26 w67 w.heap.size (fun k_ => some k_ ≠ (v528 : Value).ownBlock ∧ some k_ ≠ (.slice Ao10 t498.length co10 : Value).ownBlock ∧ some k_ ≠ (.slice Ao60 t513.length co60 : Value).ownBlock ∧ k_ ≠ gb508) v531 y530) := ⟨h1_⟩
             have n2_ : Aside0 (Kd.R k26 26 w67 w.heap.size (fun k_ => some k_ ≠ (v528 : Value).ownBlock ∧ some k_ ≠ (v531 : Value).ownBlock ∧ some k_ ≠ (.slice Ao60 t513.length co60 : Value).ownBlock ∧ k_ ≠ gb508) (.slice Ao10 t498.length co10) t498) := ⟨h2_⟩
             have n3_ : Aside0 (Kd.R k26 26 w67 w.heap.size (fun k_ => some k_ ≠ (v528 : Value).ownBlock ∧ some k_ ≠ (v531 : Value).ownBlock ∧ some k_ ≠ (.slice Ao10 t498.length co10 : Value).ownBlock ∧ k_ ≠ gb508) (.slice Ao60 t513.length co60) t513) := ⟨h3_⟩
             have n4_ : Aside0 (w67.heap[gb508]? = some (.cells #[.int .i64 t501, .int .i64 t502, .int .i64 t503, .int .i64 t504, .int .i64 t505, .int .i64 t506, .string t507] 26 (0, 0))) := ⟨h4_⟩
             have n5_ : Aside0 (Below w.heap.size w w67) := ⟨h5_⟩
             clear HO_3
             clear HO_7
             clear BK508
             clear HB
             clear h0_ h1_ h2_ h3_ h4_ h5_
             have HO529 := n0_
             have HO532 := n1_
             have HO_3 := n2_
             have HO_7 := n3_
             have BK508 := n4_
             have HB := n5_
             clear n0_ n1_ n2_ n3_ n4_ n5_
             have hHeld : w67.cell? ⟨gb508, 0, none⟩ = some (.int .i64 t501) ∧ w67.cell? ⟨gb508, 1, none⟩ = some (.int .i64 t502) ∧ w67.cell? ⟨gb508, 2, none⟩ = some (.int .i64 t503) ∧ w67.cell? ⟨gb508, 3, none⟩ = some (.int .i64 t504) ∧ w67.cell? ⟨gb508, 4, none⟩ = some (.int .i64 t505) ∧ w67.cell? ⟨gb508, 5, none⟩ = some (.int .i64 t506) ∧ w67.cell? ⟨gb508, 6, none⟩ = some (.string t507) := hS_
             obtain ⟨Ao69, co69, eo69⟩ := Kd.R_slice HO532.out
             (first | subst eo69 | (injection eo69 with f1_ f2_ f3_; have f4_ := f1_.symm; have f5_ := f3_.symm; clear f1_ f2_ f3_; subst f4_; subst f5_))
             refine norm_ (a' := ?_) ?_ ?_
             rotate_left
             ·simp only [putAll, Act.put, List.setIfInBounds_toArray, List.set_cons_zero, List.set_cons_succ]
              rfl
             refine one_ (i := 9) (N := some 98) (tf 10 7) rfl rfl (one_of HT_.out (by kernel_rfl)) (by decide) (fun K hK => ?_)
             refine Kd.R_append_rows_step k26 (w0 := w) w.heap.size (by rfl) (.tmp 95) (.tmp 97) 33 26 (.agg #[(.int .i64 0), (.int .i64 0), (.int .i64 0), (.int .i64 0), (.int .i64 0), (.int .i64 0), (.string ⟨#[]⟩)]) 64 rfl Tryd.underlying33 info26 rfl (by decide) (by omega) v528 y527 y530 _ _ _ (fun k_ => some k_ ≠ (.slice Ao10 t498.length co10 : Value).ownBlock ∧ some k_ ≠ (.slice Ao60 t513.length co60 : Value).ownBlock ∧ some k_ ≠ (.slice Ao69 y530.length co69 : Value).ownBlock ∧ k_ ≠ gb508) (fun _ => False) rfl rfl ?aO ?aR (fun _ _ h => h) (fun _ h => h.elim) ?aF ?aB ?aS ?aL ?_
             (case aR => repeat (first | exact (Kd.R_reads' HO532.out).2.2 | (with_reducible refine Kd.C_alloc ?_ _) | (with_reducible refine Kd.C_drewN ?_ _) | (with_reducible refine Kd.C_drew ?_)))
             (case aB => exact belowA)
             (case aF => exact (fun k_ hk => ⟨Kd.fresh' (Kd.R_lt (RA HO_3)) k_ hk, Kd.fresh' (Kd.R_lt (RA HO_7)) k_ hk, Kd.fresh' (Kd.R_lt (RA HO532)) k_ hk, Kd.freshB (g := gb508) (o := .cells #[.int .i64 t501, .int .i64 t502, .int .i64 t503, .int .i64 t504, .int .i64 t505, .int .i64 t506, .string t507] 26 (0, 0)) blkA k_ hk⟩))
             (case aO => exact (by (with_reducible repeat (first | apply Kd.R_alloc | apply Kd.R_drewN | apply Kd.R_drew)); exact Kd.R_mono HO529.out (fun _ hk => ⟨hk.2.1, ⟨hk.2.2.1, ⟨hk.1, hk.2.2.2⟩⟩⟩)))
             (case aS => exact (below_size belowA))
             (case aL => have := LMc56.out; omega)
             intro v534 w68 ho hb hg hat
             rw [← Ny533.out] at ho
             have n0_ := Aside0.mk (Kd.R_after (ok := (fun k_ => some k_ ≠ (.slice Ao60 t513.length co60 : Value).ownBlock ∧ some k_ ≠ (.slice Ao69 y530.length co69 : Value).ownBlock ∧ k_ ≠ gb508)) (by (with_reducible repeat (first | apply Kd.R_alloc | apply Kd.R_drewN | apply Kd.R_drew)); exact Kd.R_mono HO_3.out (fun _ hk => ⟨⟨hk.2.2.1, ⟨hk.2.1, hk.2.2.2⟩⟩, hk.1⟩)) hg hat)
             have n1_ := Aside0.mk (Kd.R_after (ok := (fun k_ => some k_ ≠ (.slice Ao10 t498.length co10 : Value).ownBlock ∧ some k_ ≠ (.slice Ao69 y530.length co69 : Value).ownBlock ∧ k_ ≠ gb508)) (by (with_reducible repeat (first | apply Kd.R_alloc | apply Kd.R_drewN | apply Kd.R_drew)); exact Kd.R_mono HO_7.out (fun _ hk => ⟨⟨hk.2.2.1, ⟨hk.2.1, hk.2.2.2⟩⟩, hk.1⟩)) hg hat)
             have n2_ := Aside0.mk (blk_grown (g := gb508) (o := .cells #[.int .i64 t501, .int .i64 t502, .int .i64 t503, .int .i64 t504, .int .i64 t505, .int .i64 t506, .string t507] 26 (0, 0)) blkA hg (Kd.R_away HO529.out (fun _ hk => hk.2.2.2)))
             have n3_ := Aside0.mk (Kd.R_after (ok := (fun k_ => some k_ ≠ (.slice Ao10 t498.length co10 : Value).ownBlock ∧ some k_ ≠ (.slice Ao60 t513.length co60 : Value).ownBlock ∧ k_ ≠ gb508)) (by (with_reducible repeat (first | apply Kd.R_alloc | apply Kd.R_drewN | apply Kd.R_drew)); exact Kd.R_mono HO532.out (fun _ hk => ⟨⟨hk.2.1, ⟨hk.2.2.1, hk.2.2.2⟩⟩, hk.1⟩)) hg hat)
             have n4_ := Aside0.mk (hb)
             have n5_ := Aside0.mk (ho)
             clear HO_3
             clear HO_7
             clear BK508
             clear HO532
             clear HB
             clear HO529
             have HO_3 := n0_
             have HO_7 := n1_
             have BK508 := n2_
             have HO532 := n3_
             have HB := n4_
             have HO535 := n5_
             clear n0_ n1_ n2_ n3_ n4_ n5_
             clear ho hb hg hat
             obtain ⟨Ao70, co70, eo70⟩ := Kd.R_slice HO535.out
             (first | subst eo70 | (injection eo70 with f1_ f2_ f3_; have f4_ := f1_.symm; have f5_ := f3_.symm; clear f1_ f2_ f3_; subst f4_; subst f5_))
             refine hK.out _ _ (bk7 BK508) (fun hHeld => ?_)
             clear hK K
             refine norm_ (a' := ?_) ?_ ?_
             rotate_left
             ·show Act.put _ (some 98) _ = _
              simp only [Act.put, List.setIfInBounds_toArray, List.set_cons_zero, List.set_cons_succ, i64_w, i32_w]
              rfl
             refine one_ (i := 10) (N := some 99) (tf 11 6) rfl rfl (one_of HT_.out (by kernel_rfl)) (by decide) (fun K hK => ?_)
             refine goes_ Tryd.func35 (by kernel_rfl) rfl #[.slice Ao60 t513.length co60, .slice Ao70 y533.length co70] (by rfl) rfl rfl argsA ?_
             with_reducible refine (laws_lpLog.calls kj43 _ _ t513 _ _ y533 true _ ?side1 ?side2 ?side3 ?side4 A57.out).mono ?_
             (case side1 => repeat (first | exact (Kd.R_reads' HO_7.out).2.2 | (with_reducible refine Kd.C_alloc ?_ _) | (with_reducible refine Kd.C_drewN ?_ _) | (with_reducible refine Kd.C_drew ?_)))
             (case side2 => exact (Kd.R_reads' HO_7.out).2.1)
             (case side3 => repeat (first | exact (Kd.R_reads' HO535.out).2.2 | (with_reducible refine Kd.C_alloc ?_ _) | (with_reducible refine Kd.C_drewN ?_ _) | (with_reducible refine Kd.C_drew ?_)))
             (case side4 => exact (Kd.R_reads' HO535.out).2.1)
             rintro e w' ⟨rfl, ⟨nd, rfl⟩⟩
             refine ⟨_, rfl, ?_⟩
             refine hK.out _ _ (bk7 BK508) (fun hHeld => ?_)
             clear hK K
             refine norm_ (a' := ?_) ?_ ?_
             rotate_left
             ·show Act.put _ (some 99) _ = _
              simp only [Act.put, List.setIfInBounds_toArray, List.set_cons_zero, List.set_cons_succ, i64_w, i32_w]
              rfl
             refine pure_ (i := 11) (N := some 100) (tf 12 5) rfl rfl (anA HT_) (fun _ _ _ h => h) yldA putA ?_
             refine pure_ (i := 12) (N := some 101) (tf 13 4) rfl rfl (anA HT_) (fun _ _ _ h => h) yldA putA ?_
             refine pure_ (i := 13) (N := some 102) (tf 14 3) rfl rfl (anA HT_) (fun _ _ _ h => h) yldA putA ?_
             refine one_ (i := 14) (N := some 103) (tf 15 2) rfl rfl (one_of HT_.out (by kernel_rfl)) (by decide) (fun K hK => ?_)
             refine goes_ Tryd.func18 (by kernel_rfl) rfl #[.slice Ao60 t513.length co60] (by rfl) rfl rfl argsA ?_
             with_reducible refine (impl_LogOk.calls _ _ t513 t537 _ ?side1 ?side2 ?side3 A59.out).mono ?_
             (case side1 => repeat (first | exact (Kd.R_reads' HO_7.out).2.2 | (with_reducible refine Kd.C_alloc ?_ _) | (with_reducible refine Kd.C_drewN ?_ _) | (with_reducible refine Kd.C_drew ?_)))
             (case side2 => exact (Kd.R_reads' HO_7.out).2.1)
             (case side3 => exact TabOk.below HT.out belowA)
             rintro e w71 ⟨rfl, hb⟩
             refine ⟨_, rfl, ?_⟩
             have n0_ := Aside0.mk (Kd.R_below (RA HO_3) hb)
             have n1_ := Aside0.mk (Kd.R_below (RA HO_7) hb)
             have n2_ := Aside0.mk (Kd.R_below (RA HO532) hb)
             have n3_ := Aside0.mk (Kd.R_below (RA HO535) hb)
             have n4_ := Aside0.mk (blk_below (g := gb508) (o := .cells #[.int .i64 t501, .int .i64 t502, .int .i64 t503, .int .i64 t504, .int .i64 t505, .int .i64 t506, .string t507] 26 (0, 0)) blkA hb)
             have n5_ := Aside0.mk (below_step belowA hb)
             clear HO_3
             clear HO_7
             clear HO532
             clear HO535
             clear BK508
             clear HB
             have HO_3 := n0_
             have HO_7 := n1_
             have HO532 := n2_
             have HO535 := n3_
             have BK508 := n4_
             have HB := n5_
             clear n0_ n1_ n2_ n3_ n4_ n5_
             (try clear hb)
             (try clear hb2)
             (try clear hk)
             (try clear hi)
             refine hK.out _ _ (bk7 BK508) (fun hHeld => ?_)
             clear hK K
             refine norm_ (a' := ?_) ?_ ?_
             rotate_left
             ·show Act.put _ (some 103) _ = _
              simp only [Act.put, List.setIfInBounds_toArray, List.set_cons_zero, List.set_cons_succ, i64_w, i32_w]
              rfl
             refine pure_ (i := 15) (N := some 104) (tf 16 1) rfl rfl (anA HT_) (fun _ _ _ h => h) yldA putA ?_
             refine pure_ (i := 16) (N := some 2) (tf 17 0) rfl rfl (anA HT_) (fun _ _ _ h => h) yldA putA ?_
             refine done_ (done_of HT_.out (by kernel_rfl)) ?_
             try go_wp2
             go_ret
             exact ⟨endA, belowA⟩
            ·replace c58 := Bool.eq_false_iff.mpr c58
             subst c58
             have H1 : (some false) = some r := by rw [if_neg (show ¬ (false = true) by decide)] at H; exact H
             clear H
             have H := H1
             clear H1
             obtain rfl := Option.some.inj H
             obtain ⟨Ao72, co72, eo72⟩ := Kd.R_slice HO_7.out
             subst eo72
             try go_wp2
             have n0_ := Aside0.mk (Kd.R_drew HO_3.out)
             have n1_ := Aside0.mk (Kd.R_drew HO_7.out)
             have n2_ := Aside0.mk (blk_drew BK508.out)
             have n3_ := Aside0.mk (below_drew1 HB.out)
             clear HO_3
             clear HO_7
             clear BK508
             clear HB
             have HO_3 := n0_
             have HO_7 := n1_
             have BK508 := n2_
             have HB := n3_
             clear n0_ n1_ n2_ n3_
             refine start_ (n := 17) (S := fun w' => w'.cell? ⟨gb508, 0, none⟩ = some (.int .i64 t501) ∧ w'.cell? ⟨gb508, 1, none⟩ = some (.int .i64 t502) ∧ w'.cell? ⟨gb508, 2, none⟩ = some (.int .i64 t503) ∧ w'.cell? ⟨gb508, 3, none⟩ = some (.int .i64 t504) ∧ w'.cell? ⟨gb508, 4, none⟩ = some (.int .i64 t505) ∧ w'.cell? ⟨gb508, 5, none⟩ = some (.int .i64 t506) ∧ w'.cell? ⟨gb508, 6, none⟩ = some (.string t507)) (ds := []) (tf 0 17) (by kernel_rfl) rfl rfl (bk7 BK508) (fun hHeld => ?_); refine with_tabW laws_FnLogAdd.tab13 laws_FnLogAdd.bits13 (fun HT_ HW_ => ?_)
             generalize wc.drew = w73 at HO_3 HO_7 BK508 HB hHeld ⊢
             refine pure_ (i := 0) (N := some 89) (tf 1 16) rfl rfl (anA HT_) (fun _ _ _ h => h) yldA putA ?_
             refine pure_ (i := 1) (N := some 90) (tf 2 15) rfl rfl (anA HT_) (fun _ _ _ h => h) yldA putA ?_
             refine pure_ (i := 2) (N := some 91) (tf 3 14) rfl rfl (anA HT_) (fun _ _ _ h => h) yldA putA ?_
             refine pure_ (i := 3) (N := some 92) (tf 4 13) rfl rfl (anA HT_) (fun _ _ _ h => h) yldA putA ?_
             refine pure_ (i := 5) (N := some 94) #[true, true, true, true, false, true, false, false, false, false, false, false, false, false, false, false, false] rfl rfl (anA HT_) (fun _ _ _ h => h) yldA putA ?_
             refine take_ (i := 7) (N := some 96) #[true, true, true, true, false, true, false, true, false, false, false, false, false, false, false, false, false] rfl rfl (take_ofW HT_.out HW_.out (by kernel_rfl)) (fun _ _ _ h => h) (Or.inl ⟨by rfl, by rintro w' ⟨s0, s1, s2, s3, s4, s5, s6⟩; go_simp; with_reducible rfl⟩) hHeld putA ?_
             refine join_ (σ := Value × Value × Value) 8 (tf 9 8) (fun s_ => [(93, s_.1), (95, s_.2.1), (97, s_.2.2)]) (fun s_ w' => (w'.cell? ⟨gb508, 0, none⟩ = some (.int .i64 t501) ∧ w'.cell? ⟨gb508, 1, none⟩ = some (.int .i64 t502) ∧ w'.cell? ⟨gb508, 2, none⟩ = some (.int .i64 t503) ∧ w'.cell? ⟨gb508, 3, none⟩ = some (.int .i64 t504) ∧ w'.cell? ⟨gb508, 4, none⟩ = some (.int .i64 t505) ∧ w'.cell? ⟨gb508, 5, none⟩ = some (.int .i64 t506) ∧ w'.cell? ⟨gb508, 6, none⟩ = some (.string t507)) ∧ (Kd.R k26 26 w' w.heap.size (fun k_ => some k_ ≠ (s_.2.2 : Value).ownBlock ∧ some k_ ≠ (.slice Ao10 t498.length co10 : Value).ownBlock ∧ some k_ ≠ (.slice Ao72 t513.length co72 : Value).ownBlock ∧ k_ ≠ gb508) s_.2.1 y527) ∧ (Kd.R k26 26 w' w.heap.size (fun k_ => some k_ ≠ (s_.2.1 : Value).ownBlock ∧ some k_ ≠ (.slice Ao10 t498.length co10 : Value).ownBlock ∧ some k_ ≠ (.slice Ao72 t513.length co72 : Value).ownBlock ∧ k_ ≠ gb508) s_.2.2 y530) ∧ (Kd.R k26 26 w' w.heap.size (fun k_ => some k_ ≠ (s_.2.1 : Value).ownBlock ∧ some k_ ≠ (s_.2.2 : Value).ownBlock ∧ some k_ ≠ (.slice Ao72 t513.length co72 : Value).ownBlock ∧ k_ ≠ gb508) (.slice Ao10 t498.length co10) t498) ∧ (Kd.R k26 26 w' w.heap.size (fun k_ => some k_ ≠ (s_.2.1 : Value).ownBlock ∧ some k_ ≠ (s_.2.2 : Value).ownBlock ∧ some k_ ≠ (.slice Ao10 t498.length co10 : Value).ownBlock ∧ k_ ≠ gb508) (.slice Ao72 t513.length co72) t513) ∧ (w'.heap[gb508]? = some (.cells #[.int .i64 t501, .int .i64 t502, .int .i64 t503, .int .i64 t504, .int .i64 t505, .int .i64 t506, .string t507] 26 (0, 0))) ∧ (Below w.heap.size w w')) ?_ ?_
             rotate_left
             ·intro hCont
              refine two_ (i := 4) (j := 8) (Ni := some 93) (Nj := some 97) #[true, true, true, true, true, true, false, true, false, false, false, false, false, false, false, false, false] #[true, true, true, true, false, true, false, true, true, false, false, false, false, false, false, false, false] rfl rfl rfl rfl (two_of HT_.out (by kernel_rfl)) (by decide) (by decide) (fun K hK => ?_) (fun K hK => ?_)
              ·skip
               refine Kd.R_lit_step k26 _ 26 ?hg (N := 93) ?hd (xs := ([] : List (S26))) (inner := []) (ok := fun _ => True) (okp := fun _ => True) ?hr ?hp (fun _ hk => hk) trivial (Below.refl _ _) (Nat.le_refl _) (by simp) ?_; (case hd => rfl); (case hg => rfl); (case hr => first | (go_simp; done) | (go_simp; rfl)); (case hp => exact (Reps.none _ _))
               intro v525 w74 ho75 hb hg_ hnew_
               clear hg_ hnew_
               (first | rw [← Ny524.out] at ho75 | (simp only [Int.reduceToNat] at ho75; rw [← Ny524.out] at ho75))
               have n0_ := Aside0.mk (Kd.R_elder' (RA HO_3) (Kd.R_base ho75) hb)
               have n1_ := Aside0.mk (Kd.R_elder' (RA HO_7) (Kd.R_base ho75) hb)
               have n2_ := Aside0.mk (Kd.R_lower (Kd.R_newB (Kd.R_new' (Kd.R_new' ho75 (Kd.R_lt (RA HO_3))) (Kd.R_lt (RA HO_7))) (g := gb508) (o := .cells #[.int .i64 t501, .int .i64 t502, .int .i64 t503, .int .i64 t504, .int .i64 t505, .int .i64 t506, .string t507] 26 (0, 0)) blkA) (below_size belowA))
               have n3_ := Aside0.mk (blk_below (g := gb508) (o := .cells #[.int .i64 t501, .int .i64 t502, .int .i64 t503, .int .i64 t504, .int .i64 t505, .int .i64 t506, .string t507] 26 (0, 0)) blkA hb)
               have n4_ := Aside0.mk (below_step belowA hb)
               clear HO_3
               clear HO_7
               clear BK508
               clear HB
               have HO_3 := n0_
               have HO_7 := n1_
               have HO526 := n2_
               have BK508 := n3_
               have HB := n4_
               clear n0_ n1_ n2_ n3_ n4_
               clear hb ho75
               refine hK.out _ _ (bk7 BK508) (fun hHeld => ?_)
               clear hK K
               refine norm_ (a' := ?_) ?_ ?_
               rotate_left
               ·show Act.put _ (some 93) _ = _
                simp only [Act.put, List.setIfInBounds_toArray, List.set_cons_zero, List.set_cons_succ, i64_w, i32_w]
                rfl
               refine two_ (i := 6) (j := 8) (Ni := some 95) (Nj := some 97) (tf 8 9) #[true, true, true, true, true, true, false, true, true, false, false, false, false, false, false, false, false] rfl rfl rfl rfl (two_of HT_.out (by kernel_rfl)) (by decide) (by decide) (fun K hK => ?_) (fun K hK => ?_)
               ·skip
                refine Kd.R_append_rows_step k26 (w0 := w) w.heap.size (by rfl) (.tmp 93) (.tmp 94) 33 26 (.agg #[(.int .i64 0), (.int .i64 0), (.int .i64 0), (.int .i64 0), (.int .i64 0), (.int .i64 0), (.string ⟨#[]⟩)]) 64 rfl Tryd.underlying33 info26 rfl (by decide) (by omega) v525 y524 t498 _ _ _ (fun k_ => some k_ ≠ (.slice Ao10 t498.length co10 : Value).ownBlock ∧ some k_ ≠ (.slice Ao72 t513.length co72 : Value).ownBlock ∧ k_ ≠ gb508) (fun _ => False) rfl rfl ?aO ?aR (fun _ _ h => h) (fun _ h => h.elim) ?aF ?aB ?aS ?aL ?_
                (case aR => repeat (first | exact (Kd.R_reads' HO_3.out).2.2 | (with_reducible refine Kd.C_alloc ?_ _) | (with_reducible refine Kd.C_drewN ?_ _) | (with_reducible refine Kd.C_drew ?_)))
                (case aB => exact belowA)
                (case aF => exact (fun k_ hk => ⟨Kd.fresh' (Kd.R_lt (RA HO_3)) k_ hk, Kd.fresh' (Kd.R_lt (RA HO_7)) k_ hk, Kd.freshB (g := gb508) (o := .cells #[.int .i64 t501, .int .i64 t502, .int .i64 t503, .int .i64 t504, .int .i64 t505, .int .i64 t506, .string t507] 26 (0, 0)) blkA k_ hk⟩))
                (case aO => exact (by (with_reducible repeat (first | apply Kd.R_alloc | apply Kd.R_drewN | apply Kd.R_drew)); exact Kd.R_mono HO526.out (fun _ hk => ⟨hk.1.1.2, ⟨hk.1.2, hk.2⟩⟩)))
                (case aS => exact (below_size belowA))
                (case aL => have := LMc55.out; omega)
                intro v528 w76 ho hb hg hat
                rw [← Ny527.out] at ho
                have n0_ := Aside0.mk (Kd.R_after (ok := (fun k_ => some k_ ≠ (.slice Ao72 t513.length co72 : Value).ownBlock ∧ k_ ≠ gb508)) (RA HO_3) hg hat)
                have n1_ := Aside0.mk (Kd.R_after (ok := (fun k_ => some k_ ≠ (.slice Ao10 t498.length co10 : Value).ownBlock ∧ k_ ≠ gb508)) (RA HO_7) hg hat)
                have n2_ := Aside0.mk (blk_grown (g := gb508) (o := .cells #[.int .i64 t501, .int .i64 t502, .int .i64 t503, .int .i64 t504, .int .i64 t505, .int .i64 t506, .string t507] 26 (0, 0)) blkA hg (Kd.R_away HO526.out (fun _ hk => hk.2)))
                have n3_ := Aside0.mk (hb)
                have n4_ := Aside0.mk (ho)
                clear HO_3
                clear HO_7
                clear BK508
                clear HB
                clear HO526
                have HO_3 := n0_
                have HO_7 := n1_
                have BK508 := n2_
                have HB := n3_
                have HO529 := n4_
                clear n0_ n1_ n2_ n3_ n4_
                clear ho hb hg hat
                refine hK.out _ _ (bk7 BK508) (fun hHeld => ?_)
                clear hK K
                refine norm_ (a' := ?_) ?_ ?_
                rotate_left
                ·show Act.put _ (some 95) _ = _
                 simp only [Act.put, List.setIfInBounds_toArray, List.set_cons_zero, List.set_cons_succ, i64_w, i32_w]
                 rfl
                refine one_ (i := 8) (N := some 97) (tf 9 8) rfl rfl (one_of HT_.out (by kernel_rfl)) (by decide) (fun K hK => ?_)
                refine Kd.R_lit_step k26 _ 26 ?hg (N := 97) ?hd (xs := ([(⟨t501, t502, (⟨t503, t504, t505, t506, t507⟩ : S24)⟩ : S26)] : List (S26))) (inner := [.int .i64 t501, .int .i64 t502, .int .i64 t503, .int .i64 t504, .int .i64 t505, .int .i64 t506, .string t507]) (ok := fun _ => True) (okp := fun _ => True) ?hr ?hp (fun _ hk => hk) trivial (Below.refl _ _) (Nat.le_refl _) (by simp) ?_; (case hd => rfl); (case hg => rfl); (case hr => first | (go_simp; done) | (go_simp; rfl)); (case hp => exact (Reps.c7 (show Kd.M k26 _ _ _ (⟨t501, t502, (⟨t503, t504, t505, t506, t507⟩ : S24)⟩ : S26) [.int .i64 t501, .int .i64 t502, .int .i64 t503, .int .i64 t504, .int .i64 t505, .int .i64 t506, .string t507] from (k26_mkM _ _ _ (⟨t501, t502, (⟨t503, t504, t505, t506, t507⟩ : S24)⟩ : S26) )) (Reps.none _ _)))
                intro v531 w77 ho78 hb hg_ hnew_
                clear hg_ hnew_
                (first | rw [← Ny530.out] at ho78 | (simp only [Int.reduceToNat] at ho78; rw [← Ny530.out] at ho78))
                have n0_ := Aside0.mk (Kd.R_elder' (RA HO_3) (Kd.R_base ho78) hb)
                have n1_ := Aside0.mk (Kd.R_elder' (RA HO_7) (Kd.R_base ho78) hb)
                have n2_ := Aside0.mk (Kd.R_elder' (RA HO529) (Kd.R_base ho78) hb)
                have n3_ := Aside0.mk (Kd.R_lower (Kd.R_newB (Kd.R_new' (Kd.R_new' (Kd.R_new' ho78 (Kd.R_lt (RA HO_3))) (Kd.R_lt (RA HO_7))) (Kd.R_lt (RA HO529))) (g := gb508) (o := .cells #[.int .i64 t501, .int .i64 t502, .int .i64 t503, .int .i64 t504, .int .i64 t505, .int .i64 t506, .string t507] 26 (0, 0)) blkA) (below_size belowA))
                have n4_ := Aside0.mk (blk_below (g := gb508) (o := .cells #[.int .i64 t501, .int .i64 t502, .int .i64 t503, .int .i64 t504, .int .i64 t505, .int .i64 t506, .string t507] 26 (0, 0)) blkA hb)
                have n5_ := Aside0.mk (below_step belowA hb)
                clear HO_3
                clear HO_7
                clear HO529
                clear BK508
                clear HB
                have HO_3 := n0_
                have HO_7 := n1_
                have HO529 := n2_
                have HO532 := n3_
                have BK508 := n4_
                have HB := n5_
                clear n0_ n1_ n2_ n3_ n4_ n5_
                clear hb ho78
                refine hK.out _ _ (bk7 BK508) (fun hHeld => ?_)
                clear hK K
                refine norm_ (a' := ?_) ?_ ?_
                rotate_left
                ·show Act.put _ (some 97) _ = _
                 simp only [Act.put, List.setIfInBounds_toArray, List.set_cons_zero, List.set_cons_succ, i64_w, i32_w]
                 rfl
                exact norm_ (by simp only [putAll, Act.put, List.setIfInBounds_toArray, List.set_cons_zero, List.set_cons_succ]) (hCont (v525, v528, v531) _ ⟨hHeld, (by (with_reducible repeat (first | apply Kd.R_alloc | apply Kd.R_drewN | apply Kd.R_drew)); exact Kd.R_mono HO529.out (fun _ hk => ⟨hk.2, ⟨hk.1.1, ⟨hk.1.2.1, hk.1.2.2⟩⟩⟩)), (by (with_reducible repeat (first | apply Kd.R_alloc | apply Kd.R_drewN | apply Kd.R_drew)); exact Kd.R_mono HO532.out (fun _ hk => ⟨hk.1.2, ⟨hk.1.1.1.2, ⟨hk.1.1.2, hk.2⟩⟩⟩)), (by (with_reducible repeat (first | apply Kd.R_alloc | apply Kd.R_drewN | apply Kd.R_drew)); exact Kd.R_mono HO_3.out (fun _ hk => ⟨hk.1.2, ⟨hk.2, ⟨hk.1.1.1, hk.1.1.2⟩⟩⟩)), (by (with_reducible repeat (first | apply Kd.R_alloc | apply Kd.R_drewN | apply Kd.R_drew)); exact Kd.R_mono HO_7.out (fun _ hk => ⟨hk.1.2, ⟨hk.2, ⟨hk.1.1.1, hk.1.1.2⟩⟩⟩)), blkA, belowA⟩)
               ·skip
                refine Kd.R_lit_step k26 _ 26 ?hg (N := 97) ?hd (xs := ([(⟨t501, t502, (⟨t503, t504, t505, t506, t507⟩ : S24)⟩ : S26)] : List (S26))) (inner := [.int .i64 t501, .int .i64 t502, .int .i64 t503, .int .i64 t504, .int .i64 t505, .int .i64 t506, .string t507]) (ok := fun _ => True) (okp := fun _ => True) ?hr ?hp (fun _ hk => hk) trivial (Below.refl _ _) (Nat.le_refl _) (by simp) ?_; (case hd => rfl); (case hg => rfl); (case hr => first | (go_simp; done) | (go_simp; rfl)); (case hp => exact (Reps.c7 (show Kd.M k26 _ _ _ (⟨t501, t502, (⟨t503, t504, t505, t506, t507⟩ : S24)⟩ : S26) [.int .i64 t501, .int .i64 t502, .int .i64 t503, .int .i64 t504, .int .i64 t505, .int .i64 t506, .string t507] from (k26_mkM _ _ _ (⟨t501, t502, (⟨t503, t504, t505, t506, t507⟩ : S24)⟩ : S26) )) (Reps.none _ _)))
                intro v531 w76 ho77 hb hg_ hnew_
                clear hg_ hnew_
                (first | rw [← Ny530.out] at ho77 | (simp only [Int.reduceToNat] at ho77; rw [← Ny530.out] at ho77))
                have n0_ := Aside0.mk (Kd.R_elder' (RA HO_3) (Kd.R_base ho77) hb)
                have n1_ := Aside0.mk (Kd.R_elder' (RA HO_7) (Kd.R_base ho77) hb)
                have n2_ := Aside0.mk (Kd.R_elder' (RA HO526) (Kd.R_base ho77) hb)
                have n3_ := Aside0.mk (Kd.R_lower (Kd.R_newB (Kd.R_new' (Kd.R_new' (Kd.R_new' ho77 (Kd.R_lt (RA HO_3))) (Kd.R_lt (RA HO_7))) (Kd.R_lt (RA HO526))) (g := gb508) (o := .cells #[.int .i64 t501, .int .i64 t502, .int .i64 t503, .int .i64 t504, .int .i64 t505, .int .i64 t506, .string t507] 26 (0, 0)) blkA) (below_size belowA))
                have n4_ := Aside0.mk (blk_below (g := gb508) (o := .cells #[.int .i64 t501, .int .i64 t502, .int .i64 t503, .int .i64 t504, .int .i64 t505, .int .i64 t506, .string t507] 26 (0, 0)) blkA hb)
                have n5_ := Aside0.mk (below_step belowA hb)
                clear HO_3
                clear HO_7
                clear HO526
                clear BK508
                clear HB
                have HO_3 := n0_
                have HO_7 := n1_
                have HO526 := n2_
                have HO532 := n3_
                have BK508 := n4_
                have HB := n5_
                clear n0_ n1_ n2_ n3_ n4_ n5_
                clear hb ho77
                refine hK.out _ _ (bk7 BK508) (fun hHeld => ?_)
                clear hK K
                refine norm_ (a' := ?_) ?_ ?_
                rotate_left
                ·show Act.put _ (some 97) _ = _
                 simp only [Act.put, List.setIfInBounds_toArray, List.set_cons_zero, List.set_cons_succ, i64_w, i32_w]
                 rfl
                refine one_ (i := 6) (N := some 95) (tf 9 8) rfl rfl (one_of HT_.out (by kernel_rfl)) (by decide) (fun K hK => ?_)
                refine Kd.R_append_rows_step k26 (w0 := w) w.heap.size (by rfl) (.tmp 93) (.tmp 94) 33 26 (.agg #[(.int .i64 0), (.int .i64 0), (.int .i64 0), (.int .i64 0), (.int .i64 0), (.int .i64 0), (.string ⟨#[]⟩)]) 64 rfl Tryd.underlying33 info26 rfl (by decide) (by omega) v525 y524 t498 _ _ _ (fun k_ => some k_ ≠ (.slice Ao10 t498.length co10 : Value).ownBlock ∧ some k_ ≠ (.slice Ao72 t513.length co72 : Value).ownBlock ∧ some k_ ≠ (v531 : Value).ownBlock ∧ k_ ≠ gb508) (fun _ => False) rfl rfl ?aO ?aR (fun _ _ h => h) (fun _ h => h.elim) ?aF ?aB ?aS ?aL ?_
                (case aR => repeat (first | exact (Kd.R_reads' HO_3.out).2.2 | (with_reducible refine Kd.C_alloc ?_ _) | (with_reducible refine Kd.C_drewN ?_ _) | (with_reducible refine Kd.C_drew ?_)))
                (case aB => exact belowA)
                (case aF => exact (fun k_ hk => ⟨Kd.fresh' (Kd.R_lt (RA HO_3)) k_ hk, Kd.fresh' (Kd.R_lt (RA HO_7)) k_ hk, Kd.fresh' (Kd.R_lt (RA HO532)) k_ hk, Kd.freshB (g := gb508) (o := .cells #[.int .i64 t501, .int .i64 t502, .int .i64 t503, .int .i64 t504, .int .i64 t505, .int .i64 t506, .string t507] 26 (0, 0)) blkA k_ hk⟩))
                (case aO => exact (by (with_reducible repeat (first | apply Kd.R_alloc | apply Kd.R_drewN | apply Kd.R_drew)); exact Kd.R_mono HO526.out (fun _ hk => ⟨hk.1.1.1.2, ⟨hk.1.1.2, ⟨hk.2, hk.1.2⟩⟩⟩)))
                (case aS => exact (below_size belowA))
                (case aL => have := LMc55.out; omega)
                intro v528 w78 ho hb hg hat
                rw [← Ny527.out] at ho
                have n0_ := Aside0.mk (Kd.R_after (ok := (fun k_ => some k_ ≠ (.slice Ao72 t513.length co72 : Value).ownBlock ∧ some k_ ≠ (v531 : Value).ownBlock ∧ k_ ≠ gb508)) (by (with_reducible repeat (first | apply Kd.R_alloc | apply Kd.R_drewN | apply Kd.R_drew)); exact Kd.R_mono HO_3.out (fun _ hk => ⟨⟨hk.1.1.1, ⟨hk.2, hk.1.1.2⟩⟩, hk.1.2⟩)) hg hat)
                have n1_ := Aside0.mk (Kd.R_after (ok := (fun k_ => some k_ ≠ (.slice Ao10 t498.length co10 : Value).ownBlock ∧ some k_ ≠ (v531 : Value).ownBlock ∧ k_ ≠ gb508)) (by (with_reducible repeat (first | apply Kd.R_alloc | apply Kd.R_drewN | apply Kd.R_drew)); exact Kd.R_mono HO_7.out (fun _ hk => ⟨⟨hk.1.1.1, ⟨hk.2, hk.1.1.2⟩⟩, hk.1.2⟩)) hg hat)
                have n2_ := Aside0.mk (blk_grown (g := gb508) (o := .cells #[.int .i64 t501, .int .i64 t502, .int .i64 t503, .int .i64 t504, .int .i64 t505, .int .i64 t506, .string t507] 26 (0, 0)) blkA hg (Kd.R_away HO526.out (fun _ hk => hk.1.2)))
                have n3_ := Aside0.mk (Kd.R_after (ok := (fun k_ => some k_ ≠ (.slice Ao10 t498.length co10 : Value).ownBlock ∧ some k_ ≠ (.slice Ao72 t513.length co72 : Value).ownBlock ∧ k_ ≠ gb508)) (by (with_reducible repeat (first | apply Kd.R_alloc | apply Kd.R_drewN | apply Kd.R_drew)); exact Kd.R_mono HO532.out (fun _ hk => ⟨⟨hk.1.1.1.2, ⟨hk.1.1.2, hk.2⟩⟩, hk.1.2⟩)) hg hat)
                have n4_ := Aside0.mk (hb)
                have n5_ := Aside0.mk (ho)
                clear HO_3
                clear HO_7
                clear BK508
                clear HO532
                clear HB
                clear HO526
                have HO_3 := n0_
                have HO_7 := n1_
                have BK508 := n2_
                have HO532 := n3_
                have HB := n4_
                have HO529 := n5_
                clear n0_ n1_ n2_ n3_ n4_ n5_
                clear ho hb hg hat
                refine hK.out _ _ (bk7 BK508) (fun hHeld => ?_)
                clear hK K
                refine norm_ (a' := ?_) ?_ ?_
                rotate_left
                ·show Act.put _ (some 95) _ = _
                 simp only [Act.put, List.setIfInBounds_toArray, List.set_cons_zero, List.set_cons_succ, i64_w, i32_w]
                 rfl
                exact norm_ (by simp only [putAll, Act.put, List.setIfInBounds_toArray, List.set_cons_zero, List.set_cons_succ]) (hCont (v525, v528, v531) _ ⟨hHeld, (by (with_reducible repeat (first | apply Kd.R_alloc | apply Kd.R_drewN | apply Kd.R_drew)); exact Kd.R_mono HO529.out (fun _ hk => ⟨hk.2.2.1, ⟨hk.1, ⟨hk.2.1, hk.2.2.2⟩⟩⟩)), (by (with_reducible repeat (first | apply Kd.R_alloc | apply Kd.R_drewN | apply Kd.R_drew)); exact Kd.R_mono HO532.out (fun _ hk => ⟨hk.2, ⟨hk.1.1, ⟨hk.1.2.1, hk.1.2.2⟩⟩⟩)), (by (with_reducible repeat (first | apply Kd.R_alloc | apply Kd.R_drewN | apply Kd.R_drew)); exact Kd.R_mono HO_3.out (fun _ hk => ⟨hk.2, ⟨hk.1.2.1, ⟨hk.1.1, hk.1.2.2⟩⟩⟩)), (by (with_reducible repeat (first | apply Kd.R_alloc | apply Kd.R_drewN | apply Kd.R_drew)); exact Kd.R_mono HO_7.out (fun _ hk => ⟨hk.2, ⟨hk.1.2.1, ⟨hk.1.1, hk.1.2.2⟩⟩⟩)), blkA, belowA⟩)
              ·skip
               refine Kd.R_lit_step k26 _ 26 ?hg (N := 97) ?hd (xs := ([(⟨t501, t502, (⟨t503, t504, t505, t506, t507⟩ : S24)⟩ : S26)] : List (S26))) (inner := [.int .i64 t501, .int .i64 t502, .int .i64 t503, .int .i64 t504, .int .i64 t505, .int .i64 t506, .string t507]) (ok := fun _ => True) (okp := fun _ => True) ?hr ?hp (fun _ hk => hk) trivial (Below.refl _ _) (Nat.le_refl _) (by simp) ?_; (case hd => rfl); (case hg => rfl); (case hr => first | (go_simp; done) | (go_simp; rfl)); (case hp => exact (Reps.c7 (show Kd.M k26 _ _ _ (⟨t501, t502, (⟨t503, t504, t505, t506, t507⟩ : S24)⟩ : S26) [.int .i64 t501, .int .i64 t502, .int .i64 t503, .int .i64 t504, .int .i64 t505, .int .i64 t506, .string t507] from (k26_mkM _ _ _ (⟨t501, t502, (⟨t503, t504, t505, t506, t507⟩ : S24)⟩ : S26) )) (Reps.none _ _)))
               intro v531 w74 ho75 hb hg_ hnew_
               clear hg_ hnew_
               (first | rw [← Ny530.out] at ho75 | (simp only [Int.reduceToNat] at ho75; rw [← Ny530.out] at ho75))
               have n0_ := Aside0.mk (Kd.R_elder' (RA HO_3) (Kd.R_base ho75) hb)
               have n1_ := Aside0.mk (Kd.R_elder' (RA HO_7) (Kd.R_base ho75) hb)
               have n2_ := Aside0.mk (Kd.R_lower (Kd.R_newB (Kd.R_new' (Kd.R_new' ho75 (Kd.R_lt (RA HO_3))) (Kd.R_lt (RA HO_7))) (g := gb508) (o := .cells #[.int .i64 t501, .int .i64 t502, .int .i64 t503, .int .i64 t504, .int .i64 t505, .int .i64 t506, .string t507] 26 (0, 0)) blkA) (below_size belowA))
               have n3_ := Aside0.mk (blk_below (g := gb508) (o := .cells #[.int .i64 t501, .int .i64 t502, .int .i64 t503, .int .i64 t504, .int .i64 t505, .int .i64 t506, .string t507] 26 (0, 0)) blkA hb)
               have n4_ := Aside0.mk (below_step belowA hb)
               clear HO_3
               clear HO_7
               clear BK508
               clear HB
               have HO_3 := n0_
               have HO_7 := n1_
               have HO532 := n2_
               have BK508 := n3_
               have HB := n4_
               clear n0_ n1_ n2_ n3_ n4_
               clear hb ho75
               refine hK.out _ _ (bk7 BK508) (fun hHeld => ?_)
               clear hK K
               refine norm_ (a' := ?_) ?_ ?_
               rotate_left
               ·show Act.put _ (some 97) _ = _
                simp only [Act.put, List.setIfInBounds_toArray, List.set_cons_zero, List.set_cons_succ, i64_w, i32_w]
                rfl
               refine one_ (i := 4) (N := some 93) #[true, true, true, true, true, true, false, true, true, false, false, false, false, false, false, false, false] rfl rfl (one_of HT_.out (by kernel_rfl)) (by decide) (fun K hK => ?_)
               refine Kd.R_lit_step k26 _ 26 ?hg (N := 93) ?hd (xs := ([] : List (S26))) (inner := []) (ok := fun _ => True) (okp := fun _ => True) ?hr ?hp (fun _ hk => hk) trivial (Below.refl _ _) (Nat.le_refl _) (by simp) ?_; (case hd => rfl); (case hg => rfl); (case hr => first | (go_simp; done) | (go_simp; rfl)); (case hp => exact (Reps.none _ _))
               intro v525 w76 ho77 hb hg_ hnew_
               clear hg_ hnew_
               (first | rw [← Ny524.out] at ho77 | (simp only [Int.reduceToNat] at ho77; rw [← Ny524.out] at ho77))
               have n0_ := Aside0.mk (Kd.R_elder' (RA HO_3) (Kd.R_base ho77) hb)
               have n1_ := Aside0.mk (Kd.R_elder' (RA HO_7) (Kd.R_base ho77) hb)
               have n2_ := Aside0.mk (Kd.R_elder' (RA HO532) (Kd.R_base ho77) hb)
               have n3_ := Aside0.mk (Kd.R_lower (Kd.R_newB (Kd.R_new' (Kd.R_new' (Kd.R_new' ho77 (Kd.R_lt (RA HO_3))) (Kd.R_lt (RA HO_7))) (Kd.R_lt (RA HO532))) (g := gb508) (o := .cells #[.int .i64 t501, .int .i64 t502, .int .i64 t503, .int .i64 t504, .int .i64 t505, .int .i64 t506, .string t507] 26 (0, 0)) blkA) (below_size belowA))
               have n4_ := Aside0.mk (blk_below (g := gb508) (o := .cells #[.int .i64 t501, .int .i64 t502, .int .i64 t503, .int .i64 t504, .int .i64 t505, .int .i64 t506, .string t507] 26 (0, 0)) blkA hb)
               have n5_ := Aside0.mk (below_step belowA hb)
               clear HO_3
               clear HO_7
               clear HO532
               clear BK508
               clear HB
               have HO_3 := n0_
               have HO_7 := n1_
               have HO532 := n2_
               have HO526 := n3_
               have BK508 := n4_
               have HB := n5_
               clear n0_ n1_ n2_ n3_ n4_ n5_
               clear hb ho77
               refine hK.out _ _ (bk7 BK508) (fun hHeld => ?_)
               clear hK K
               refine norm_ (a' := ?_) ?_ ?_
               rotate_left
               ·show Act.put _ (some 93) _ = _
                simp only [Act.put, List.setIfInBounds_toArray, List.set_cons_zero, List.set_cons_succ, i64_w, i32_w]
                rfl
               refine one_ (i := 6) (N := some 95) (tf 9 8) rfl rfl (one_of HT_.out (by kernel_rfl)) (by decide) (fun K hK => ?_)
               refine Kd.R_append_rows_step k26 (w0 := w) w.heap.size (by rfl) (.tmp 93) (.tmp 94) 33 26 (.agg #[(.int .i64 0), (.int .i64 0), (.int .i64 0), (.int .i64 0), (.int .i64 0), (.int .i64 0), (.string ⟨#[]⟩)]) 64 rfl Tryd.underlying33 info26 rfl (by decide) (by omega) v525 y524 t498 _ _ _ (fun k_ => some k_ ≠ (.slice Ao10 t498.length co10 : Value).ownBlock ∧ some k_ ≠ (.slice Ao72 t513.length co72 : Value).ownBlock ∧ some k_ ≠ (v531 : Value).ownBlock ∧ k_ ≠ gb508) (fun _ => False) rfl rfl ?aO ?aR (fun _ _ h => h) (fun _ h => h.elim) ?aF ?aB ?aS ?aL ?_
               (case aR => repeat (first | exact (Kd.R_reads' HO_3.out).2.2 | (with_reducible refine Kd.C_alloc ?_ _) | (with_reducible refine Kd.C_drewN ?_ _) | (with_reducible refine Kd.C_drew ?_)))
               (case aB => exact belowA)
               (case aF => exact (fun k_ hk => ⟨Kd.fresh' (Kd.R_lt (RA HO_3)) k_ hk, Kd.fresh' (Kd.R_lt (RA HO_7)) k_ hk, Kd.fresh' (Kd.R_lt (RA HO532)) k_ hk, Kd.freshB (g := gb508) (o := .cells #[.int .i64 t501, .int .i64 t502, .int .i64 t503, .int .i64 t504, .int .i64 t505, .int .i64 t506, .string t507] 26 (0, 0)) blkA k_ hk⟩))
               (case aO => exact (by (with_reducible repeat (first | apply Kd.R_alloc | apply Kd.R_drewN | apply Kd.R_drew)); exact Kd.R_mono HO526.out (fun _ hk => ⟨hk.1.1.1.2, ⟨hk.1.1.2, ⟨hk.1.2, hk.2⟩⟩⟩)))
               (case aS => exact (below_size belowA))
               (case aL => have := LMc55.out; omega)
               intro v528 w78 ho hb hg hat
               rw [← Ny527.out] at ho
               have n0_ := Aside0.mk (Kd.R_after (ok := (fun k_ => some k_ ≠ (.slice Ao72 t513.length co72 : Value).ownBlock ∧ some k_ ≠ (v531 : Value).ownBlock ∧ k_ ≠ gb508)) (by (with_reducible repeat (first | apply Kd.R_alloc | apply Kd.R_drewN | apply Kd.R_drew)); exact Kd.R_mono HO_3.out (fun _ hk => ⟨⟨hk.1.1.1, ⟨hk.1.2, hk.1.1.2⟩⟩, hk.2⟩)) hg hat)
               have n1_ := Aside0.mk (Kd.R_after (ok := (fun k_ => some k_ ≠ (.slice Ao10 t498.length co10 : Value).ownBlock ∧ some k_ ≠ (v531 : Value).ownBlock ∧ k_ ≠ gb508)) (by (with_reducible repeat (first | apply Kd.R_alloc | apply Kd.R_drewN | apply Kd.R_drew)); exact Kd.R_mono HO_7.out (fun _ hk => ⟨⟨hk.1.1.1, ⟨hk.1.2, hk.1.1.2⟩⟩, hk.2⟩)) hg hat)
               have n2_ := Aside0.mk (blk_grown (g := gb508) (o := .cells #[.int .i64 t501, .int .i64 t502, .int .i64 t503, .int .i64 t504, .int .i64 t505, .int .i64 t506, .string t507] 26 (0, 0)) blkA hg (Kd.R_away HO526.out (fun _ hk => hk.2)))
               have n3_ := Aside0.mk (Kd.R_after (ok := (fun k_ => some k_ ≠ (.slice Ao10 t498.length co10 : Value).ownBlock ∧ some k_ ≠ (.slice Ao72 t513.length co72 : Value).ownBlock ∧ k_ ≠ gb508)) (by (with_reducible repeat (first | apply Kd.R_alloc | apply Kd.R_drewN | apply Kd.R_drew)); exact Kd.R_mono HO532.out (fun _ hk => ⟨⟨hk.1.1.1.2, ⟨hk.1.1.2, hk.1.2⟩⟩, hk.2⟩)) hg hat)
               have n4_ := Aside0.mk (hb)
               have n5_ := Aside0.mk (ho)
               clear HO_3
               clear HO_7
               clear BK508
               clear HO532
               clear HB
               clear HO526
               have HO_3 := n0_
               have HO_7 := n1_
               have BK508 := n2_
               have HO532 := n3_
               have HB := n4_
               have HO529 := n5_
               clear n0_ n1_ n2_ n3_ n4_ n5_
               clear ho hb hg hat
               refine hK.out _ _ (bk7 BK508) (fun hHeld => ?_)
               clear hK K
               refine norm_ (a' := ?_) ?_ ?_
               rotate_left
               ·show Act.put _ (some 95) _ = _
                simp only [Act.put, List.setIfInBounds_toArray, List.set_cons_zero, List.set_cons_succ, i64_w, i32_w]
                rfl
               exact norm_ (by simp only [putAll, Act.put, List.setIfInBounds_toArray, List.set_cons_zero, List.set_cons_succ]) (hCont (v525, v528, v531) _ ⟨hHeld, (by (with_reducible repeat (first | apply Kd.R_alloc | apply Kd.R_drewN | apply Kd.R_drew)); exact Kd.R_mono HO529.out (fun _ hk => ⟨hk.2.2.1, ⟨hk.1, ⟨hk.2.1, hk.2.2.2⟩⟩⟩)), (by (with_reducible repeat (first | apply Kd.R_alloc | apply Kd.R_drewN | apply Kd.R_drew)); exact Kd.R_mono HO532.out (fun _ hk => ⟨hk.2, ⟨hk.1.1, ⟨hk.1.2.1, hk.1.2.2⟩⟩⟩)), (by (with_reducible repeat (first | apply Kd.R_alloc | apply Kd.R_drewN | apply Kd.R_drew)); exact Kd.R_mono HO_3.out (fun _ hk => ⟨hk.2, ⟨hk.1.2.1, ⟨hk.1.1, hk.1.2.2⟩⟩⟩)), (by (with_reducible repeat (first | apply Kd.R_alloc | apply Kd.R_drewN | apply Kd.R_drew)); exact Kd.R_mono HO_7.out (fun _ hk => ⟨hk.2, ⟨hk.1.2.1, ⟨hk.1.1, hk.1.2.2⟩⟩⟩)), blkA, belowA⟩)
             rintro ⟨v525, v528, v531⟩ w79 ⟨hS_, h0_, h1_, h2_, h3_, h4_, h5_⟩
             have n0_ : Aside0 (Kd.R k26 26 w79 w.heap.size (fun k_ => some k_ ≠ (v531 : Value).ownBlock ∧ some k_ ≠ (.slice Ao10 t498.length co10 : Value).ownBlock ∧ some k_ ≠ (.slice Ao72 t513.length co72 : Value).ownBlock ∧ k_ ≠ gb508) v528 y527) := ⟨h0_⟩
             have n1_ : Aside0 (Kd.R k26 26 w79 w.heap.size (fun k_ => some k_ ≠ (v528 : Value).ownBlock ∧ some k_ ≠ (.slice Ao10 t498.length co10 : Value).ownBlock ∧ some k_ ≠ (.slice Ao72 t513.length co72 : Value).ownBlock ∧ k_ ≠ gb508) v531 y530) := ⟨h1_⟩
             have n2_ : Aside0 (Kd.R k26 26 w79 w.heap.size (fun k_ => some k_ ≠ (v528 : Value).ownBlock ∧ some k_ ≠ (v531 : Value).ownBlock ∧ some k_ ≠ (.slice Ao72 t513.length co72 : Value).ownBlock ∧ k_ ≠ gb508) (.slice Ao10 t498.length co10) t498) := ⟨h2_⟩
             have n3_ : Aside0 (Kd.R k26 26 w79 w.heap.size (fun k_ => some k_ ≠ (v528 : Value).ownBlock ∧ some k_ ≠ (v531 : Value).ownBlock ∧ some k_ ≠ (.slice Ao10 t498.length co10 : Value).ownBlock ∧ k_ ≠ gb508) (.slice Ao72 t513.length co72) t513) := ⟨h3_⟩
             have n4_ : Aside0 (w79.heap[gb508]? = some (.cells #[.int .i64 t501, .int .i64 t502, .int .i64 t503, .int .i64 t504, .int .i64 t505, .int .i64 t506, .string t507] 26 (0, 0))) := ⟨h4_⟩
             have n5_ : Aside0 (Below w.heap.size w w79) := ⟨h5_⟩
             clear HO_3
             clear HO_7
             clear BK508
             clear HB
             clear h0_ h1_ h2_ h3_ h4_ h5_
             have HO529 := n0_
             have HO532 := n1_
             have HO_3 := n2_
             have HO_7 := n3_
             have BK508 := n4_
             have HB := n5_
             clear n0_ n1_ n2_ n3_ n4_ n5_
             have hHeld : w79.cell? ⟨gb508, 0, none⟩ = some (.int .i64 t501) ∧ w79.cell? ⟨gb508, 1, none⟩ = some (.int .i64 t502) ∧ w79.cell? ⟨gb508, 2, none⟩ = some (.int .i64 t503) ∧ w79.cell? ⟨gb508, 3, none⟩ = some (.int .i64 t504) ∧ w79.cell? ⟨gb508, 4, none⟩ = some (.int .i64 t505) ∧ w79.cell? ⟨gb508, 5, none⟩ = some (.int .i64 t506) ∧ w79.cell? ⟨gb508, 6, none⟩ = some (.string t507) := hS_
             obtain ⟨Ao81, co81, eo81⟩ := Kd.R_slice HO532.out
             (first | subst eo81 | (injection eo81 with f1_ f2_ f3_; have f4_ := f1_.symm; have f5_ := f3_.symm; clear f1_ f2_ f3_; subst f4_; subst f5_))
             refine norm_ (a' := ?_) ?_ ?_
             rotate_left
             ·simp only [putAll, Act.put, List.setIfInBounds_toArray, List.set_cons_zero, List.set_cons_succ]
              rfl
             refine one_ (i := 9) (N := some 98) (tf 10 7) rfl rfl (one_of HT_.out (by kernel_rfl)) (by decide) (fun K hK => ?_)
             refine Kd.R_append_rows_step k26 (w0 := w) w.heap.size (by rfl) (.tmp 95) (.tmp 97) 33 26 (.agg #[(.int .i64 0), (.int .i64 0), (.int .i64 0), (.int .i64 0), (.int .i64 0), (.int .i64 0), (.string ⟨#[]⟩)]) 64 rfl Tryd.underlying33 info26 rfl (by decide) (by omega) v528 y527 y530 _ _ _ (fun k_ => some k_ ≠ (.slice Ao10 t498.length co10 : Value).ownBlock ∧ some k_ ≠ (.slice Ao72 t513.length co72 : Value).ownBlock ∧ some k_ ≠ (.slice Ao81 y530.length co81 : Value).ownBlock ∧ k_ ≠ gb508) (fun _ => False) rfl rfl ?aO ?aR (fun _ _ h => h) (fun _ h => h.elim) ?aF ?aB ?aS ?aL ?_
             (case aR => repeat (first | exact (Kd.R_reads' HO532.out).2.2 | (with_reducible refine Kd.C_alloc ?_ _) | (with_reducible refine Kd.C_drewN ?_ _) | (with_reducible refine Kd.C_drew ?_)))
             (case aB => exact belowA)
             (case aF => exact (fun k_ hk => ⟨Kd.fresh' (Kd.R_lt (RA HO_3)) k_ hk, Kd.fresh' (Kd.R_lt (RA HO_7)) k_ hk, Kd.fresh' (Kd.R_lt (RA HO532)) k_ hk, Kd.freshB (g := gb508) (o := .cells #[.int .i64 t501, .int .i64 t502, .int .i64 t503, .int .i64 t504, .int .i64 t505, .int .i64 t506, .string t507] 26 (0, 0)) blkA k_ hk⟩))
             (case aO => exact (by (with_reducible repeat (first | apply Kd.R_alloc | apply Kd.R_drewN | apply Kd.R_drew)); exact Kd.R_mono HO529.out (fun _ hk => ⟨hk.2.1, ⟨hk.2.2.1, ⟨hk.1, hk.2.2.2⟩⟩⟩)))
             (case aS => exact (below_size belowA))
             (case aL => have := LMc56.out; omega)
             intro v534 w80 ho hb hg hat
             rw [← Ny533.out] at ho
             have n0_ := Aside0.mk (Kd.R_after (ok := (fun k_ => some k_ ≠ (.slice Ao72 t513.length co72 : Value).ownBlock ∧ some k_ ≠ (.slice Ao81 y530.length co81 : Value).ownBlock ∧ k_ ≠ gb508)) (by (with_reducible repeat (first | apply Kd.R_alloc | apply Kd.R_drewN | apply Kd.R_drew)); exact Kd.R_mono HO_3.out (fun _ hk => ⟨⟨hk.2.2.1, ⟨hk.2.1, hk.2.2.2⟩⟩, hk.1⟩)) hg hat)
             have n1_ := Aside0.mk (Kd.R_after (ok := (fun k_ => some k_ ≠ (.slice Ao10 t498.length co10 : Value).ownBlock ∧ some k_ ≠ (.slice Ao81 y530.length co81 : Value).ownBlock ∧ k_ ≠ gb508)) (by (with_reducible repeat (first | apply Kd.R_alloc | apply Kd.R_drewN | apply Kd.R_drew)); exact Kd.R_mono HO_7.out (fun _ hk => ⟨⟨hk.2.2.1, ⟨hk.2.1, hk.2.2.2⟩⟩, hk.1⟩)) hg hat)
             have n2_ := Aside0.mk (blk_grown (g := gb508) (o := .cells #[.int .i64 t501, .int .i64 t502, .int .i64 t503, .int .i64 t504, .int .i64 t505, .int .i64 t506, .string t507] 26 (0, 0)) blkA hg (Kd.R_away HO529.out (fun _ hk => hk.2.2.2)))
             have n3_ := Aside0.mk (Kd.R_after (ok := (fun k_ => some k_ ≠ (.slice Ao10 t498.length co10 : Value).ownBlock ∧ some k_ ≠ (.slice Ao72 t513.length co72 : Value).ownBlock ∧ k_ ≠ gb508)) (by (with_reducible repeat (first | apply Kd.R_alloc | apply Kd.R_drewN | apply Kd.R_drew)); exact Kd.R_mono HO532.out (fun _ hk => ⟨⟨hk.2.1, ⟨hk.2.2.1, hk.2.2.2⟩⟩, hk.1⟩)) hg hat)
             have n4_ := Aside0.mk (hb)
             have n5_ := Aside0.mk (ho)
             clear HO_3
             clear HO_7
             clear BK508
             clear HO532
             clear HB
             clear HO529
             have HO_3 := n0_
             have HO_7 := n1_
             have BK508 := n2_
             have HO532 := n3_
             have HB := n4_
             have HO535 := n5_
             clear n0_ n1_ n2_ n3_ n4_ n5_
             clear ho hb hg hat
             obtain ⟨Ao82, co82, eo82⟩ := Kd.R_slice HO535.out
             (first | subst eo82 | (injection eo82 with f1_ f2_ f3_; have f4_ := f1_.symm; have f5_ := f3_.symm; clear f1_ f2_ f3_; subst f4_; subst f5_))
             refine hK.out _ _ (bk7 BK508) (fun hHeld => ?_)
             clear hK K
             refine norm_ (a' := ?_) ?_ ?_
             rotate_left
             ·show Act.put _ (some 98) _ = _
              simp only [Act.put, List.setIfInBounds_toArray, List.set_cons_zero, List.set_cons_succ, i64_w, i32_w]
              rfl
             refine one_ (i := 10) (N := some 99) (tf 11 6) rfl rfl (one_of HT_.out (by kernel_rfl)) (by decide) (fun K hK => ?_)
             refine goes_ Tryd.func35 (by kernel_rfl) rfl #[.slice Ao72 t513.length co72, .slice Ao82 y533.length co82] (by rfl) rfl rfl argsA ?_
             with_reducible refine (laws_lpLog.calls kj43 _ _ t513 _ _ y533 false _ ?side1 ?side2 ?side3 ?side4 A57.out).mono ?_
             (case side1 => repeat (first | exact (Kd.R_reads' HO_7.out).2.2 | (with_reducible refine Kd.C_alloc ?_ _) | (with_reducible refine Kd.C_drewN ?_ _) | (with_reducible refine Kd.C_drew ?_)))
             (case side2 => exact (Kd.R_reads' HO_7.out).2.1)
             (case side3 => repeat (first | exact (Kd.R_reads' HO535.out).2.2 | (with_reducible refine Kd.C_alloc ?_ _) | (with_reducible refine Kd.C_drewN ?_ _) | (with_reducible refine Kd.C_drew ?_)))
             (case side4 => exact (Kd.R_reads' HO535.out).2.1)
             rintro e w' ⟨rfl, ⟨nd, rfl⟩⟩
             refine ⟨_, rfl, ?_⟩
             refine hK.out _ _ (bk7 BK508) (fun hHeld => ?_)
             clear hK K
             refine norm_ (a' := ?_) ?_ ?_
             rotate_left
             ·show Act.put _ (some 99) _ = _
              simp only [Act.put, List.setIfInBounds_toArray, List.set_cons_zero, List.set_cons_succ, i64_w, i32_w]
              rfl
             refine pure_ (i := 11) (N := some 100) (tf 12 5) rfl rfl (anA HT_) (fun _ _ _ h => h) yldA putA ?_
             refine pure_ (i := 12) (N := some 101) (tf 13 4) rfl rfl (anA HT_) (fun _ _ _ h => h) yldA putA ?_
             refine pure_ (i := 13) (N := some 102) (tf 14 3) rfl rfl (anA HT_) (fun _ _ _ h => h) yldU putA ?_
             refine pure_ (i := 14) (N := some 103) (tf 15 2) rfl rfl (anA HT_) (fun _ _ _ h => h) yldU putA ?_
             refine pure_ (i := 15) (N := some 104) (tf 16 1) rfl rfl (anA HT_) (fun _ _ _ h => h) yldA putA ?_
             refine pure_ (i := 16) (N := some 2) (tf 17 0) rfl rfl (anA HT_) (fun _ _ _ h => h) yldA putA ?_
             refine done_ (done_of HT_.out (by kernel_rfl)) ?_
             try go_wp2
             go_ret
             exact ⟨endA, belowA⟩
           ·rw [if_neg c56] at H
            exact absurd H (by simp)
          ·rw [if_neg c55] at H
           exact absurd H (by simp)
         ·rw [if_neg c54] at H
          have c54b0 : (t516 == 1) = false := beq_eq_false_iff_ne.mpr c54
          have c54b1 : (t516 != 1) = true := bne_iff_ne.mpr c54
          obtain rfl := Option.some.inj H
          try go_wp2
          have n0_ := Aside0.mk (Kd.R_drew HO_3.out)
          have n1_ := Aside0.mk (Kd.R_drew HO_7.out)
          have n2_ := Aside0.mk (blk_drew BK508.out)
          have n3_ := Aside0.mk (below_drew1 HB.out)
          clear HO_3
          clear HO_7
          clear BK508
          clear HB
          have HO_3 := n0_
          have HO_7 := n1_
          have BK508 := n2_
          have HB := n3_
          clear n0_ n1_ n2_ n3_
          refine start_ (n := 17) (S := fun w' => True) (ds := []) (tf 0 17) (by kernel_rfl) rfl rfl trivial (fun hHeld => ?_); refine with_tabW laws_FnLogAdd.tab13 laws_FnLogAdd.bits13 (fun HT_ HW_ => ?_)
          generalize wc.drew = w83 at HO_3 HO_7 BK508 HB hHeld ⊢
          refine pure_ (i := 0) (N := some 89) (tf 1 16) rfl rfl (anA HT_) (fun _ _ _ h => h) yldA putA ?_
          refine pure_ (i := 1) (N := some 90) (tf 2 15) rfl rfl (anA HT_) (fun _ _ _ h => h) yldA putA ?_
          refine pure_ (i := 2) (N := some 91) (tf 3 14) rfl rfl (anA HT_) (fun _ _ _ h => h) yldA putA ?_
          refine pure_ (i := 3) (N := some 92) (tf 4 13) rfl rfl (anA HT_) (fun _ _ _ h => h) yldU putA ?_
          refine pure_ (i := 4) (N := some 93) (tf 5 12) rfl rfl (anA HT_) (fun _ _ _ h => h) yldU putA ?_
          refine pure_ (i := 5) (N := some 94) (tf 6 11) rfl rfl (anA HT_) (fun _ _ _ h => h) yldU putA ?_
          refine pure_ (i := 6) (N := some 95) (tf 7 10) rfl rfl (anA HT_) (fun _ _ _ h => h) yldU putA ?_
          refine pure_ (i := 7) (N := some 96) (tf 8 9) rfl rfl (anA HT_) (fun _ _ _ h => h) yldU putA ?_
          refine pure_ (i := 8) (N := some 97) (tf 9 8) rfl rfl (anA HT_) (fun _ _ _ h => h) yldU putA ?_
          refine pure_ (i := 9) (N := some 98) (tf 10 7) rfl rfl (anA HT_) (fun _ _ _ h => h) yldU putA ?_
          refine pure_ (i := 10) (N := some 99) (tf 11 6) rfl rfl (anA HT_) (fun _ _ _ h => h) yldU putA ?_
          refine pure_ (i := 11) (N := some 100) (tf 12 5) rfl rfl (anA HT_) (fun _ _ _ h => h) yldA putA ?_
          refine pure_ (i := 12) (N := some 101) (tf 13 4) rfl rfl (anA HT_) (fun _ _ _ h => h) yldA putA ?_
          refine pure_ (i := 13) (N := some 102) (tf 14 3) rfl rfl (anA HT_) (fun _ _ _ h => h) yldU putA ?_
          refine pure_ (i := 14) (N := some 103) (tf 15 2) rfl rfl (anA HT_) (fun _ _ _ h => h) yldU putA ?_
          refine pure_ (i := 15) (N := some 104) (tf 16 1) rfl rfl (anA HT_) (fun _ _ _ h => h) yldA putA ?_
          refine pure_ (i := 16) (N := some 2) (tf 17 0) rfl rfl (anA HT_) (fun _ _ _ h => h) yldA putA ?_
          refine done_ (done_of HT_.out (by kernel_rfl)) ?_
          try go_wp2
          go_ret
          exact ⟨endA, belowA⟩
        ·replace c53 := Bool.eq_false_iff.mpr c53
         subst c53
         have H1 : (if t516 = (-1) then ((laws_lpLog.f kj43 t513 t498).bind fun t538 => (some t538)) else (some false)) = some r := by rw [if_neg (show ¬ (false = true) by decide)] at H; exact H
         clear H
         have H := H1
         clear H1
         by_cases c84 : t516 = (-1)
         ·rw [if_pos c84] at H
          have c84b0 : (t516 == (-1)) = true := beq_iff_eq.mpr c84
          have c84b1 : (t516 != (-1)) = false := bne_eq_false_iff_eq.mpr c84
          clear c84
          replace H := Option.bind_eq_some_iff.mp H
          obtain ⟨t538, A850, H⟩ := H
          (try dsimp only at H)
          have A85 := Aside0.mk A850
          clear A850
          obtain rfl := Option.some.inj H
          obtain ⟨Ao86, co86, eo86⟩ := Kd.R_slice HO_7.out
          subst eo86
          go_wp2_with (first | (go_at_call 35; (with_reducible refine (laws_lpLog.calls kj43 _ _ t513 _ _ t498 t538 _ ?side1 ?side2 ?side3 ?side4 A85.out).mono ?_); (case side1 => repeat (first | exact (Kd.R_reads' HO_7.out).2.2 | (with_reducible refine Kd.C_alloc ?_ _) | (with_reducible refine Kd.C_drewN ?_ _) | (with_reducible refine Kd.C_drew ?_))); (case side2 => exact (Kd.R_reads' HO_7.out).2.1); (case side3 => repeat (first | exact (Kd.R_reads' HO_3.out).2.2 | (with_reducible refine Kd.C_alloc ?_ _) | (with_reducible refine Kd.C_drewN ?_ _) | (with_reducible refine Kd.C_drew ?_))); (case side4 => exact (Kd.R_reads' HO_3.out).2.1); rintro e w' ⟨rfl, ⟨nd, rfl⟩⟩))
          go_ret
          exact ⟨endA, belowA⟩
         ·rw [if_neg c84] at H
          have c84b0 : (t516 == (-1)) = false := beq_eq_false_iff_ne.mpr c84
          have c84b1 : (t516 != (-1)) = true := bne_iff_ne.mpr c84
          obtain rfl := Option.some.inj H
          go_wp2
          go_ret
          exact ⟨endA, belowA⟩
def laws_FnLogAdd.Pure : Prop := ∀ (l0 : List Int), (l0.length * 1 ≤ 140737488351232) → (∀ x_ ∈ l0, (Lit.int .u8 x_).wf = true) → ∃ k, laws_FnLogAdd.f k l0 = some true
theorem laws_FnLogAdd.walk (P : laws_FnLogAdd.Pure) (A0 : Option Addr) (c0 : Nat) (l0 : List Int) (w : World) (hr0 : Kd.C (Kd.int .u8) w A0 l0.length l0) (hc0 : l0.length ≤ c0) (ht : TabOk w) (w0_0 : l0.length * 1 ≤ 140737488351232) (w0_1 : ∀ x_ ∈ l0, (Lit.int .u8 x_).wf = true) :
  Calls Tryd.prog 11 #[.slice A0 l0.length c0] w fun e w' => e = .returned (.bool true) ∧ Below w.heap.size w w' := by
 obtain ⟨k, h⟩ := P l0 w0_0 w0_1
 refine (laws_FnLogAdd.calls k A0 c0 l0 true w hr0 hc0 ht h).mono ?_
 rintro e w' ⟨rfl, hd⟩
 exact ⟨rfl, hd⟩
end Go.Proofs.YtlpfjabfhgfpmaaDoor.P
