
-- Written by wip/tools/pprint.py (a program of this session) over the kit's printer; not trusted: Lean checks it.
import Derived.Test.YtlpfjabfhgfpmaaDoorPx0
import Derived.Test.YtlpfjabfhgfpmaaDoorPx7
import Derived.Test.YtlpfjabfhgfpmaaDoorPx9
import Derived.Test.YtlpfjabfhgfpmaaDoorV
namespace Go.Proofs.YtlpfjabfhgfpmaaDoor.P
open Go.RowKit Go.Proofs.YtlpfjabfhgfpmaaDoorW.PrintWords Go.Proofs.YtlpfjabfhgfpmaaDoorW.PrintLast Go.Proofs.YtlpfjabfhgfpmaaDoorW.PrintMore
attribute [local go_sem] cell_set_set cell_set_far_set max2_int min2_int max_two min_two max_three min_three max_four min_four   -- for this text's walks alone
set_option linter.unusedVariables false
set_option linter.unusedSimpArgs false
def spec_l3Do.f (k : Nat) (l0 : List (S105)) (a1_0 : Int) (a1_1 : Int) (a1_2 : Int) (a1_3 : Int) (a1_4 : ByteArray) : Option ((List (S105))) := (spec_l2At.f k l0 a1_1).bind fun t359 => (if a1_0 = 2 then ((some (([] : List (S105)) : List (S105))).bind fun y360 => (if y360.length + l0.length < 4398046511104 then ((some (y360 ++ l0 : List (S105))).bind fun y363 => (if t359 ≥ 0 then (if 0 ≤ t359 then (if t359 < (y363.length : Int) then (some (y363.set (t359 : Int).toNat (⟨(rd_T105 y363 t359).f0, (rd_T105 y363 t359).f1, a1_4⟩ : S105))) else (none)) else (none)) else (some y363))) else (none))) else ((spec_l3Where.f k l0 a1_0 a1_1 a1_2 a1_3 a1_4).bind fun bt367 => (if bt367.2.2 = true then (if a1_0 = 1 then ((spec_l3Put.f k l0 (([(⟨a1_1, 0, a1_4⟩ : S105)] : List (S105))) bt367.1 bt367.2.1).bind fun t379 => (some t379)) else ((spec_l2End.f k l0 t359).bind fun t382 => ((some (([] : List (S105)) : List (S105))).bind fun y383 => (if 0 ≤ t359 then (if t359 ≤ t382 then (if t382 ≤ (l0.length : Int) then ((some ((l0.take (t382 : Int).toNat).drop (t359 : Int).toNat : List (S105))).bind fun y386 => (if y383.length + y386.length < 4398046511104 then ((some (([] : List (S105)) : List (S105))).bind fun y393 => (if t359 ≤ (l0.length : Int) then ((some (l0.take (t359 : Int).toNat : List (S105))).bind fun y396 => (if y393.length + y396.length < 4398046511104 then ((some (y393 ++ y396 : List (S105))).bind fun y400 => (if 0 ≤ t382 then ((some (l0.drop (t382 : Int).toNat : List (S105))).bind fun y403 => (if y400.length + y403.length < 4398046511104 then ((spec_l3Put.f k (y400 ++ y403) (y383 ++ y386) bt367.1 bt367.2.1).bind fun t410 => (some t410)) else (none))) else (none))) else (none))) else (none))) else (none))) else (none)) else (none)) else (none))))) else ((some (([] : List (S105)) : List (S105))).bind fun y370 => (if y370.length + l0.length < 4398046511104 then (some (y370 ++ l0)) else (none))))))
theorem spec_l3Do.mono : ∀ a0 a1 a2 a3 a4 a5 k, LeO (spec_l3Do.f k a0 a1 a2 a3 a4 a5) (spec_l3Do.f (k + 1) a0 a1 a2 a3 a4 a5) := by
 intro a0 a1 a2 a3 a4 a5 k
 unfold spec_l3Do.f
 repeat' first
   | (with_reducible exact spec_l2At.mono _ _ _)
   | (with_reducible exact spec_l2End.mono _ _ _)
   | (with_reducible exact spec_l3Put.mono _ _ _ _ _)
   | (with_reducible exact spec_l3Where.mono _ _ _ _ _ _ _)
   | (with_reducible exact LeO.refl _)
   | (with_reducible exact LeO.none _)
   | (with_reducible refine LeO.ite ?_ ?_)
   | (with_reducible refine LeO.bind ?_ (fun _ => ?_))
   | exact spec_l2At.mono _ _ _
   | exact spec_l2End.mono _ _ _
   | exact spec_l3Put.mono _ _ _ _ _
   | exact spec_l3Where.mono _ _ _ _ _ _ _
   | exact LeO.none _
   | refine LeO.ite ?_ ?_
   | refine LeO.bind ?_ (fun _ => ?_)
def spec_l3Do.T14 : Bool × List (List Nat × List Nat) := (true, [([], []), ([], []), ([], []), ([1, 2], [1, 2]), ([0, 3], [0, 3]), ([], []), ([], []), ([5, 6], [5, 6]), ([4, 7, 4], [4, 7]), ([8, 8, 0, 1, 2, 3, 4, 5, 6, 7, 8], [8])])
def spec_l3Do.B14 : List Nat := [0, 0, 0, 6, 15, 0, 0, 96, 255, 511]
theorem spec_l3Do.tab14 : rtab .any (opsOf Tryd.f66 14) = spec_l3Do.T14 := by kernel_rfl
theorem spec_l3Do.bits14 : waitsOk spec_l3Do.T14.2 spec_l3Do.B14 = true := by kernel_rfl
set_option maxHeartbeats 8000000 in
set_option maxRecDepth 100000 in
theorem spec_l3Do.calls (k : Nat) (A0 : Option Addr) (c0 : Nat) (l0 : List (S105)) (a1_0 : Int) (a1_1 : Int) (a1_2 : Int) (a1_3 : Int) (a1_4 : ByteArray) (r : List (S105)) (w : World) (hr0 : Kd.C k105 w A0 l0.length l0) (hc0 : l0.length ≤ c0) (h : spec_l3Do.f k l0 a1_0 a1_1 a1_2 a1_3 a1_4 = some r) :
  Calls Tryd.prog 66 #[.slice A0 l0.length c0, .agg #[.int .i64 a1_0, .int .i64 a1_1, .int .i64 a1_2, .int .i64 a1_3, .string a1_4]] w fun e w' => ∃ v0_ : Value, e = .returned (v0_) ∧ Kd.R k105 105 w' w.heap.size (fun _ => True) v0_ r ∧ Below w.heap.size w w' := by
 have hu24 := Tryd.underlying24
 have hu105 := Tryd.underlying105
 have HR0 := Aside0.mk hr0
 have HC0 := Aside0.mk hc0
 clear hr0 hc0
 have HB := Aside0.mk (Below.refl w.heap.size w)
 have H : ((spec_l2At.f k l0 a1_1).bind fun t359 => (if a1_0 = 2 then ((some (([] : List (S105)) : List (S105))).bind fun y360 => (if y360.length + l0.length < 4398046511104 then ((some (y360 ++ l0 : List (S105))).bind fun y363 => (if t359 ≥ 0 then (if 0 ≤ t359 then (if t359 < (y363.length : Int) then (some (y363.set (t359 : Int).toNat (⟨(rd_T105 y363 t359).f0, (rd_T105 y363 t359).f1, a1_4⟩ : S105))) else (none)) else (none)) else (some y363))) else (none))) else ((spec_l3Where.f k l0 a1_0 a1_1 a1_2 a1_3 a1_4).bind fun bt367 => (if bt367.2.2 = true then (if a1_0 = 1 then ((spec_l3Put.f k l0 (([(⟨a1_1, 0, a1_4⟩ : S105)] : List (S105))) bt367.1 bt367.2.1).bind fun t379 => (some t379)) else ((spec_l2End.f k l0 t359).bind fun t382 => ((some (([] : List (S105)) : List (S105))).bind fun y383 => (if 0 ≤ t359 then (if t359 ≤ t382 then (if t382 ≤ (l0.length : Int) then ((some ((l0.take (t382 : Int).toNat).drop (t359 : Int).toNat : List (S105))).bind fun y386 => (if y383.length + y386.length < 4398046511104 then ((some (([] : List (S105)) : List (S105))).bind fun y393 => (if t359 ≤ (l0.length : Int) then ((some (l0.take (t359 : Int).toNat : List (S105))).bind fun y396 => (if y393.length + y396.length < 4398046511104 then ((some (y393 ++ y396 : List (S105))).bind fun y400 => (if 0 ≤ t382 then ((some (l0.drop (t382 : Int).toNat : List (S105))).bind fun y403 => (if y400.length + y403.length < 4398046511104 then ((spec_l3Put.f k (y400 ++ y403) (y383 ++ y386) bt367.1 bt367.2.1).bind fun t410 => (some t410)) else (none))) else (none))) else (none))) else (none))) else (none))) else (none)) else (none)) else (none))))) else ((some (([] : List (S105)) : List (S105))).bind fun y370 => (if y370.length + l0.length < 4398046511104 then (some (y370 ++ l0)) else (none))))))) = some r := h
 clear h
 replace H := Option.bind_eq_some_iff.mp H
 obtain ⟨t359, A30, H⟩ := H
 (try dsimp only at H)
 have A3 := Aside0.mk A30
 clear A30
 by_cases c4 : a1_0 = 2
 ·rw [if_pos c4] at H
  have c4b0 : (a1_0 == 2) = true := beq_iff_eq.mpr c4
  have c4b1 : (a1_0 != 2) = false := bne_eq_false_iff_eq.mpr c4
  clear c4
  obtain ⟨y360, hy360⟩ : ∃ y_ : List (S105), y_ = (([] : List (S105))) := ⟨_, rfl⟩
  replace H : (if y360.length + l0.length < 4398046511104 then ((some (y360 ++ l0 : List (S105))).bind fun y363 => (if t359 ≥ 0 then (if 0 ≤ t359 then (if t359 < (y363.length : Int) then (some (y363.set (t359 : Int).toNat (⟨(rd_T105 y363 t359).f0, (rd_T105 y363 t359).f1, a1_4⟩ : S105))) else (none)) else (none)) else (some y363))) else (none)) = some r := by first | (rw [hy360]; with_reducible exact H) | (have H2_ := (Option.bind_some _ _).symm.trans H; rw [hy360]; with_reducible exact H2_) | (have H2_ := (Option.bind_some _ _).symm.trans H; with_reducible exact H2_) | with_reducible exact H | (rw [hy360]; exact H) | exact H
  have Ny360 := Aside0.mk hy360
  clear hy360
  by_cases c5 : y360.length + l0.length < 4398046511104
  ·rw [if_pos c5] at H
   have LMc5 := Aside0.mk c5
   clear c5
   obtain ⟨y363, hy363⟩ : ∃ y_ : List (S105), y_ = (y360 ++ l0) := ⟨_, rfl⟩
   replace H : (if t359 ≥ 0 then (if 0 ≤ t359 then (if t359 < (y363.length : Int) then (some (y363.set (t359 : Int).toNat (⟨(rd_T105 y363 t359).f0, (rd_T105 y363 t359).f1, a1_4⟩ : S105))) else (none)) else (none)) else (some y363)) = some r := by first | (rw [hy363]; with_reducible exact H) | (have H2_ := (Option.bind_some _ _).symm.trans H; rw [hy363]; with_reducible exact H2_) | (have H2_ := (Option.bind_some _ _).symm.trans H; with_reducible exact H2_) | with_reducible exact H | (rw [hy363]; exact H) | exact H
   have Ny363 := Aside0.mk hy363
   clear hy363
   by_cases c6 : t359 ≥ 0
   ·rw [if_pos c6] at H
    have c6b0 : decide (0 ≤ t359) = true := decide_eq_true c6
    clear c6
    by_cases c7 : 0 ≤ t359
    ·rw [if_pos c7] at H
     have c7b0 : decide (0 ≤ t359) = true := decide_eq_true c7
     clear c7
     by_cases c8 : t359 < (y363.length : Int)
     ·rw [if_pos c8] at H
      have c8b0 : decide (t359 < (y363.length : Int)) = true := decide_eq_true c8
      clear c8
      obtain ⟨y366, hy366⟩ : ∃ y_ : List (S105), y_ = (y363.set (t359 : Int).toNat (⟨(rd_T105 y363 t359).f0, (rd_T105 y363 t359).f1, a1_4⟩ : S105)) := ⟨_, rfl⟩
      replace H : (some y366) = some r := by first | (rw [hy366]; with_reducible exact H) | (have H2_ := (Option.bind_some _ _).symm.trans H; rw [hy366]; with_reducible exact H2_) | (have H2_ := (Option.bind_some _ _).symm.trans H; with_reducible exact H2_) | with_reducible exact H | (rw [hy366]; exact H) | exact H
      have Ny366 := Aside0.mk hy366
      clear hy366
      obtain rfl := Option.some.inj H
      go_enter Tryd.func66, Tryd.ntmps66
      go_wp2_with (first | ((with_reducible refine gate_dst (N := 3) rfl ?_); refine box_event ?hg (N := 3) ?hd (cs := #[.int .i64 a1_0, .int .i64 a1_1, .int .i64 a1_2, .int .i64 a1_3, .string a1_4]) (t := 24) ?hr ?_; (case hd => rfl); (case hg => rfl); (case hr => first | (go_simp; done) | (go_simp; rfl)); intro gb358 hg w10 hbox hb; have n0_ := Aside0.mk (below_step belowA hb); have n1_ := Aside0.mk (hbox); have n2_ := Aside0.mk ((by rw [hg]; exact (below_size belowA) : w.heap.size ≤ gb358)); have n3_ := Aside0.mk ((by rw [hg]; exact (below_size belowA) : w.heap.size ≤ gb358)); clear HB; have HB := n0_; have BK358 := n1_; obtain ⟨hcq_0, hcq_1, hcq_2, hcq_3, hcq_4, hfq_0, hfq_1, hfq_2, hfq_3, hfq_4⟩ := blk_facts5 BK358.out; have GW358 := n2_; have GE358 := n3_; clear n0_ n1_ n2_ n3_; clear hb hbox hg; obtain ⟨hcz11_0, hcz11_1, hcz11_2, hcz11_3, hcz11_4, hfz11_0, hfz11_1, hfz11_2, hfz11_3, hfz11_4⟩ := blk_facts5 BK358.out) | ((with_reducible refine gate_callee (f := 74) rfl ?_); refine goesL_ (some 16) rfl rfl Tryd.func74 (by kernel_rfl) rfl #[.slice A0 l0.length c0, .int .i64 a1_1] rfl argsA ?_; (with_reducible refine (spec_l2At.calls k _ _ l0 a1_1 t359 _ ?side1 ?side2 A3.out).mono ?_); (case side1 => exact CA (Kd.C_below HR0.out HB.out)); (case side2 => exact HC0.out); rintro e w' ⟨rfl, ⟨nd, rfl⟩⟩; refine ⟨_, rfl, ?_⟩; (try (rw [drewN_self w10]; generalize hq_ : World.drewN w10 _ = w10; have n0_ : Aside0 (w10.heap[gb358]? = some (.cells #[.int .i64 a1_0, .int .i64 a1_1, .int .i64 a1_2, .int .i64 a1_3, .string a1_4] 24 (0, 0))) := ⟨by rw [← hq_]; exact blkA⟩; have n1_ : Aside0 (Below w.heap.size w w10) := ⟨by rw [← hq_]; exact belowA⟩; clear BK358 HB hq_; have BK358 := n0_; obtain ⟨hcq_0, hcq_1, hcq_2, hcq_3, hcq_4, hfq_0, hfq_1, hfq_2, hfq_3, hfq_4⟩ := blk_facts5 BK358.out; have HB := n1_; clear n0_ n1_))) | ((with_reducible refine gate_dst (N := 20) rfl ?_); refine Kd.R_lit k105 _ 105 ?hg (N := 20) ?hd (xs := ([] : List (S105))) (inner := []) (ok := fun _ => True) (okp := fun _ => True) ?hr ?hp (fun _ hk => hk) trivial (Below.refl _ _) (Nat.le_refl _) (by simp) ?_; (case hd => rfl); (case hg => rfl); (case hr => first | (go_simp; done) | (go_simp; rfl)); (case hp => exact (Reps.none _ _)); intro v361 w12 ho13 hb hg_ hnew_; clear hg_ hnew_; (first | rw [← Ny360.out] at ho13 | (simp only [Int.reduceToNat] at ho13; rw [← Ny360.out] at ho13)); have n0_ := Aside0.mk (Kd.R_lower ho13 (below_size belowA)); have n1_ := Aside0.mk (blk_below (g := gb358) (o := .cells #[.int .i64 a1_0, .int .i64 a1_1, .int .i64 a1_2, .int .i64 a1_3, .string a1_4] 24 (0, 0)) blkA hb); have n2_ := Aside0.mk (below_step belowA hb); clear BK358; clear HB; have HO362 := n0_; have BK358 := n1_; obtain ⟨hcq_0, hcq_1, hcq_2, hcq_3, hcq_4, hfq_0, hfq_1, hfq_2, hfq_3, hfq_4⟩ := blk_facts5 BK358.out; have HB := n2_; clear n0_ n1_ n2_; clear hb ho13) | ((with_reducible refine gate_builtin (b := .append) (xs := #[.tmp 20, .tmp 21]) rfl ?_); at_builtin; refine Kd.R_append_rows k105 (w0 := w) w.heap.size rfl (.tmp 20) (.tmp 21) 91 105 (.agg #[(.int .i64 0), (.int .i64 0), (.string ⟨#[]⟩)]) 32 rfl Tryd.underlying91 info105 rfl (by decide) (by omega) v361 y360 l0 _ _ _ (fun _ => True) (fun _ => False) rfl rfl ?aO ?aR (fun _ _ h => h) (fun _ h => h.elim) ?aF ?aB ?aS ?aL ?_; (case aR => exact CA (Kd.C_below HR0.out HB.out)); (case aB => exact belowA); (case aF => exact (fun _ _ => trivial)); (case aO => exact (RA HO362)); (case aS => exact (below_size belowA)); (case aL => have := LMc5.out; omega); intro v364 w14 ho hb hg hat; rw [← Ny363.out] at ho; have n0_ := Aside0.mk (blk_grown (g := gb358) (o := .cells #[.int .i64 a1_0, .int .i64 a1_1, .int .i64 a1_2, .int .i64 a1_3, .string a1_4] 24 (0, 0)) blkA hg (Kd.R_ne HO362.out BK358.out (by decide))); have n1_ := Aside0.mk (hb); have n2_ := Aside0.mk (ho); clear BK358; clear HB; clear HO362; have BK358 := n0_; obtain ⟨hcq_0, hcq_1, hcq_2, hcq_3, hcq_4, hfq_0, hfq_1, hfq_2, hfq_3, hfq_4⟩ := blk_facts5 BK358.out; have HB := n1_; have HO365 := n2_; clear n0_ n1_ n2_; clear ho hb hg hat; obtain ⟨hcz15_0, hcz15_1, hcz15_2, hcz15_3, hcz15_4, hfz15_0, hfz15_1, hfz15_2, hfz15_3, hfz15_4⟩ := blk_facts5 BK358.out; have p9 : 0 ≤ (t359 : Int) := of_decide_eq_true (by first | (with_reducible assumption) | assumption); have q9 : (t359 : Int) < ((y363.length : Int) : Int) := of_decide_eq_true (by first | (with_reducible assumption) | assumption); obtain ⟨go9, co9, eo9, gb9, gl9, cl9, HG9⟩ := Kd.R_form HO365.out (by omega); (first | cases eo9 | (injection eo9 with ea_ en_ ec_; (first | subst ea_ | (injection ea_ with ea_; subst ea_)); subst ec_; clear en_)); have GB9 := Aside0.mk gb9; have GG9 := Aside0.mk HG9; clear gb9 gl9 HG9; obtain ⟨ce9, hcl9, hM9, hcc9, hfr9⟩ := Kd.R_elem HO365.out z105 (t359 : Int) p9 q9; obtain rfl := k105_openM hM9; have hx9_0 : w14.cell? ⟨go9, (t359 : Int).toNat * 3, none⟩ = some (.int .i64 ((rd_T105 y363 t359).f0)) := hcc9 0 _ rfl; have hx9_1 : w14.cell? ⟨go9, (t359 : Int).toNat * 3 + 1, none⟩ = some (.int .i64 ((rd_T105 y363 t359).f1)) := hcc9 1 _ rfl; have hx9_2 : w14.cell? ⟨go9, (t359 : Int).toNat * 3 + 2, none⟩ = some (.string ((rd_T105 y363 t359).f2)) := hcc9 2 _ rfl; have hf9_0 : w14.frozen? ⟨go9, (t359 : Int).toNat * 3, none⟩ = false := hfr9 0; have hf9_1 : w14.frozen? ⟨go9, (t359 : Int).toNat * 3 + 1, none⟩ = false := hfr9 1; have hf9_2 : w14.frozen? ⟨go9, (t359 : Int).toNat * 3 + 2, none⟩ = false := hfr9 2; clear hcl9 hcc9 hfr9 hM9; replace p9 := eq_true p9; replace q9 := eq_true q9; have HX16 := Aside0.mk (show Kd.R k105 105 w14 w.heap.size (fun _ => True) (.slice (some ⟨go9, 0, none⟩) y363.length co9) y363 from (RA HO365)); obtain ⟨ce16, hcl16, hM16, hcc16, hfr16⟩ := Kd.R_elem HX16.out z105 (t359 : Int) (of_decide_eq_true (by first | (with_reducible assumption) | assumption)) (by have h_ : (t359 : Int) < ((y363.length : Int) : Int) := of_decide_eq_true (by first | (with_reducible assumption) | assumption); first | exact h_ | (have e_ := (Kd.R_reads' HO365.out).1; omega) | simpa using h_); obtain rfl := k105_openM hM16; have HP16 := Kd.R_seg HX16.out (t359 : Int) (of_decide_eq_true (by first | (with_reducible assumption) | assumption)) (by have h_ : (t359 : Int) < ((y363.length : Int) : Int) := of_decide_eq_true (by first | (with_reducible assumption) | assumption); first | exact h_ | (have e_ := (Kd.R_reads' HO365.out).1; omega) | simpa using h_) (seg := [.string a1_4]) (j := 2) hcl16 hcc16 (show 3 ≤ 3 from by decide) (x' := (⟨(rd_T105 y363 t359).f0, (rd_T105 y363 t359).f1, a1_4⟩ : S105)) (k105_mkM _ _ _ (⟨(rd_T105 y363 t359).f0, (rd_T105 y363 t359).f1, a1_4⟩ : S105) ) (fun _ hk => hk); have hx16_2 := hcc16 2 _ rfl; (try simp only [show (k105).sz = 3 from rfl, Nat.mul_one, Nat.add_zero] at hx16_2); have hf16_2 := hfr16 2; (try simp only [show (k105).sz = 3 from rfl, Nat.mul_one, Nat.add_zero] at hf16_2); clear hcl16 hcc16 hfr16 hM16) | ((with_reducible refine gate_store (t := 9) (p := 30) rfl ?_); refine store_event (t := 9) (p := 30) (v := ?vo_w17) (w1 := (w14.setCell ⟨go9, (t359 : Int).toNat * 3 + 2, none⟩ (.string a1_4))) ?hg ?ho ?hn ?hr ?_; (case ho => rfl); (case hg => rfl); (case hn => rfl); (case hr => first | (go_simp; done) | (go_simp; rfl)); intro w17 hw; have hg : w14.grownBy w17 (some go9) := (by rw [hw]; exact HP16.2); have hp_ : Kd.R k105 105 w17 w.heap.size (fun _ => True) (.slice (some ⟨go9, 0, none⟩) y363.length co9) y366 := (by rw [hw, Ny366.out]; exact HP16.1); clear HP16; have n0_ := Aside0.mk (blk_grown (g := gb358) (o := .cells #[.int .i64 a1_0, .int .i64 a1_1, .int .i64 a1_2, .int .i64 a1_3, .string a1_4] 24 (0, 0)) blkA hg (Kd.R_ne HO365.out BK358.out (by decide))); have n1_ := Aside0.mk (hp_); have n2_ := Aside0.mk ((by rw [hw]; exact below_set (HB.out) GB9.out : Below w.heap.size w w17)); clear BK358; clear HO365; clear HB; have BK358 := n0_; obtain ⟨hcq_0, hcq_1, hcq_2, hcq_3, hcq_4, hfq_0, hfq_1, hfq_2, hfq_3, hfq_4⟩ := blk_facts5 BK358.out; have HO365 := n1_; have HB := n2_; clear n0_ n1_ n2_; clear hg hw hp_))
      go_ret
      exact ⟨_, endA, RA HO365, belowA⟩
     ·rw [if_neg c8] at H
      exact absurd H (by simp)
    ·rw [if_neg c7] at H
     exact absurd H (by simp)
   ·rw [if_neg c6] at H
    have c6b0 : decide (0 ≤ t359) = false := decide_eq_false c6
    clear c6
    obtain rfl := Option.some.inj H
    go_enter Tryd.func66, Tryd.ntmps66
    go_wp2_with (first | ((with_reducible refine gate_dst (N := 3) rfl ?_); refine box_event ?hg (N := 3) ?hd (cs := #[.int .i64 a1_0, .int .i64 a1_1, .int .i64 a1_2, .int .i64 a1_3, .string a1_4]) (t := 24) ?hr ?_; (case hd => rfl); (case hg => rfl); (case hr => first | (go_simp; done) | (go_simp; rfl)); intro gb358 hg w18 hbox hb; have n0_ := Aside0.mk (below_step belowA hb); have n1_ := Aside0.mk (hbox); have n2_ := Aside0.mk ((by rw [hg]; exact (below_size belowA) : w.heap.size ≤ gb358)); have n3_ := Aside0.mk ((by rw [hg]; exact (below_size belowA) : w.heap.size ≤ gb358)); clear HB; have HB := n0_; have BK358 := n1_; obtain ⟨hcq_0, hcq_1, hcq_2, hcq_3, hcq_4, hfq_0, hfq_1, hfq_2, hfq_3, hfq_4⟩ := blk_facts5 BK358.out; have GW358 := n2_; have GE358 := n3_; clear n0_ n1_ n2_ n3_; clear hb hbox hg; obtain ⟨hcz19_0, hcz19_1, hcz19_2, hcz19_3, hcz19_4, hfz19_0, hfz19_1, hfz19_2, hfz19_3, hfz19_4⟩ := blk_facts5 BK358.out) | ((with_reducible refine gate_callee (f := 74) rfl ?_); refine goesL_ (some 16) rfl rfl Tryd.func74 (by kernel_rfl) rfl #[.slice A0 l0.length c0, .int .i64 a1_1] rfl argsA ?_; (with_reducible refine (spec_l2At.calls k _ _ l0 a1_1 t359 _ ?side1 ?side2 A3.out).mono ?_); (case side1 => exact CA (Kd.C_below HR0.out HB.out)); (case side2 => exact HC0.out); rintro e w' ⟨rfl, ⟨nd, rfl⟩⟩; refine ⟨_, rfl, ?_⟩) | ((with_reducible refine gate_dst (N := 20) rfl ?_); refine Kd.R_lit k105 _ 105 ?hg (N := 20) ?hd (xs := ([] : List (S105))) (inner := []) (ok := fun _ => True) (okp := fun _ => True) ?hr ?hp (fun _ hk => hk) trivial (Below.refl _ _) (Nat.le_refl _) (by simp) ?_; (case hd => rfl); (case hg => rfl); (case hr => first | (go_simp; done) | (go_simp; rfl)); (case hp => exact (Reps.none _ _)); intro v361 w20 ho21 hb hg_ hnew_; clear hg_ hnew_; (first | rw [← Ny360.out] at ho21 | (simp only [Int.reduceToNat] at ho21; rw [← Ny360.out] at ho21)); have n0_ := Aside0.mk (Kd.R_lower ho21 (below_size belowA)); have n1_ := Aside0.mk (blk_below (g := gb358) (o := .cells #[.int .i64 a1_0, .int .i64 a1_1, .int .i64 a1_2, .int .i64 a1_3, .string a1_4] 24 (0, 0)) blkA hb); have n2_ := Aside0.mk (below_step belowA hb); clear BK358; clear HB; have HO362 := n0_; have BK358 := n1_; obtain ⟨hcq_0, hcq_1, hcq_2, hcq_3, hcq_4, hfq_0, hfq_1, hfq_2, hfq_3, hfq_4⟩ := blk_facts5 BK358.out; have HB := n2_; clear n0_ n1_ n2_; clear hb ho21) | ((with_reducible refine gate_builtin (b := .append) (xs := #[.tmp 20, .tmp 21]) rfl ?_); at_builtin; refine Kd.R_append_rows k105 (w0 := w) w.heap.size rfl (.tmp 20) (.tmp 21) 91 105 (.agg #[(.int .i64 0), (.int .i64 0), (.string ⟨#[]⟩)]) 32 rfl Tryd.underlying91 info105 rfl (by decide) (by omega) v361 y360 l0 _ _ _ (fun _ => True) (fun _ => False) rfl rfl ?aO ?aR (fun _ _ h => h) (fun _ h => h.elim) ?aF ?aB ?aS ?aL ?_; (case aR => exact CA (Kd.C_below HR0.out HB.out)); (case aB => exact belowA); (case aF => exact (fun _ _ => trivial)); (case aO => exact (RA HO362)); (case aS => exact (below_size belowA)); (case aL => have := LMc5.out; omega); intro v364 w22 ho hb hg hat; rw [← Ny363.out] at ho; have n0_ := Aside0.mk (blk_grown (g := gb358) (o := .cells #[.int .i64 a1_0, .int .i64 a1_1, .int .i64 a1_2, .int .i64 a1_3, .string a1_4] 24 (0, 0)) blkA hg (Kd.R_ne HO362.out BK358.out (by decide))); have n1_ := Aside0.mk (hb); have n2_ := Aside0.mk (ho); clear BK358; clear HB; clear HO362; have BK358 := n0_; obtain ⟨hcq_0, hcq_1, hcq_2, hcq_3, hcq_4, hfq_0, hfq_1, hfq_2, hfq_3, hfq_4⟩ := blk_facts5 BK358.out; have HB := n1_; have HO365 := n2_; clear n0_ n1_ n2_; clear ho hb hg hat))
    go_ret
    exact ⟨_, endA, RA HO365, belowA⟩
  ·rw [if_neg c5] at H
   exact absurd H (by simp)
 ·rw [if_neg c4] at H
  have c4b0 : (a1_0 == 2) = false := beq_eq_false_iff_ne.mpr c4
  have c4b1 : (a1_0 != 2) = true := bne_iff_ne.mpr c4
  replace H := Option.bind_eq_some_iff.mp H
  obtain ⟨⟨t367, t368, t369⟩, A230, H⟩ := H
  (try dsimp only at H)
  have A23 := Aside0.mk A230
  clear A230
  by_cases c24 : t369 = true
  ·subst c24
   have H1 : (if a1_0 = 1 then ((spec_l3Put.f k l0 (([(⟨a1_1, 0, a1_4⟩ : S105)] : List (S105))) t367 t368).bind fun t379 => (some t379)) else ((spec_l2End.f k l0 t359).bind fun t382 => ((some (([] : List (S105)) : List (S105))).bind fun y383 => (if 0 ≤ t359 then (if t359 ≤ t382 then (if t382 ≤ (l0.length : Int) then ((some ((l0.take (t382 : Int).toNat).drop (t359 : Int).toNat : List (S105))).bind fun y386 => (if y383.length + y386.length < 4398046511104 then ((some (([] : List (S105)) : List (S105))).bind fun y393 => (if t359 ≤ (l0.length : Int) then ((some (l0.take (t359 : Int).toNat : List (S105))).bind fun y396 => (if y393.length + y396.length < 4398046511104 then ((some (y393 ++ y396 : List (S105))).bind fun y400 => (if 0 ≤ t382 then ((some (l0.drop (t382 : Int).toNat : List (S105))).bind fun y403 => (if y400.length + y403.length < 4398046511104 then ((spec_l3Put.f k (y400 ++ y403) (y383 ++ y386) t367 t368).bind fun t410 => (some t410)) else (none))) else (none))) else (none))) else (none))) else (none))) else (none)) else (none)) else (none))))) = some r := by rw [if_pos rfl] at H; exact H
   clear H
   have H := H1
   clear H1
   by_cases c25 : a1_0 = 1
   ·rw [if_pos c25] at H
    have c25b0 : (a1_0 == 1) = true := beq_iff_eq.mpr c25
    have c25b1 : (a1_0 != 1) = false := bne_eq_false_iff_eq.mpr c25
    clear c25
    obtain ⟨y376, hy376⟩ : ∃ y_ : List (S105), y_ = (([(⟨a1_1, 0, a1_4⟩ : S105)] : List (S105))) := ⟨_, rfl⟩
    replace H : ((spec_l3Put.f k l0 y376 t367 t368).bind fun t379 => (some t379)) = some r := by first | (rw [hy376]; with_reducible exact H) | (have H2_ := (Option.bind_some _ _).symm.trans H; rw [hy376]; with_reducible exact H2_) | (have H2_ := (Option.bind_some _ _).symm.trans H; with_reducible exact H2_) | with_reducible exact H | (rw [hy376]; exact H) | exact H
    have Ny376 := Aside0.mk hy376
    clear hy376
    replace H := Option.bind_eq_some_iff.mp H
    obtain ⟨t379, A260, H⟩ := H
    (try dsimp only at H)
    have A26 := Aside0.mk A260
    clear A260
    obtain rfl := Option.some.inj H
    go_enter Tryd.func66, Tryd.ntmps66
    go_wp2_with (first | ((with_reducible refine gate_dst (N := 3) rfl ?_); refine box_event ?hg (N := 3) ?hd (cs := #[.int .i64 a1_0, .int .i64 a1_1, .int .i64 a1_2, .int .i64 a1_3, .string a1_4]) (t := 24) ?hr ?_; (case hd => rfl); (case hg => rfl); (case hr => first | (go_simp; done) | (go_simp; rfl)); intro gb358 hg w27 hbox hb; have n0_ := Aside0.mk (below_step belowA hb); have n1_ := Aside0.mk (hbox); have n2_ := Aside0.mk ((by rw [hg]; exact (below_size belowA) : w.heap.size ≤ gb358)); have n3_ := Aside0.mk ((by rw [hg]; exact (below_size belowA) : w.heap.size ≤ gb358)); clear HB; have HB := n0_; have BK358 := n1_; obtain ⟨hcq_0, hcq_1, hcq_2, hcq_3, hcq_4, hfq_0, hfq_1, hfq_2, hfq_3, hfq_4⟩ := blk_facts5 BK358.out; have GW358 := n2_; have GE358 := n3_; clear n0_ n1_ n2_ n3_; clear hb hbox hg; obtain ⟨hcz28_0, hcz28_1, hcz28_2, hcz28_3, hcz28_4, hfz28_0, hfz28_1, hfz28_2, hfz28_3, hfz28_4⟩ := blk_facts5 BK358.out) | ((with_reducible refine gate_callee (f := 74) rfl ?_); refine goesL_ (some 16) rfl rfl Tryd.func74 (by kernel_rfl) rfl #[.slice A0 l0.length c0, .int .i64 a1_1] rfl argsA ?_; (with_reducible refine (spec_l2At.calls k _ _ l0 a1_1 t359 _ ?side1 ?side2 A3.out).mono ?_); (case side1 => exact CA (Kd.C_below HR0.out HB.out)); (case side2 => exact HC0.out); rintro e w' ⟨rfl, ⟨nd, rfl⟩⟩; refine ⟨_, rfl, ?_⟩) | ((with_reducible refine gate_callee (f := 75) rfl ?_); refine goesL_ (some 35) rfl rfl Tryd.func75 (by kernel_rfl) rfl #[.slice A0 l0.length c0, .agg #[.int .i64 a1_0, .int .i64 a1_1, .int .i64 a1_2, .int .i64 a1_3, .string a1_4]] rfl argsA ?_; (with_reducible refine (spec_l3Where.calls k _ _ l0 a1_0 a1_1 a1_2 a1_3 a1_4 t367 t368 true _ ?side1 ?side2 A23.out).mono ?_); (case side1 => exact CA (Kd.C_below HR0.out belowA)); (case side2 => exact HC0.out); rintro e w29 ⟨rfl, hb⟩; refine ⟨_, rfl, ?_⟩; have n0_ := Aside0.mk (blk_below (g := gb358) (o := .cells #[.int .i64 a1_0, .int .i64 a1_1, .int .i64 a1_2, .int .i64 a1_3, .string a1_4] 24 (0, 0)) blkA hb); have n1_ := Aside0.mk (below_step belowA hb); clear BK358; clear HB; have BK358 := n0_; obtain ⟨hcq_0, hcq_1, hcq_2, hcq_3, hcq_4, hfq_0, hfq_1, hfq_2, hfq_3, hfq_4⟩ := blk_facts5 BK358.out; have HB := n1_; clear n0_ n1_; (try clear hb); (try clear hb2); (try clear hk); (try clear hi); obtain ⟨hcz30_0, hcz30_1, hcz30_2, hcz30_3, hcz30_4, hfz30_0, hfz30_1, hfz30_2, hfz30_3, hfz30_4⟩ := blk_facts5 BK358.out) | ((with_reducible refine gate_dst (N := 53) rfl ?_); refine Kd.R_lit k105 _ 105 ?hg (N := 53) ?hd (xs := ([(⟨a1_1, 0, a1_4⟩ : S105)] : List (S105))) (inner := [.int .i64 a1_1, .int .i64 0, .string a1_4]) (ok := fun _ => True) (okp := fun _ => True) ?hr ?hp (fun _ hk => hk) trivial (Below.refl _ _) (Nat.le_refl _) (by simp) ?_; (case hd => rfl); (case hg => rfl); (case hr => first | (go_simp; done) | (go_simp; rfl)); (case hp => exact (Reps.c3 (show Kd.M k105 _ _ _ (⟨a1_1, 0, a1_4⟩ : S105) [.int .i64 a1_1, .int .i64 0, .string a1_4] from (k105_mkM _ _ _ (⟨a1_1, 0, a1_4⟩ : S105) )) (Reps.none _ _))); intro v377 w31 ho32 hb hg_ hnew_; clear hg_ hnew_; (first | rw [← Ny376.out] at ho32 | (simp only [Int.reduceToNat] at ho32; rw [← Ny376.out] at ho32)); have n0_ := Aside0.mk (Kd.R_lower ho32 (below_size belowA)); have n1_ := Aside0.mk (blk_below (g := gb358) (o := .cells #[.int .i64 a1_0, .int .i64 a1_1, .int .i64 a1_2, .int .i64 a1_3, .string a1_4] 24 (0, 0)) blkA hb); have n2_ := Aside0.mk (below_step belowA hb); clear BK358; clear HB; have HO378 := n0_; have BK358 := n1_; obtain ⟨hcq_0, hcq_1, hcq_2, hcq_3, hcq_4, hfq_0, hfq_1, hfq_2, hfq_3, hfq_4⟩ := blk_facts5 BK358.out; have HB := n2_; clear n0_ n1_ n2_; clear hb ho32; obtain ⟨Ao33, co33, eo33⟩ := Kd.R_slice HO378.out; subst eo33) | ((with_reducible refine gate_callee (f := 76) rfl ?_); refine goesL_ (some 56) rfl rfl Tryd.func76 (by kernel_rfl) rfl #[.slice A0 l0.length c0, .slice Ao33 y376.length co33, .int .i64 t367, .int .i64 t368] rfl argsA ?_; (with_reducible refine (spec_l3Put.calls k _ _ l0 _ _ y376 t367 t368 t379 _ ?side1 ?side2 ?side3 ?side4 A26.out).mono ?_); (case side1 => exact CA (Kd.C_below HR0.out HB.out)); (case side2 => exact HC0.out); (case side3 => repeat (first | exact (Kd.R_reads' HO378.out).2.2 | (with_reducible refine Kd.C_alloc ?_ _) | (with_reducible refine Kd.C_drewN ?_ _) | (with_reducible refine Kd.C_drew ?_))); (case side4 => exact (Kd.R_reads' HO378.out).2.1); rintro e w34 ⟨v380, rfl, ho0, hb⟩; refine ⟨_, rfl, ?_⟩; have n0_ := Aside0.mk (Kd.R_elder' (RA HO378) (Kd.R_base ho0) hb); have n1_ := Aside0.mk (Kd.R_lower (Kd.R_new' ho0 (Kd.R_lt (RA HO378))) (below_size belowA)); have n2_ := Aside0.mk (blk_below (g := gb358) (o := .cells #[.int .i64 a1_0, .int .i64 a1_1, .int .i64 a1_2, .int .i64 a1_3, .string a1_4] 24 (0, 0)) blkA hb); have n3_ := Aside0.mk (below_step belowA hb); clear HO378; clear BK358; clear HB; have HO378 := n0_; have HO381 := n1_; have BK358 := n2_; obtain ⟨hcq_0, hcq_1, hcq_2, hcq_3, hcq_4, hfq_0, hfq_1, hfq_2, hfq_3, hfq_4⟩ := blk_facts5 BK358.out; have HB := n3_; clear n0_ n1_ n2_ n3_; (try clear hb); (try clear hb2); (try clear hk); (try clear hi); (try clear ho0)))
    go_ret
    exact ⟨_, endA, by (with_reducible repeat (first | apply Kd.R_alloc | apply Kd.R_drewN | apply Kd.R_drew)); exact Kd.R_mono HO381.out (fun _ hk => trivial), belowA⟩
   ·rw [if_neg c25] at H
    have c25b0 : (a1_0 == 1) = false := beq_eq_false_iff_ne.mpr c25
    have c25b1 : (a1_0 != 1) = true := bne_iff_ne.mpr c25
    replace H := Option.bind_eq_some_iff.mp H
    obtain ⟨t382, A350, H⟩ := H
    (try dsimp only at H)
    have A35 := Aside0.mk A350
    clear A350
    obtain ⟨y383, hy383⟩ : ∃ y_ : List (S105), y_ = (([] : List (S105))) := ⟨_, rfl⟩
    replace H : (if 0 ≤ t359 then (if t359 ≤ t382 then (if t382 ≤ (l0.length : Int) then ((some ((l0.take (t382 : Int).toNat).drop (t359 : Int).toNat : List (S105))).bind fun y386 => (if y383.length + y386.length < 4398046511104 then ((some (([] : List (S105)) : List (S105))).bind fun y393 => (if t359 ≤ (l0.length : Int) then ((some (l0.take (t359 : Int).toNat : List (S105))).bind fun y396 => (if y393.length + y396.length < 4398046511104 then ((some (y393 ++ y396 : List (S105))).bind fun y400 => (if 0 ≤ t382 then ((some (l0.drop (t382 : Int).toNat : List (S105))).bind fun y403 => (if y400.length + y403.length < 4398046511104 then ((spec_l3Put.f k (y400 ++ y403) (y383 ++ y386) t367 t368).bind fun t410 => (some t410)) else (none))) else (none))) else (none))) else (none))) else (none))) else (none)) else (none)) else (none)) = some r := by first | (rw [hy383]; with_reducible exact H) | (have H2_ := (Option.bind_some _ _).symm.trans H; rw [hy383]; with_reducible exact H2_) | (have H2_ := (Option.bind_some _ _).symm.trans H; with_reducible exact H2_) | with_reducible exact H | (rw [hy383]; exact H) | exact H
    have Ny383 := Aside0.mk hy383
    clear hy383
    by_cases c36 : 0 ≤ t359
    ·rw [if_pos c36] at H
     have c36b0 := eq_true c36
     have c36b1 : decide (0 ≤ t359) = true := decide_eq_true c36
     clear c36
     by_cases c37 : t359 ≤ t382
     ·rw [if_pos c37] at H
      have c37b0 := eq_true c37
      have c37b1 : decide (t359 ≤ t382) = true := decide_eq_true c37
      clear c37
      by_cases c38 : t382 ≤ (l0.length : Int)
      ·rw [if_pos c38] at H
       have c38b0 := eq_true c38
       have c38b1 : decide (t382 ≤ (l0.length : Int)) = true := decide_eq_true c38
       clear c38
       obtain ⟨y386, hy386⟩ : ∃ y_ : List (S105), y_ = ((l0.take (t382 : Int).toNat).drop (t359 : Int).toNat) := ⟨_, rfl⟩
       replace H : (if y383.length + y386.length < 4398046511104 then ((some (([] : List (S105)) : List (S105))).bind fun y393 => (if t359 ≤ (l0.length : Int) then ((some (l0.take (t359 : Int).toNat : List (S105))).bind fun y396 => (if y393.length + y396.length < 4398046511104 then ((some (y393 ++ y396 : List (S105))).bind fun y400 => (if 0 ≤ t382 then ((some (l0.drop (t382 : Int).toNat : List (S105))).bind fun y403 => (if y400.length + y403.length < 4398046511104 then ((spec_l3Put.f k (y400 ++ y403) (y383 ++ y386) t367 t368).bind fun t410 => (some t410)) else (none))) else (none))) else (none))) else (none))) else (none)) = some r := by first | (rw [hy386]; with_reducible exact H) | (have H2_ := (Option.bind_some _ _).symm.trans H; rw [hy386]; with_reducible exact H2_) | (have H2_ := (Option.bind_some _ _).symm.trans H; with_reducible exact H2_) | with_reducible exact H | (rw [hy386]; exact H) | exact H
       have Ny386 := Aside0.mk hy386
       clear hy386
       by_cases c39 : y383.length + y386.length < 4398046511104
       ·rw [if_pos c39] at H
        have LMc39 := Aside0.mk c39
        clear c39
        obtain ⟨y390, hy390⟩ : ∃ y_ : List (S105), y_ = (y383 ++ y386) := ⟨_, rfl⟩
        replace H : ((some (([] : List (S105)) : List (S105))).bind fun y393 => (if t359 ≤ (l0.length : Int) then ((some (l0.take (t359 : Int).toNat : List (S105))).bind fun y396 => (if y393.length + y396.length < 4398046511104 then ((some (y393 ++ y396 : List (S105))).bind fun y400 => (if 0 ≤ t382 then ((some (l0.drop (t382 : Int).toNat : List (S105))).bind fun y403 => (if y400.length + y403.length < 4398046511104 then ((spec_l3Put.f k (y400 ++ y403) y390 t367 t368).bind fun t410 => (some t410)) else (none))) else (none))) else (none))) else (none))) = some r := by first | (rw [hy390]; with_reducible exact H) | (have H2_ := (Option.bind_some _ _).symm.trans H; rw [hy390]; with_reducible exact H2_) | (have H2_ := (Option.bind_some _ _).symm.trans H; with_reducible exact H2_) | with_reducible exact H | (rw [hy390]; exact H) | exact H
        have Ny390 := Aside0.mk hy390
        clear hy390
        obtain ⟨y393, hy393⟩ : ∃ y_ : List (S105), y_ = (([] : List (S105))) := ⟨_, rfl⟩
        replace H : (if t359 ≤ (l0.length : Int) then ((some (l0.take (t359 : Int).toNat : List (S105))).bind fun y396 => (if y393.length + y396.length < 4398046511104 then ((some (y393 ++ y396 : List (S105))).bind fun y400 => (if 0 ≤ t382 then ((some (l0.drop (t382 : Int).toNat : List (S105))).bind fun y403 => (if y400.length + y403.length < 4398046511104 then ((spec_l3Put.f k (y400 ++ y403) y390 t367 t368).bind fun t410 => (some t410)) else (none))) else (none))) else (none))) else (none)) = some r := by first | (rw [hy393]; with_reducible exact H) | (have H2_ := (Option.bind_some _ _).symm.trans H; rw [hy393]; with_reducible exact H2_) | (have H2_ := (Option.bind_some _ _).symm.trans H; with_reducible exact H2_) | with_reducible exact H | (rw [hy393]; exact H) | exact H
        have Ny393 := Aside0.mk hy393
        clear hy393
        have c40b0 := eq_true (of_decide_eq_true (by first | (with_reducible assumption) | assumption) : 0 ≤ t359)
        by_cases c41 : t359 ≤ (l0.length : Int)
        ·rw [if_pos c41] at H
         have c41b0 := eq_true c41
         have c41b1 : decide (t359 ≤ (l0.length : Int)) = true := decide_eq_true c41
         clear c41
         obtain ⟨y396, hy396⟩ : ∃ y_ : List (S105), y_ = (l0.take (t359 : Int).toNat) := ⟨_, rfl⟩
         replace H : (if y393.length + y396.length < 4398046511104 then ((some (y393 ++ y396 : List (S105))).bind fun y400 => (if 0 ≤ t382 then ((some (l0.drop (t382 : Int).toNat : List (S105))).bind fun y403 => (if y400.length + y403.length < 4398046511104 then ((spec_l3Put.f k (y400 ++ y403) y390 t367 t368).bind fun t410 => (some t410)) else (none))) else (none))) else (none)) = some r := by first | (rw [hy396]; with_reducible exact H) | (have H2_ := (Option.bind_some _ _).symm.trans H; rw [hy396]; with_reducible exact H2_) | (have H2_ := (Option.bind_some _ _).symm.trans H; with_reducible exact H2_) | with_reducible exact H | (rw [hy396]; exact H) | exact H
         have Ny396 := Aside0.mk hy396
         clear hy396
         by_cases c42 : y393.length + y396.length < 4398046511104
         ·rw [if_pos c42] at H
          have LMc42 := Aside0.mk c42
          clear c42
          obtain ⟨y400, hy400⟩ : ∃ y_ : List (S105), y_ = (y393 ++ y396) := ⟨_, rfl⟩
          replace H : (if 0 ≤ t382 then ((some (l0.drop (t382 : Int).toNat : List (S105))).bind fun y403 => (if y400.length + y403.length < 4398046511104 then ((spec_l3Put.f k (y400 ++ y403) y390 t367 t368).bind fun t410 => (some t410)) else (none))) else (none)) = some r := by first | (rw [hy400]; with_reducible exact H) | (have H2_ := (Option.bind_some _ _).symm.trans H; rw [hy400]; with_reducible exact H2_) | (have H2_ := (Option.bind_some _ _).symm.trans H; with_reducible exact H2_) | with_reducible exact H | (rw [hy400]; exact H) | exact H
          have Ny400 := Aside0.mk hy400
          clear hy400
          by_cases c43 : 0 ≤ t382
          ·rw [if_pos c43] at H
           have c43b0 := eq_true c43
           have c43b1 : decide (0 ≤ t382) = true := decide_eq_true c43
           clear c43
           have c44b0 := eq_true (of_decide_eq_true (by first | (with_reducible assumption) | assumption) : t382 ≤ (l0.length : Int))
           obtain ⟨y403, hy403⟩ : ∃ y_ : List (S105), y_ = (l0.drop (t382 : Int).toNat) := ⟨_, rfl⟩
           replace H : (if y400.length + y403.length < 4398046511104 then ((spec_l3Put.f k (y400 ++ y403) y390 t367 t368).bind fun t410 => (some t410)) else (none)) = some r := by first | (rw [hy403]; with_reducible exact H) | (have H2_ := (Option.bind_some _ _).symm.trans H; rw [hy403]; with_reducible exact H2_) | (have H2_ := (Option.bind_some _ _).symm.trans H; with_reducible exact H2_) | with_reducible exact H | (rw [hy403]; exact H) | exact H
           have Ny403 := Aside0.mk hy403
           clear hy403
           by_cases c45 : y400.length + y403.length < 4398046511104
           ·rw [if_pos c45] at H
            have LMc45 := Aside0.mk c45
            clear c45
            obtain ⟨y407, hy407⟩ : ∃ y_ : List (S105), y_ = (y400 ++ y403) := ⟨_, rfl⟩
            replace H : ((spec_l3Put.f k y407 y390 t367 t368).bind fun t410 => (some t410)) = some r := by first | (rw [hy407]; with_reducible exact H) | (have H2_ := (Option.bind_some _ _).symm.trans H; rw [hy407]; with_reducible exact H2_) | (have H2_ := (Option.bind_some _ _).symm.trans H; with_reducible exact H2_) | with_reducible exact H | (rw [hy407]; exact H) | exact H
            have Ny407 := Aside0.mk hy407
            clear hy407
            replace H := Option.bind_eq_some_iff.mp H
            obtain ⟨t410, A460, H⟩ := H
            (try dsimp only at H)
            have A46 := Aside0.mk A460
            clear A460
            obtain rfl := Option.some.inj H
            go_enter Tryd.func66, Tryd.ntmps66
            try go_wp2_with (first | ((with_reducible refine gate_dst (N := 3) rfl ?_); refine box_event ?hg (N := 3) ?hd (cs := #[.int .i64 a1_0, .int .i64 a1_1, .int .i64 a1_2, .int .i64 a1_3, .string a1_4]) (t := 24) ?hr ?_; (case hd => rfl); (case hg => rfl); (case hr => first | (go_simp; done) | (go_simp; rfl)); intro gb358 hg w47 hbox hb; have n0_ := Aside0.mk (below_step belowA hb); have n1_ := Aside0.mk (hbox); have n2_ := Aside0.mk ((by rw [hg]; exact (below_size belowA) : w.heap.size ≤ gb358)); have n3_ := Aside0.mk ((by rw [hg]; exact (below_size belowA) : w.heap.size ≤ gb358)); clear HB; have HB := n0_; have BK358 := n1_; obtain ⟨hcq_0, hcq_1, hcq_2, hcq_3, hcq_4, hfq_0, hfq_1, hfq_2, hfq_3, hfq_4⟩ := blk_facts5 BK358.out; have GW358 := n2_; have GE358 := n3_; clear n0_ n1_ n2_ n3_; clear hb hbox hg; obtain ⟨hcz48_0, hcz48_1, hcz48_2, hcz48_3, hcz48_4, hfz48_0, hfz48_1, hfz48_2, hfz48_3, hfz48_4⟩ := blk_facts5 BK358.out) | ((with_reducible refine gate_callee (f := 74) rfl ?_); refine goesL_ (some 16) rfl rfl Tryd.func74 (by kernel_rfl) rfl #[.slice A0 l0.length c0, .int .i64 a1_1] rfl argsA ?_; (with_reducible refine (spec_l2At.calls k _ _ l0 a1_1 t359 _ ?side1 ?side2 A3.out).mono ?_); (case side1 => exact CA (Kd.C_below HR0.out HB.out)); (case side2 => exact HC0.out); rintro e w' ⟨rfl, ⟨nd, rfl⟩⟩; refine ⟨_, rfl, ?_⟩) | ((with_reducible refine gate_callee (f := 75) rfl ?_); refine goesL_ (some 35) rfl rfl Tryd.func75 (by kernel_rfl) rfl #[.slice A0 l0.length c0, .agg #[.int .i64 a1_0, .int .i64 a1_1, .int .i64 a1_2, .int .i64 a1_3, .string a1_4]] rfl argsA ?_; (with_reducible refine (spec_l3Where.calls k _ _ l0 a1_0 a1_1 a1_2 a1_3 a1_4 t367 t368 true _ ?side1 ?side2 A23.out).mono ?_); (case side1 => exact CA (Kd.C_below HR0.out belowA)); (case side2 => exact HC0.out); rintro e w49 ⟨rfl, hb⟩; refine ⟨_, rfl, ?_⟩; have n0_ := Aside0.mk (blk_below (g := gb358) (o := .cells #[.int .i64 a1_0, .int .i64 a1_1, .int .i64 a1_2, .int .i64 a1_3, .string a1_4] 24 (0, 0)) blkA hb); have n1_ := Aside0.mk (below_step belowA hb); clear BK358; clear HB; have BK358 := n0_; obtain ⟨hcq_0, hcq_1, hcq_2, hcq_3, hcq_4, hfq_0, hfq_1, hfq_2, hfq_3, hfq_4⟩ := blk_facts5 BK358.out; have HB := n1_; clear n0_ n1_; (try clear hb); (try clear hb2); (try clear hk); (try clear hi); obtain ⟨hcz50_0, hcz50_1, hcz50_2, hcz50_3, hcz50_4, hfz50_0, hfz50_1, hfz50_2, hfz50_3, hfz50_4⟩ := blk_facts5 BK358.out) | ((with_reducible refine gate_callee (f := 77) rfl ?_); refine goesL_ (some 59) rfl rfl Tryd.func77 (by kernel_rfl) rfl #[.slice A0 l0.length c0, .int .i64 t359] rfl argsA ?_; (with_reducible refine (spec_l2End.calls k _ _ l0 t359 t382 _ ?side1 ?side2 A35.out).mono ?_); (case side1 => exact CA (Kd.C_below HR0.out HB.out)); (case side2 => exact HC0.out); rintro e w' ⟨rfl, ⟨nd, rfl⟩⟩; refine ⟨_, rfl, ?_⟩) | ((with_reducible refine gate_dst (N := 60) rfl ?_); refine Kd.R_lit k105 _ 105 ?hg (N := 60) ?hd (xs := ([] : List (S105))) (inner := []) (ok := fun _ => True) (okp := fun _ => True) ?hr ?hp (fun _ hk => hk) trivial (Below.refl _ _) (Nat.le_refl _) (by simp) ?_; (case hd => rfl); (case hg => rfl); (case hr => first | (go_simp; done) | (go_simp; rfl)); (case hp => exact (Reps.none _ _)); intro v384 w51 ho52 hb hg_ hnew_; clear hg_ hnew_; (first | rw [← Ny383.out] at ho52 | (simp only [Int.reduceToNat] at ho52; rw [← Ny383.out] at ho52)); have n0_ := Aside0.mk (Kd.R_lower ho52 (below_size belowA)); have n1_ := Aside0.mk (blk_below (g := gb358) (o := .cells #[.int .i64 a1_0, .int .i64 a1_1, .int .i64 a1_2, .int .i64 a1_3, .string a1_4] 24 (0, 0)) blkA hb); have n2_ := Aside0.mk (below_step belowA hb); clear BK358; clear HB; have HO385 := n0_; have BK358 := n1_; obtain ⟨hcq_0, hcq_1, hcq_2, hcq_3, hcq_4, hfq_0, hfq_1, hfq_2, hfq_3, hfq_4⟩ := blk_facts5 BK358.out; have HB := n2_; clear n0_ n1_ n2_; clear hb ho52; have q53 : (t382 : Int) ≤ ((l0.length : Int) : Int) := of_decide_eq_true (by first | (with_reducible assumption) | assumption); obtain ⟨i053, hi053, _, hsz53, _⟩ := info_parts info105; have hroom53 : l0.length ≤ c0 := HC0.out; have hC53 : Kd.C k105 _ A0 l0.length l0 := HR0.out; have ql53 : (t359 : Int) ≤ (t382 : Int) := of_decide_eq_true (by first | (with_reducible assumption) | assumption); have q053 : (0 : Int) ≤ (t359 : Int) := of_decide_eq_true (by first | (with_reducible assumption) | assumption); have hcut53 := cut_mid (P := Tryd.prog) 91 105 .i64 .i64 Tryd.underlying91 hi053 3 hsz53 A0 l0.length c0 t359 t382 q053 ql53 q53 hroom53; have hr53 := Kd.C_mid (lo := (t359 : Int).toNat) (hi := (t382 : Int).toNat) (c := c0) hC53 (by omega) (by omega) hroom53; obtain ⟨A53, hA53⟩ : ∃ A1, A1 = (if c0 = (t359 : Int).toNat then A0 else (A0 : Option Addr).map (·.add ((t359 : Int).toNat * 3))) := ⟨_, rfl⟩; obtain ⟨c53, hc53⟩ : ∃ c1, c1 = c0 - (t359 : Int).toNat := ⟨_, rfl⟩; have hy53 : y386.length = (t382 : Int).toNat - (t359 : Int).toNat := (by rw [Ny386.out, List.length_drop, List.length_take] <;> omega); rw [show ((l0).take (t382 : Int).toNat).drop (t359 : Int).toNat = y386 from Ny386.out.symm] at hr53; replace hr53 : Kd.C k105 _ A53 y386.length y386 := (by rw [hA53]; exact hr53); rw [← hy53, ← hA53, ← hc53] at hcut53; have HR389 := Aside0.mk hr53; have HC389 := Aside0.mk (show y386.length ≤ c53 from by rw [hy53, hc53]; exact Nat.sub_le_sub_right (Nat.le_trans (by omega) hroom53) _); clear hr53 hC53 hroom53 hi053 hsz53 hc53; have KY53 := Aside0.mk hy53; have KA53 := Aside0.mk hA53; clear hy53 hA53; replace q53 := eq_true q53) | ((with_reducible refine gate_builtin (b := .append) (xs := #[.tmp 60, .tmp 64]) rfl ?_); at_builtin; refine Kd.R_append_rows k105 (w0 := w) w.heap.size rfl (.tmp 60) (.tmp 64) 91 105 (.agg #[(.int .i64 0), (.int .i64 0), (.string ⟨#[]⟩)]) 32 rfl Tryd.underlying91 info105 rfl (by decide) (by omega) v384 y383 y386 _ _ _ (fun _ => True) (fun _ => False) rfl rfl ?aO ?aR (fun _ _ h => h) (fun _ h => h.elim) ?aF ?aB ?aS ?aL ?_; (case aR => exact CA (Kd.C_below HR389.out HB.out)); (case aB => exact belowA); (case aF => exact (fun _ _ => trivial)); (case aO => exact (RA HO385)); (case aS => exact (below_size belowA)); (case aL => have := LMc39.out; omega); intro v391 w54 ho hb hg hat; rw [← Ny390.out] at ho; have n0_ := Aside0.mk (blk_grown (g := gb358) (o := .cells #[.int .i64 a1_0, .int .i64 a1_1, .int .i64 a1_2, .int .i64 a1_3, .string a1_4] 24 (0, 0)) blkA hg (Kd.R_ne HO385.out BK358.out (by decide))); have n1_ := Aside0.mk (hb); have n2_ := Aside0.mk (ho); clear BK358; clear HB; clear HO385; have BK358 := n0_; obtain ⟨hcq_0, hcq_1, hcq_2, hcq_3, hcq_4, hfq_0, hfq_1, hfq_2, hfq_3, hfq_4⟩ := blk_facts5 BK358.out; have HB := n1_; have HO392 := n2_; clear n0_ n1_ n2_; clear ho hb hg hat))
            have n0_ := Aside0.mk (Kd.R_drew HO392.out)
            have n1_ := Aside0.mk (blk_drew BK358.out)
            have n2_ := Aside0.mk (below_drew1 HB.out)
            clear HO392
            clear BK358
            clear HB
            have HO392 := n0_
            have BK358 := n1_
            have HB := n2_
            clear n0_ n1_ n2_
            have q56 : (t359 : Int) ≤ ((l0.length : Int) : Int) := of_decide_eq_true (by first | (with_reducible assumption) | assumption)
            obtain ⟨i056, hi056, _, hsz56, _⟩ := info_parts info105
            have hroom56 : l0.length ≤ c0 := HC0.out
            have hC56 : Kd.C k105 _ A0 l0.length l0 := HR0.out
            have hcut56 := cut_to (P := Tryd.prog) 91 105 .i64 Tryd.underlying91 hi056 A0 l0.length c0 t359 (of_decide_eq_true (by first | (with_reducible assumption) | assumption)) q56 hroom56
            have hr56 := Kd.C_take (m := (t359 : Int).toNat) hC56 (by omega)
            have hy56 : y396.length = (t359 : Int).toNat := (by rw [Ny396.out, List.length_take]; omega)
            rw [← Ny396.out] at hr56
            rw [← hy56] at hcut56
            have HR399 := Aside0.mk hr56
            have HC399 := Aside0.mk (show y396.length ≤ c0 from by omega)
            clear hr56 hC56 hroom56 hi056 hsz56
            have KY56 := Aside0.mk hy56
            clear hy56
            replace q56 := eq_true q56
            have q57 : (t382 : Int) ≤ ((l0.length : Int) : Int) := of_decide_eq_true (by first | (with_reducible assumption) | assumption)
            obtain ⟨i057, hi057, _, hsz57, _⟩ := info_parts info105
            have hroom57 : l0.length ≤ c0 := HC0.out
            have hC57 : Kd.C k105 _ A0 l0.length l0 := HR0.out
            have q057 : (0 : Int) ≤ (t382 : Int) := of_decide_eq_true (by first | (with_reducible assumption) | assumption)
            have hcut57 := cut_from (P := Tryd.prog) 91 105 .i64 Tryd.underlying91 hi057 3 hsz57 A0 l0.length c0 t382 q057 q57
            have hr57 := Kd.C_drop (m := (t382 : Int).toNat) (c := c0) hC57 (by omega) hroom57
            obtain ⟨A57, hA57⟩ : ∃ A1, A1 = (if c0 = (t382 : Int).toNat then A0 else (A0 : Option Addr).map (·.add ((t382 : Int).toNat * 3))) := ⟨_, rfl⟩
            obtain ⟨c57, hc57⟩ : ∃ c1, c1 = c0 - (t382 : Int).toNat := ⟨_, rfl⟩
            have hy57 : y403.length = l0.length - (t382 : Int).toNat := (by rw [Ny403.out, List.length_drop] <;> omega)
            rw [show (l0).drop (t382 : Int).toNat = y403 from Ny403.out.symm] at hr57
            replace hr57 : Kd.C k105 _ A57 y403.length y403 := (by rw [hA57]; exact hr57)
            rw [← hy57, ← hA57, ← hc57] at hcut57
            have HR406 := Aside0.mk hr57
            have HC406 := Aside0.mk (show y403.length ≤ c57 from by rw [hy57, hc57]; exact Nat.sub_le_sub_right hroom57 _)
            clear hr57 hC57 hroom57 hi057 hsz57 hc57
            have KY57 := Aside0.mk hy57
            have KA57 := Aside0.mk hA57
            clear hy57 hA57
            replace q57 := eq_true q57
            refine start_ (n := 10) (S := fun w' => True) (ds := []) (tf 0 10) (by kernel_rfl) rfl rfl trivial (fun hHeld => ?_); refine with_tabW spec_l3Do.tab14 spec_l3Do.bits14 (fun HT_ HW_ => ?_)
            generalize w54.drew = w55 at HO392 BK358 HB HR399 HR406 hHeld ⊢
            refine pure_ (i := 1) (N := some 67) #[false, true, false, false, false, false, false, false, false, false] rfl rfl (anA HT_) (fun _ _ _ h => h) yldA putA ?_
            refine pure_ (i := 2) (N := some 68) #[false, true, true, false, false, false, false, false, false, false] rfl rfl (anA HT_) (fun _ _ _ h => h) yldA putA ?_
            refine pure_ (i := 3) (N := some 69) #[false, true, true, true, false, false, false, false, false, false] rfl rfl (anA HT_) (fun _ _ _ h => h) yldA putA ?_
            refine pure_ (i := 5) (N := some 71) #[false, true, true, true, false, true, false, false, false, false] rfl rfl (anA HT_) (fun _ _ _ h => h) yldA putA ?_
            refine pure_ (i := 6) (N := some 72) #[false, true, true, true, false, true, true, false, false, false] rfl rfl (anA HT_) (fun _ _ _ h => h) yldA putA ?_
            refine pure_ (i := 7) (N := some 73) #[false, true, true, true, false, true, true, true, false, false] rfl rfl (anA HT_) (fun _ _ _ h => h) yldA putA ?_
            refine one_ (i := 0) (N := some 66) #[true, true, true, true, false, true, true, true, false, false] rfl rfl (one_of HT_.out (by kernel_rfl)) (by decide) (fun K hK => ?_)
            refine Kd.R_lit_step k105 _ 105 ?hg (N := 66) ?hd (xs := ([] : List (S105))) (inner := []) (ok := fun _ => True) (okp := fun _ => True) ?hr ?hp (fun _ hk => hk) trivial (Below.refl _ _) (Nat.le_refl _) (by simp) ?_; (case hd => rfl); (case hg => rfl); (case hr => first | (go_simp; done) | (go_simp; rfl)); (case hp => exact (Reps.none _ _))
            intro v394 w58 ho59 hb hg_ hnew_
            clear hg_ hnew_
            (first | rw [← Ny393.out] at ho59 | (simp only [Int.reduceToNat] at ho59; rw [← Ny393.out] at ho59))
            have n0_ := Aside0.mk (Kd.R_elder' (RA HO392) (Kd.R_base ho59) hb)
            have n1_ := Aside0.mk (Kd.R_lower (Kd.R_new' ho59 (Kd.R_lt (RA HO392))) (below_size belowA))
            have n2_ := Aside0.mk (blk_below (g := gb358) (o := .cells #[.int .i64 a1_0, .int .i64 a1_1, .int .i64 a1_2, .int .i64 a1_3, .string a1_4] 24 (0, 0)) blkA hb)
            have n3_ := Aside0.mk (below_step belowA hb)
            clear HO392
            clear BK358
            clear HB
            have HO392 := n0_
            have HO395 := n1_
            have BK358 := n2_
            have HB := n3_
            clear n0_ n1_ n2_ n3_
            clear hb ho59
            refine hK.out _ _ trivial (fun hHeld => ?_)
            clear hK K
            refine norm_ (a' := ?_) ?_ ?_
            rotate_left
            ·show Act.put _ (some 66) _ = _
             simp only [Act.put, List.setIfInBounds_toArray, List.set_cons_zero, List.set_cons_succ, i64_w, i32_w]
             rfl
            refine one_ (i := 4) (N := some 70) (tf 8 2) rfl rfl (one_of HT_.out (by kernel_rfl)) (by decide) (fun K hK => ?_)
            refine Kd.R_append_rows_step k105 (w0 := w) w.heap.size (by rfl) (.tmp 66) (.tmp 69) 91 105 (.agg #[(.int .i64 0), (.int .i64 0), (.string ⟨#[]⟩)]) 32 rfl Tryd.underlying91 info105 rfl (by decide) (by omega) v394 y393 y396 _ _ _ (fun k_ => some k_ ≠ (v391 : Value).ownBlock) (fun _ => False) rfl rfl ?aO ?aR (fun _ _ h => h) (fun _ h => h.elim) ?aF ?aB ?aS ?aL ?_
            (case aR => exact CA (Kd.C_below HR399.out HB.out))
            (case aB => exact belowA)
            (case aF => exact (fun k_ hk => Kd.fresh' (Kd.R_lt (RA HO392)) k_ hk))
            (case aO => exact (by (with_reducible repeat (first | apply Kd.R_alloc | apply Kd.R_drewN | apply Kd.R_drew)); exact Kd.R_mono HO395.out (fun _ hk => hk.2)))
            (case aS => exact (below_size belowA))
            (case aL => have := LMc42.out; omega)
            intro v401 w60 ho hb hg hat
            rw [← Ny400.out] at ho
            have n0_ := Aside0.mk (blk_grown (g := gb358) (o := .cells #[.int .i64 a1_0, .int .i64 a1_1, .int .i64 a1_2, .int .i64 a1_3, .string a1_4] 24 (0, 0)) blkA hg (Kd.R_ne HO395.out BK358.out (by decide)))
            have n1_ := Aside0.mk (Kd.R_after (ok := (fun _ => True)) (RA HO392) hg hat)
            have n2_ := Aside0.mk (hb)
            have n3_ := Aside0.mk (ho)
            clear BK358
            clear HO392
            clear HB
            clear HO395
            have BK358 := n0_
            have HO392 := n1_
            have HB := n2_
            have HO402 := n3_
            clear n0_ n1_ n2_ n3_
            clear ho hb hg hat
            refine hK.out _ _ trivial (fun hHeld => ?_)
            clear hK K
            refine norm_ (a' := ?_) ?_ ?_
            rotate_left
            ·show Act.put _ (some 70) _ = _
             simp only [Act.put, List.setIfInBounds_toArray, List.set_cons_zero, List.set_cons_succ, i64_w, i32_w]
             rfl
            refine one_ (i := 8) (N := some 74) (tf 9 1) rfl rfl (one_of HT_.out (by kernel_rfl)) (by decide) (fun K hK => ?_)
            refine Kd.R_append_rows_step k105 (w0 := w) w.heap.size (by rfl) (.tmp 70) (.tmp 73) 91 105 (.agg #[(.int .i64 0), (.int .i64 0), (.string ⟨#[]⟩)]) 32 rfl Tryd.underlying91 info105 rfl (by decide) (by omega) v401 y400 y403 _ _ _ (fun k_ => some k_ ≠ (v391 : Value).ownBlock) (fun _ => False) rfl rfl ?aO ?aR (fun _ _ h => h) (fun _ h => h.elim) ?aF ?aB ?aS ?aL ?_
            (case aR => exact CA (Kd.C_below HR406.out HB.out))
            (case aB => exact belowA)
            (case aF => exact (fun k_ hk => Kd.fresh' (Kd.R_lt (RA HO392)) k_ hk))
            (case aO => exact (RA HO402))
            (case aS => exact (below_size belowA))
            (case aL => have := LMc45.out; omega)
            intro v408 w61 ho hb hg hat
            rw [← Ny407.out] at ho
            have n0_ := Aside0.mk (blk_grown (g := gb358) (o := .cells #[.int .i64 a1_0, .int .i64 a1_1, .int .i64 a1_2, .int .i64 a1_3, .string a1_4] 24 (0, 0)) blkA hg (Kd.R_ne HO402.out BK358.out (by decide)))
            have n1_ := Aside0.mk (Kd.R_after (ok := (fun _ => True)) (RA HO392) hg hat)
            have n2_ := Aside0.mk (hb)
            have n3_ := Aside0.mk (ho)
            clear BK358
            clear HO392
            clear HB
            clear HO402
            have BK358 := n0_
            have HO392 := n1_
            have HB := n2_
            have HO409 := n3_
            clear n0_ n1_ n2_ n3_
            clear ho hb hg hat
            refine hK.out _ _ trivial (fun hHeld => ?_)
            clear hK K
            refine norm_ (a' := ?_) ?_ ?_
            rotate_left
            ·show Act.put _ (some 74) _ = _
             simp only [Act.put, List.setIfInBounds_toArray, List.set_cons_zero, List.set_cons_succ, i64_w, i32_w]
             rfl
            refine pure_ (i := 9) (N := some 12) (tf 10 0) rfl rfl (anA HT_) (fun _ _ _ h => h) yldA putA ?_
            refine done_ (done_of HT_.out (by kernel_rfl)) ?_
            obtain ⟨Ao62, co62, eo62⟩ := Kd.R_slice HO409.out
            subst eo62
            obtain ⟨Ao63, co63, eo63⟩ := Kd.R_slice HO392.out
            subst eo63
            try go_wp2_with (first | ((with_reducible refine gate_callee (f := 76) rfl ?_); refine goesL_ (some 79) rfl rfl Tryd.func76 (by kernel_rfl) rfl #[.slice Ao62 y407.length co62, .slice Ao63 y390.length co63, .int .i64 t367, .int .i64 t368] rfl argsA ?_; (with_reducible refine (spec_l3Put.calls k _ _ y407 _ _ y390 t367 t368 t410 _ ?side1 ?side2 ?side3 ?side4 A46.out).mono ?_); (case side1 => repeat (first | exact (Kd.R_reads' HO409.out).2.2 | (with_reducible refine Kd.C_alloc ?_ _) | (with_reducible refine Kd.C_drewN ?_ _) | (with_reducible refine Kd.C_drew ?_))); (case side2 => exact (Kd.R_reads' HO409.out).2.1); (case side3 => repeat (first | exact (Kd.R_reads' HO392.out).2.2 | (with_reducible refine Kd.C_alloc ?_ _) | (with_reducible refine Kd.C_drewN ?_ _) | (with_reducible refine Kd.C_drew ?_))); (case side4 => exact (Kd.R_reads' HO392.out).2.1); rintro e w64 ⟨v411, rfl, ho0, hb⟩; refine ⟨_, rfl, ?_⟩; have n0_ := Aside0.mk (Kd.R_elder' (RA HO392) (Kd.R_base ho0) hb); have n1_ := Aside0.mk (Kd.R_elder' (RA HO409) (Kd.R_base ho0) hb); have n2_ := Aside0.mk (Kd.R_lower (Kd.R_new' (Kd.R_new' ho0 (Kd.R_lt (RA HO392))) (Kd.R_lt (RA HO409))) (below_size belowA)); have n3_ := Aside0.mk (blk_below (g := gb358) (o := .cells #[.int .i64 a1_0, .int .i64 a1_1, .int .i64 a1_2, .int .i64 a1_3, .string a1_4] 24 (0, 0)) blkA hb); have n4_ := Aside0.mk (below_step belowA hb); clear HO392; clear HO409; clear BK358; clear HB; have HO392 := n0_; have HO409 := n1_; have HO412 := n2_; have BK358 := n3_; obtain ⟨hcq_0, hcq_1, hcq_2, hcq_3, hcq_4, hfq_0, hfq_1, hfq_2, hfq_3, hfq_4⟩ := blk_facts5 BK358.out; have HB := n4_; clear n0_ n1_ n2_ n3_ n4_; (try clear hb); (try clear hb2); (try clear hk); (try clear hi); (try clear ho0)))
            go_ret
            exact ⟨_, endA, by (with_reducible repeat (first | apply Kd.R_alloc | apply Kd.R_drewN | apply Kd.R_drew)); exact Kd.R_mono HO412.out (fun _ hk => trivial), belowA⟩
           ·rw [if_neg c45] at H
            exact absurd H (by simp)
          ·rw [if_neg c43] at H
           exact absurd H (by simp)
         ·rw [if_neg c42] at H
          exact absurd H (by simp)
        ·rw [if_neg c41] at H
         exact absurd H (by simp)
       ·rw [if_neg c39] at H
        exact absurd H (by simp)
      ·rw [if_neg c38] at H
       exact absurd H (by simp)
     ·rw [if_neg c37] at H
      exact absurd H (by simp)
    ·rw [if_neg c36] at H
     exact absurd H (by simp)
  ·replace c24 := Bool.eq_false_iff.mpr c24
   subst c24
   have H1 : ((some (([] : List (S105)) : List (S105))).bind fun y370 => (if y370.length + l0.length < 4398046511104 then (some (y370 ++ l0)) else (none))) = some r := by rw [if_neg (show ¬ (false = true) by decide)] at H; exact H
   clear H
   have H := H1
   clear H1
   obtain ⟨y370, hy370⟩ : ∃ y_ : List (S105), y_ = (([] : List (S105))) := ⟨_, rfl⟩
   replace H : (if y370.length + l0.length < 4398046511104 then (some (y370 ++ l0)) else (none)) = some r := by first | (rw [hy370]; with_reducible exact H) | (have H2_ := (Option.bind_some _ _).symm.trans H; rw [hy370]; with_reducible exact H2_) | (have H2_ := (Option.bind_some _ _).symm.trans H; with_reducible exact H2_) | with_reducible exact H | (rw [hy370]; exact H) | exact H
   have Ny370 := Aside0.mk hy370
   clear hy370
   by_cases c65 : y370.length + l0.length < 4398046511104
   ·rw [if_pos c65] at H
    have LMc65 := Aside0.mk c65
    clear c65
    obtain ⟨y373, hy373⟩ : ∃ y_ : List (S105), y_ = (y370 ++ l0) := ⟨_, rfl⟩
    replace H : (some y373) = some r := by first | (rw [hy373]; with_reducible exact H) | (have H2_ := (Option.bind_some _ _).symm.trans H; rw [hy373]; with_reducible exact H2_) | (have H2_ := (Option.bind_some _ _).symm.trans H; with_reducible exact H2_) | with_reducible exact H | (rw [hy373]; exact H) | exact H
    have Ny373 := Aside0.mk hy373
    clear hy373
    obtain rfl := Option.some.inj H
    go_enter Tryd.func66, Tryd.ntmps66
    go_wp2_with (first | ((with_reducible refine gate_dst (N := 3) rfl ?_); refine box_event ?hg (N := 3) ?hd (cs := #[.int .i64 a1_0, .int .i64 a1_1, .int .i64 a1_2, .int .i64 a1_3, .string a1_4]) (t := 24) ?hr ?_; (case hd => rfl); (case hg => rfl); (case hr => first | (go_simp; done) | (go_simp; rfl)); intro gb358 hg w66 hbox hb; have n0_ := Aside0.mk (below_step belowA hb); have n1_ := Aside0.mk (hbox); have n2_ := Aside0.mk ((by rw [hg]; exact (below_size belowA) : w.heap.size ≤ gb358)); have n3_ := Aside0.mk ((by rw [hg]; exact (below_size belowA) : w.heap.size ≤ gb358)); clear HB; have HB := n0_; have BK358 := n1_; obtain ⟨hcq_0, hcq_1, hcq_2, hcq_3, hcq_4, hfq_0, hfq_1, hfq_2, hfq_3, hfq_4⟩ := blk_facts5 BK358.out; have GW358 := n2_; have GE358 := n3_; clear n0_ n1_ n2_ n3_; clear hb hbox hg; obtain ⟨hcz67_0, hcz67_1, hcz67_2, hcz67_3, hcz67_4, hfz67_0, hfz67_1, hfz67_2, hfz67_3, hfz67_4⟩ := blk_facts5 BK358.out) | ((with_reducible refine gate_callee (f := 74) rfl ?_); refine goesL_ (some 16) rfl rfl Tryd.func74 (by kernel_rfl) rfl #[.slice A0 l0.length c0, .int .i64 a1_1] rfl argsA ?_; (with_reducible refine (spec_l2At.calls k _ _ l0 a1_1 t359 _ ?side1 ?side2 A3.out).mono ?_); (case side1 => exact CA (Kd.C_below HR0.out HB.out)); (case side2 => exact HC0.out); rintro e w' ⟨rfl, ⟨nd, rfl⟩⟩; refine ⟨_, rfl, ?_⟩) | ((with_reducible refine gate_callee (f := 75) rfl ?_); refine goesL_ (some 35) rfl rfl Tryd.func75 (by kernel_rfl) rfl #[.slice A0 l0.length c0, .agg #[.int .i64 a1_0, .int .i64 a1_1, .int .i64 a1_2, .int .i64 a1_3, .string a1_4]] rfl argsA ?_; (with_reducible refine (spec_l3Where.calls k _ _ l0 a1_0 a1_1 a1_2 a1_3 a1_4 t367 t368 false _ ?side1 ?side2 A23.out).mono ?_); (case side1 => exact CA (Kd.C_below HR0.out belowA)); (case side2 => exact HC0.out); rintro e w68 ⟨rfl, hb⟩; refine ⟨_, rfl, ?_⟩; have n0_ := Aside0.mk (blk_below (g := gb358) (o := .cells #[.int .i64 a1_0, .int .i64 a1_1, .int .i64 a1_2, .int .i64 a1_3, .string a1_4] 24 (0, 0)) blkA hb); have n1_ := Aside0.mk (below_step belowA hb); clear BK358; clear HB; have BK358 := n0_; obtain ⟨hcq_0, hcq_1, hcq_2, hcq_3, hcq_4, hfq_0, hfq_1, hfq_2, hfq_3, hfq_4⟩ := blk_facts5 BK358.out; have HB := n1_; clear n0_ n1_; (try clear hb); (try clear hb2); (try clear hk); (try clear hi)) | ((with_reducible refine gate_dst (N := 41) rfl ?_); refine Kd.R_lit k105 _ 105 ?hg (N := 41) ?hd (xs := ([] : List (S105))) (inner := []) (ok := fun _ => True) (okp := fun _ => True) ?hr ?hp (fun _ hk => hk) trivial (Below.refl _ _) (Nat.le_refl _) (by simp) ?_; (case hd => rfl); (case hg => rfl); (case hr => first | (go_simp; done) | (go_simp; rfl)); (case hp => exact (Reps.none _ _)); intro v371 w69 ho70 hb hg_ hnew_; clear hg_ hnew_; (first | rw [← Ny370.out] at ho70 | (simp only [Int.reduceToNat] at ho70; rw [← Ny370.out] at ho70)); have n0_ := Aside0.mk (Kd.R_lower ho70 (below_size belowA)); have n1_ := Aside0.mk (blk_below (g := gb358) (o := .cells #[.int .i64 a1_0, .int .i64 a1_1, .int .i64 a1_2, .int .i64 a1_3, .string a1_4] 24 (0, 0)) blkA hb); have n2_ := Aside0.mk (below_step belowA hb); clear BK358; clear HB; have HO372 := n0_; have BK358 := n1_; obtain ⟨hcq_0, hcq_1, hcq_2, hcq_3, hcq_4, hfq_0, hfq_1, hfq_2, hfq_3, hfq_4⟩ := blk_facts5 BK358.out; have HB := n2_; clear n0_ n1_ n2_; clear hb ho70) | ((with_reducible refine gate_builtin (b := .append) (xs := #[.tmp 41, .tmp 42]) rfl ?_); at_builtin; refine Kd.R_append_rows k105 (w0 := w) w.heap.size rfl (.tmp 41) (.tmp 42) 91 105 (.agg #[(.int .i64 0), (.int .i64 0), (.string ⟨#[]⟩)]) 32 rfl Tryd.underlying91 info105 rfl (by decide) (by omega) v371 y370 l0 _ _ _ (fun _ => True) (fun _ => False) rfl rfl ?aO ?aR (fun _ _ h => h) (fun _ h => h.elim) ?aF ?aB ?aS ?aL ?_; (case aR => exact CA (Kd.C_below HR0.out HB.out)); (case aB => exact belowA); (case aF => exact (fun _ _ => trivial)); (case aO => exact (RA HO372)); (case aS => exact (below_size belowA)); (case aL => have := LMc65.out; omega); intro v374 w71 ho hb hg hat; rw [← Ny373.out] at ho; have n0_ := Aside0.mk (blk_grown (g := gb358) (o := .cells #[.int .i64 a1_0, .int .i64 a1_1, .int .i64 a1_2, .int .i64 a1_3, .string a1_4] 24 (0, 0)) blkA hg (Kd.R_ne HO372.out BK358.out (by decide))); have n1_ := Aside0.mk (hb); have n2_ := Aside0.mk (ho); clear BK358; clear HB; clear HO372; have BK358 := n0_; obtain ⟨hcq_0, hcq_1, hcq_2, hcq_3, hcq_4, hfq_0, hfq_1, hfq_2, hfq_3, hfq_4⟩ := blk_facts5 BK358.out; have HB := n1_; have HO375 := n2_; clear n0_ n1_ n2_; clear ho hb hg hat))
    go_ret
    exact ⟨_, endA, RA HO375, belowA⟩
   ·rw [if_neg c65] at H
    exact absurd H (by simp)
end Go.Proofs.YtlpfjabfhgfpmaaDoor.P
