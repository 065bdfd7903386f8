-- Written by wip/tools/pprint.py (a program of this session) over the kit's printer; not trusted: Lean checks it.
import Derived.Test.YtkoodlmedgfdjaaGreatDoorPx0
import Derived.Test.YtkoodlmedgfdjaaGreatDoorPx1
import Derived.Test.YtkoodlmedgfdjaaGreatDoorPx2
import Derived.Test.YtkoodlmedgfdjaaGreatDoorPx3
import Derived.Test.YtkoodlmedgfdjaaGreatDoorPx5
import Derived.Test.YtkoodlmedgfdjaaGreatDoorWApart
import Derived.Test.YtkoodlmedgfdjaaGreatDoorWFoot
import Derived.Test.YtkoodlmedgfdjaaGreatDoorWKept
import Derived.Test.YtkoodlmedgfdjaaGreatDoorWLast
import Derived.Test.YtkoodlmedgfdjaaGreatDoorWMore
import Derived.Test.YtkoodlmedgfdjaaGreatDoorWN
import Derived.Test.YtkoodlmedgfdjaaGreatDoorWRepsOne
import Derived.Test.YtkoodlmedgfdjaaGreatDoorWShare
import Derived.Test.YtkoodlmedgfdjaaGreatDoorWWords
namespace Go.Proofs.YtkoodlmedgfdjaaGreatDoor.P
open Go.RowKit Go.Proofs.YtkoodlmedgfdjaaGreatDoorW.PrintWords Go.Proofs.YtkoodlmedgfdjaaGreatDoorW.PrintLast Go.Proofs.YtkoodlmedgfdjaaGreatDoorW.PrintMore
attribute [local go_sem] cell_set_set cell_set_far_set max2_int min2_int max_two min_two max_three min_three max_four min_four   -- for this text's walks alone
set_option linter.unusedVariables false
set_option linter.unusedSimpArgs false

attribute [local go_sem high] eqA24
/-! ### spec_OpRead: function 12 -/
def spec_OpRead.f (k : Nat) (a0 : ByteArray) : Option (Int × Int × Int × Int × ByteArray × Bool) := if (a0.size : Int) > 24 then (some (0, 0, 0, 0, (⟨#[]⟩ : ByteArray), false)) else ((spec_l3Cut.f a0 32).bind fun t224 => ((spec_l3Num.f k t224 1).bind fun t227 => (if 0 < (t224.length : Int) then (if (rdOf ByteArray.empty t224 0).toList = ([109, 97, 107, 101] : List UInt8) then ((spec_l3Num.f k t224 2).bind fun t230 => ((spec_l3Num.f k t224 3).bind fun t231 => ((spec_l3Quoted.f t224 4).bind fun bt232 => (if a0.toList = ([] : List UInt8) then (some (0, 0, 0, 0, (⟨#[]⟩ : ByteArray), false)) else ((spec_OpShow.f k 1 t227 t230 t231 bt232.1).bind fun t234 => (if t234.toList = a0.toList then (some (1, t227, t230, t231, bt232.1, true)) else (some (0, 0, 0, 0, (⟨#[]⟩ : ByteArray), false)))))))) else (if (rdOf ByteArray.empty t224 0).toList = ([116, 101, 120, 116] : List UInt8) then ((spec_l3Quoted.f t224 2).bind fun bt235 => (if a0.toList = ([] : List UInt8) then (some (0, 0, 0, 0, (⟨#[]⟩ : ByteArray), false)) else ((spec_OpShow.f k 2 t227 0 0 bt235.1).bind fun t237 => (if t237.toList = a0.toList then (some (2, t227, 0, 0, bt235.1, true)) else (some (0, 0, 0, 0, (⟨#[]⟩ : ByteArray), false)))))) else (if (rdOf ByteArray.empty t224 0).toList = ([109, 111, 118, 101] : List UInt8) then ((spec_l3Num.f k t224 2).bind fun t238 => ((spec_l3Num.f k t224 3).bind fun t239 => (if a0.toList = ([] : List UInt8) then (some (0, 0, 0, 0, (⟨#[]⟩ : ByteArray), false)) else ((spec_OpShow.f k 3 t227 t238 t239 (⟨#[]⟩ : ByteArray)).bind fun t240 => (if t240.toList = a0.toList then (some (3, t227, t238, t239, (⟨#[]⟩ : ByteArray), true)) else (some (0, 0, 0, 0, (⟨#[]⟩ : ByteArray), false))))))) else (if a0.toList = ([] : List UInt8) then (some (0, 0, 0, 0, (⟨#[]⟩ : ByteArray), false)) else ((spec_OpShow.f k 0 t227 0 0 (⟨#[]⟩ : ByteArray)).bind fun t241 => (if t241.toList = a0.toList then (some (0, t227, 0, 0, (⟨#[]⟩ : ByteArray), true)) else (some (0, 0, 0, 0, (⟨#[]⟩ : ByteArray), false)))))))) else (none))))
theorem spec_OpRead.mono : ∀ a0 k, LeO (spec_OpRead.f k a0) (spec_OpRead.f (k + 1) a0) := by
  intro a0 k
  unfold spec_OpRead.f
  repeat' first
      | (with_reducible exact spec_OpShow.mono _ _ _ _ _ _)
      | (with_reducible exact spec_l3Num.mono _ _ _)
      | (with_reducible exact LeO.refl _)
      | (with_reducible exact LeO.none _)
      | (with_reducible refine LeO.ite ?_ ?_)
      | (with_reducible refine LeO.bind ?_ (fun _ => ?_))
      | exact spec_OpShow.mono _ _ _ _ _ _
      | exact spec_l3Num.mono _ _ _
      | exact LeO.none _
      | refine LeO.ite ?_ ?_
      | refine LeO.bind ?_ (fun _ => ?_)

theorem wd_over {P : Program} {c : Code} {Q : Exit → Act → World → Prop} {x : Act} {w : World} (R : World → Prop) (h : R w) (k : ∀ W, R W → c.wp P Q x W) : c.wp P Q x w := k w h
/-- How far the reading of a change has come: the words, the result as yet, the record. -/
structure RdW (w : World) (g2 g5 : Nat) (A : Addr) (n c : Nat) (ws : List ByteArray) (cs : Array Value) (W : World) : Prop where
  below : Below w.heap.size w W
  res : W.heap[g2]? = some (.cells #[.int .i64 0, .int .i64 0, .int .i64 0, .int .i64 0, .string (⟨#[]⟩ : ByteArray)] 24 (0, 0))
  op : W.heap[g5]? = some (.cells cs 24 (0, 0))
  o2 : w.heap.size ≤ g2
  o5 : w.heap.size ≤ g5
  ne : g2 ≠ g5
  wd : Kd.R Kd.string 9 W w.heap.size (fun _ => True) (.slice (some A) n c) ws
theorem RdW.put {w W : World} {g2 g5 n c : Nat} {A : Addr} {ws : List ByteArray} {cs : Array Value} (h : RdW w g2 g5 A n c ws cs W) (j : Nat) (v : Value) {cs' : Array Value} (e : cs.setIfInBounds j v = cs') : RdW w g2 g5 A n c ws cs' (W.setCell ⟨g5, j, none⟩ v) :=
  ⟨below_set h.below h.o5, blk_far h.res h.ne _, blk_put h.op _ _ e, h.o2, h.o5, h.ne, Kd.R_mono (Kd.R_far (p := ⟨g5, j, none⟩) (Kd.R_types h.wd h.op (by decide)) (fun _ hk => hk.2) v) (fun _ h_ => h_.1)⟩
theorem RdW.drew {w W : World} {g2 g5 n c : Nat} {A : Addr} {ws : List ByteArray} {cs : Array Value} (h : RdW w g2 g5 A n c ws cs W) (m : Nat) : RdW w g2 g5 A n c ws cs (W.drewN m) :=
  ⟨pw_below_drewN h.below m, h.res, h.op, h.o2, h.o5, h.ne, Kd.R_drewN h.wd m⟩
theorem RdW.later {w W W2 : World} {g2 g5 n c : Nat} {A : Addr} {ws : List ByteArray} {cs : Array Value} (h : RdW w g2 g5 A n c ws cs W) (hb : Below W.heap.size W W2) : RdW w g2 g5 A n c ws cs W2 :=
  ⟨below_step h.below hb, blk_below h.res hb, blk_below h.op hb, h.o2, h.o5, h.ne, Kd.R_below h.wd hb⟩

set_option maxHeartbeats 8000000 in
set_option maxRecDepth 100000 in
/-- OpRead of a short text: what its first word says that it is, and what then is read. -/
theorem spec_OpRead.short (k : Nat) (a0 : ByteArray) (t144 : List ByteArray) (t147 K U A : Int) (T : ByteArray) (r1 r2 r3 r4 : Int) (r5 : ByteArray) (r6 : Bool) (w : World)
    (hs : ¬ (a0.size : Int) > 24) (h1 : spec_l3Cut.f a0 32 = some t144) (h2 : spec_l3Num.f k t144 1 = some t147) (hl : 0 < (t144.length : Int))
    (hsw : ((rdOf ByteArray.empty t144 0).toList = ([109, 97, 107, 101] : List UInt8) ∧ K = 1 ∧ spec_l3Num.f k t144 2 = some U ∧ spec_l3Num.f k t144 3 = some A ∧ ∃ b, spec_l3Quoted.f t144 4 = some (T, b)) ∨ ((rdOf ByteArray.empty t144 0).toList ≠ ([109, 97, 107, 101] : List UInt8) ∧ (rdOf ByteArray.empty t144 0).toList = ([116, 101, 120, 116] : List UInt8) ∧ K = 2 ∧ U = 0 ∧ A = 0 ∧ ∃ b, spec_l3Quoted.f t144 2 = some (T, b)) ∨ ((rdOf ByteArray.empty t144 0).toList ≠ ([109, 97, 107, 101] : List UInt8) ∧ (rdOf ByteArray.empty t144 0).toList ≠ ([116, 101, 120, 116] : List UInt8) ∧ (rdOf ByteArray.empty t144 0).toList = ([109, 111, 118, 101] : List UInt8) ∧ K = 3 ∧ spec_l3Num.f k t144 2 = some U ∧ spec_l3Num.f k t144 3 = some A ∧ T = ⟨#[]⟩) ∨ ((rdOf ByteArray.empty t144 0).toList ≠ ([109, 97, 107, 101] : List UInt8) ∧ (rdOf ByteArray.empty t144 0).toList ≠ ([116, 101, 120, 116] : List UInt8) ∧ (rdOf ByteArray.empty t144 0).toList ≠ ([109, 111, 118, 101] : List UInt8) ∧ K = 0 ∧ U = 0 ∧ A = 0 ∧ T = ⟨#[]⟩))
    (hr : (if a0.toList = ([] : List UInt8) then (some (0, 0, 0, 0, (⟨#[]⟩ : ByteArray), false)) else ((spec_OpShow.f k K t147 U A T).bind fun t154 => (if t154.toList = a0.toList then (some (K, t147, U, A, T, true)) else (some (0, 0, 0, 0, (⟨#[]⟩ : ByteArray), false))))) = some (r1, r2, r3, r4, r5, r6)) :
    Calls Tryz.prog 12 #[.string a0] w fun e w' => e = .returned (.tuple #[.agg #[.int .i64 r1, .int .i64 r2, .int .i64 r3, .int .i64 r4, .string r5], .bool r6]) ∧ Below w.heap.size w w' := by
  have hu23 := Tryz.underlying24
  have HB := Aside0.mk (Below.refl w.heap.size w)
  have c2b0 : decide (24 < (a0.size : Int)) = false := decide_eq_false hs
  have c2b1 : decide (24 < a0.size) = false := decide_eq_false (by omega)
  have c7b0 : decide (0 < (t144.length : Int)) = true := decide_eq_true hl
  have c7b1 : decide (0 < t144.length) = true := decide_eq_true (by omega)
  have A5 := Aside0.mk h1
  have A6 := Aside0.mk h2
  have SW := Aside0.mk hsw
  have HR := Aside0.mk hr
  clear hs h1 h2 hl hsw hr
  go_enter Tryz.func12, Tryz.ntmps12
  go_upto_block 0 with (first | ((with_reducible refine gate_dst (N := 2) rfl ?_); refine box_event ?hg (N := 2) ?hd (cs := #[.int .i64 0, .int .i64 0, .int .i64 0, .int .i64 0, .string (⟨#[]⟩ : ByteArray)]) (t := 24) ?hr ?_; (case hd => rfl); (case hg => rfl); (case hr => first | (go_simp; done) | (go_simp; rfl)); intro gb143 hg w22 hbox hb; have n0_ := Aside0.mk (below_step belowA hb); have n1_ := Aside0.mk (hbox); have n2_ := Aside0.mk ((by rw [hg]; exact (below_size belowA) : w.heap.size ≤ gb143)); have n3_ := Aside0.mk ((by rw [hg]; exact (below_size belowA) : w.heap.size ≤ gb143)); clear HB; have HB := n0_; have BK143 := n1_; have GW143 := n2_; have GE143 := n3_; clear n0_ n1_ n2_ n3_; clear hb hbox hg) | ((with_reducible refine gate_callee (f := 24) rfl ?_); refine goesL_ (some 11) rfl rfl Tryz.func24 (by kernel_rfl) rfl #[.string a0, .int .u8 32] rfl argsA ?_; (with_reducible refine (spec_l3Cut.calls a0 32 t144 _ A5.out).mono ?_); rintro e w23 ⟨v145, rfl, ho0, hb⟩; refine ⟨_, rfl, ?_⟩; have n0_ := Aside0.mk (Kd.R_lower ho0 (below_size belowA)); have n1_ := Aside0.mk (blk_below (g := gb143) (o := .cells #[.int .i64 0, .int .i64 0, .int .i64 0, .int .i64 0, .string (⟨#[]⟩ : ByteArray)] 24 (0, 0)) blkA hb); have n2_ := Aside0.mk (below_step belowA hb); clear BK143; clear HB; have HO146 := n0_; have BK143 := n1_; have HB := n2_; clear n0_ n1_ n2_; (try clear hb); (try clear hb2); (try clear hk); (try clear hi); (try clear ho0); obtain ⟨Ao24, co24, eo24⟩ := Kd.R_slice HO146.out; subst eo24) | ((with_reducible refine gate_callee (f := 25) rfl ?_); refine goesL_ (some 13) rfl rfl Tryz.func25 (by kernel_rfl) rfl #[.slice Ao24 t144.length co24, .int .i64 1] rfl argsA ?_; (with_reducible refine (spec_l3Num.calls k _ _ t144 1 t147 _ ?side1 ?side2 A6.out).mono ?_); (case side1 => repeat (first | exact (Kd.R_reads' HO146.out).2.2 | (with_reducible refine Kd.C_alloc ?_ _) | (with_reducible refine Kd.C_drewN ?_ _) | (with_reducible refine Kd.C_drew ?_))); (case side2 => exact (Kd.R_reads' HO146.out).2.1); rintro e w' ⟨rfl, ⟨nd, rfl⟩⟩; refine ⟨_, rfl, ?_⟩; (try (rw [drewN_self w23]; generalize hq_ : World.drewN w23 _ = w23; have n0_ : Aside0 (Kd.R Kd.string 9 w23 w.heap.size (fun _ => True) (.slice Ao24 t144.length co24) t144) := ⟨by rw [← hq_]; exact (RA HO146)⟩; have n1_ : Aside0 (w23.heap[gb143]? = some (.cells #[.int .i64 0, .int .i64 0, .int .i64 0, .int .i64 0, .string (⟨#[]⟩ : ByteArray)] 24 (0, 0))) := ⟨by rw [← hq_]; exact blkA⟩; have n2_ : Aside0 (Below w.heap.size w w23) := ⟨by rw [← hq_]; exact belowA⟩; clear HO146 BK143 HB hq_; have HO146 := n0_; have BK143 := n1_; have HB := n2_; clear n0_ n1_ n2_))) | ((with_reducible refine gate_dst (N := 5) rfl ?_); refine box_event ?hg (N := 5) ?hd (cs := #[.int .i64 0, .int .i64 0, .int .i64 0, .int .i64 0, .string (⟨#[]⟩ : ByteArray)]) (t := 24) ?hr ?_; (case hd => rfl); (case hg => rfl); (case hr => first | (go_simp; done) | (go_simp; rfl)); intro gb148 hg w25 hbox hb; have n0_ := Aside0.mk (Kd.R_below (RA HO146) hb); have n1_ := Aside0.mk (blk_below (g := gb143) (o := .cells #[.int .i64 0, .int .i64 0, .int .i64 0, .int .i64 0, .string (⟨#[]⟩ : ByteArray)] 24 (0, 0)) blkA hb); have n2_ := Aside0.mk (below_step belowA hb); have n3_ := Aside0.mk (hbox); have n4_ := Aside0.mk ((by rw [hg]; exact (below_size belowA) : w.heap.size ≤ gb148)); have n5_ := Aside0.mk ((by rw [hg]; exact (below_size belowA) : w.heap.size ≤ gb148)); have n6_ := Aside0.mk ((by rw [hg]; exact Nat.ne_of_lt (blk_lt (g := gb143) (o := .cells #[.int .i64 0, .int .i64 0, .int .i64 0, .int .i64 0, .string (⟨#[]⟩ : ByteArray)] 24 (0, 0)) blkA) : gb143 ≠ gb148)); have n7_ := Aside0.mk ((by rw [hg]; exact Nat.ne_of_gt (blk_lt (g := gb143) (o := .cells #[.int .i64 0, .int .i64 0, .int .i64 0, .int .i64 0, .string (⟨#[]⟩ : ByteArray)] 24 (0, 0)) blkA) : gb148 ≠ gb143)); clear HO146; clear BK143; clear HB; have HO146 := n0_; have BK143 := n1_; have HB := n2_; have BK148 := n3_; have GW148 := n4_; have GE148 := n5_; have NB143_148 := n6_; have NB148_143 := n7_; clear n0_ n1_ n2_ n3_ n4_ n5_ n6_ n7_; clear hb hbox hg; have hnb26 := NB148_143.out; have hnc26 := NB143_148.out; obtain ⟨hcz27_0, hcz27_1, hcz27_2, hcz27_3, hcz27_4, hfz27_0, hfz27_1, hfz27_2, hfz27_3, hfz27_4⟩ := blk_facts5 BK148.out; have p149 : 0 ≤ (0 : Int) := (by omega); have q149 : 0 < (t144.length : Int) := of_decide_eq_true (by first | (with_reducible assumption) | assumption); obtain ⟨ad149, e149, hx149_0⟩ := Kd.at_string (Kd.R_reads' HO146.out).2.2 0 p149 q149; cases e149; have qi149 : (0 < t144.length) = True := eq_true (by omega); (try rw [show ((0 : Int)).toNat = 0 from rfl] at hx149_0); (try rw [Addr.add_zero'] at hx149_0); have hn149_0 : ad149.block ≠ gb148 := Kd.own_blk (Kd.R_ne HO146.out BK148.out (by decide)); have hn149_1 : ad149.block ≠ gb148 := Kd.own_blk (Kd.R_ne HO146.out BK148.out (by decide)); have hn149_2 : ad149.block ≠ gb148 := Kd.own_blk (Kd.R_ne HO146.out BK148.out (by decide)); have hn149_3 : ad149.block ≠ gb148 := Kd.own_blk (Kd.R_ne HO146.out BK148.out (by decide)); have hn149_4 : ad149.block ≠ gb148 := Kd.own_blk (Kd.R_ne HO146.out BK148.out (by decide)); replace hx149_0 := (cell_far (p := ⟨gb148, 0, none⟩) (by first | (rw [add_block]; exact hn149_0) | (show (Addr.add _ _).block ≠ _; rw [add_block]; exact hn149_0) | exact hn149_0) (.int .i64 0)).trans hx149_0; replace hx149_0 := (cell_far (p := ⟨gb148, 1, none⟩) (by first | (rw [add_block]; exact hn149_1) | (show (Addr.add _ _).block ≠ _; rw [add_block]; exact hn149_1) | exact hn149_1) (.int .i64 t147)).trans hx149_0; replace hx149_0 := (cell_far (p := ⟨gb148, 2, none⟩) (by first | (rw [add_block]; exact hn149_2) | (show (Addr.add _ _).block ≠ _; rw [add_block]; exact hn149_2) | exact hn149_2) (.int .i64 0)).trans hx149_0; replace hx149_0 := (cell_far (p := ⟨gb148, 3, none⟩) (by first | (rw [add_block]; exact hn149_3) | (show (Addr.add _ _).block ≠ _; rw [add_block]; exact hn149_3) | exact hn149_3) (.int .i64 0)).trans hx149_0; replace hx149_0 := (cell_far (p := ⟨gb148, 4, none⟩) (by first | (rw [add_block]; exact hn149_4) | (show (Addr.add _ _).block ≠ _; rw [add_block]; exact hn149_4) | exact hn149_4) (.string (⟨#[]⟩ : ByteArray))).trans hx149_0; clear hn149_0; clear hn149_1; clear hn149_2; clear hn149_3; clear hn149_4; replace p149 := eq_true p149; replace q149 := eq_true q149))
  refine wd_over (RdW w gb143 gb148 ad149 t144.length co24 t144 #[.int .i64 0, .int .i64 t147, .int .i64 0, .int .i64 0, .string (⟨#[]⟩ : ByteArray)]) (RdW.put (RdW.put (RdW.put (RdW.put (RdW.put ⟨HB.out, BK143.out, BK148.out, GW143.out, GW148.out, NB143_148.out, HO146.out⟩ 0 _ rfl) 1 _ rfl) 2 _ rfl) 3 _ rfl) 4 _ rfl) ?_
  intro W1 hP1
  have HP1 := Aside0.mk hP1
  clear HB BK143 BK148 HO146 hx149_0 hnb26 hnc26 hcz27_0 hcz27_1 hcz27_2 hcz27_3 hcz27_4 hfz27_0 hfz27_1 hfz27_2 hfz27_3 hfz27_4
  go_cut [] (fun w' => Aside0 ((RdW w gb143 gb148 ad149 t144.length co24 t144 #[.int .i64 K, .int .i64 t147, .int .i64 U, .int .i64 A, .string T]) w'))
  case rest =>
   obtain ⟨hp_0, hp_1, hp_2, hp_3, hp_4, hq_0, hq_1, hq_2, hq_3, hq_4⟩ := blk_facts5 hcut.out.op
   obtain ⟨hr_0, hr_1, hr_2, hr_3, hr_4, hs_0, hs_1, hs_2, hs_3, hs_4⟩ := blk_facts5 hcut.out.res
   clear hP1 HP1 SW
   have hne1 := NB143_148.out
   have hne2 := NB148_143.out
   have H := HR.out
   clear HR
   by_cases c12 : a0.toList = ([] : List UInt8)
   ·
    rw [if_pos c12] at H
    have c12b0 : (a0.toList == ([] : List UInt8)) = true := beq_iff_eq.mpr c12
    have c12b1 : (a0.toList != ([] : List UInt8)) = false := bne_eq_false_iff_eq.mpr c12
    clear c12
    simp only [Option.some.injEq, Prod.mk.injEq] at H
    obtain ⟨rfl, rfl, rfl, rfl, rfl, rfl⟩ := H
    go_wp2
    refine bodyPost_ret (results_ct rfl _ _ gb143 24 #[.int .i64 0, .int .i64 0, .int .i64 0, .int .i64 0, .string (⟨#[]⟩ : ByteArray)] (0, 0) _ rfl (blk_put (blk_put (blk_put (blk_put (blk_put hcut.out.res 0 _ rfl) 1 _ rfl) 2 _ rfl) 3 _ rfl) 4 _ rfl) Tryz.underlying24 rfl (by kernel_rfl)) rfl ?_
    exact ⟨rfl, below_set (below_set (below_set (below_set (below_set hcut.out.below hcut.out.o2) hcut.out.o2) hcut.out.o2) hcut.out.o2) hcut.out.o2⟩
   ·
    rw [if_neg c12] at H
    have c12b0 : (a0.toList == ([] : List UInt8)) = false := beq_eq_false_iff_ne.mpr c12
    have c12b1 : (a0.toList != ([] : List UInt8)) = true := bne_iff_ne.mpr c12
    replace H := Option.bind_eq_some_iff.mp H
    obtain ⟨t154, A200, H⟩ := H
    (try dsimp only at H)
    have A20 := Aside0.mk A200
    clear A200
    by_cases c21 : t154.toList = a0.toList
    ·
      rw [if_pos c21] at H
      have c21b0 : (t154.toList == a0.toList) = true := beq_iff_eq.mpr c21
      have c21b1 : (t154.toList != a0.toList) = false := bne_eq_false_iff_eq.mpr c21
      clear c21
      simp only [Option.some.injEq, Prod.mk.injEq] at H
      obtain ⟨rfl, rfl, rfl, rfl, rfl, rfl⟩ := H
      go_wp2_with (go_at_call 8; (with_reducible refine (spec_OpShow.calls k K t147 U A T t154 _ A20.out).mono ?_); rintro e w28 ⟨rfl, hb⟩; have HP5 := Aside0.mk (hcut.out.later hb); clear hb hp_0 hp_1 hp_2 hp_3 hp_4 hq_0 hq_1 hq_2 hq_3 hq_4 hr_0 hr_1 hr_2 hr_3 hr_4 hs_0 hs_1 hs_2 hs_3 hs_4; obtain ⟨hx_0, hx_1, hx_2, hx_3, hx_4, hy_0, hy_1, hy_2, hy_3, hy_4⟩ := blk_facts5 HP5.out.op; obtain ⟨hz_0, hz_1, hz_2, hz_3, hz_4, ha_0, ha_1, ha_2, ha_3, ha_4⟩ := blk_facts5 HP5.out.res)
      refine bodyPost_ret (results_ct rfl _ _ gb143 24 #[.int .i64 K, .int .i64 t147, .int .i64 U, .int .i64 A, .string T] (0, 0) _ rfl (blk_put (blk_put (blk_put (blk_put (blk_put HP5.out.res 0 _ rfl) 1 _ rfl) 2 _ rfl) 3 _ rfl) 4 _ rfl) Tryz.underlying24 rfl (by kernel_rfl)) rfl ?_
      exact ⟨rfl, below_set (below_set (below_set (below_set (below_set HP5.out.below HP5.out.o2) HP5.out.o2) HP5.out.o2) HP5.out.o2) HP5.out.o2⟩
    ·
      rw [if_neg c21] at H
      have c21b0 : (t154.toList == a0.toList) = false := beq_eq_false_iff_ne.mpr c21
      have c21b1 : (t154.toList != a0.toList) = true := bne_iff_ne.mpr c21
      simp only [Option.some.injEq, Prod.mk.injEq] at H
      obtain ⟨rfl, rfl, rfl, rfl, rfl, rfl⟩ := H
      go_wp2_with (go_at_call 8; (with_reducible refine (spec_OpShow.calls k K t147 U A T t154 _ A20.out).mono ?_); rintro e w28 ⟨rfl, hb⟩; have HP5 := Aside0.mk (hcut.out.later hb); clear hb hp_0 hp_1 hp_2 hp_3 hp_4 hq_0 hq_1 hq_2 hq_3 hq_4 hr_0 hr_1 hr_2 hr_3 hr_4 hs_0 hs_1 hs_2 hs_3 hs_4; obtain ⟨hx_0, hx_1, hx_2, hx_3, hx_4, hy_0, hy_1, hy_2, hy_3, hy_4⟩ := blk_facts5 HP5.out.op; obtain ⟨hz_0, hz_1, hz_2, hz_3, hz_4, ha_0, ha_1, ha_2, ha_3, ha_4⟩ := blk_facts5 HP5.out.res)
      refine bodyPost_ret (results_ct rfl _ _ gb143 24 #[.int .i64 0, .int .i64 0, .int .i64 0, .int .i64 0, .string (⟨#[]⟩ : ByteArray)] (0, 0) _ rfl (blk_put (blk_put (blk_put (blk_put (blk_put HP5.out.res 0 _ rfl) 1 _ rfl) 2 _ rfl) 3 _ rfl) 4 _ rfl) Tryz.underlying24 rfl (by kernel_rfl)) rfl ?_
      exact ⟨rfl, below_set (below_set (below_set (below_set (below_set HP5.out.below HP5.out.o2) HP5.out.o2) HP5.out.o2) HP5.out.o2) HP5.out.o2⟩
  case first =>
   rcases SW.out with ⟨c8, rfl, m2, m3, qb, mq⟩ | ⟨c8, c9, rfl, rfl, rfl, qb, mq⟩ | ⟨c8, c9, c10, rfl, m2, m3, rfl⟩ | ⟨c8, c9, c10, rfl, rfl, rfl, rfl⟩
   ·
    clear SW
    have c8b0 : ((rdOf ByteArray.empty t144 0).toList == ([109, 97, 107, 101] : List UInt8)) = true := beq_iff_eq.mpr c8
    have c8b1 : ((rdOf ByteArray.empty t144 0).toList != ([109, 97, 107, 101] : List UInt8)) = false := bne_eq_false_iff_eq.mpr c8
    clear c8
    have NQ := Aside0.mk mq
    clear mq
    obtain ⟨hk1_0, hk1_1, hk1_2, hk1_3, hk1_4, hf1_0, hf1_1, hf1_2, hf1_3, hf1_4⟩ := blk_facts5 hP1.op
    clear hP1
    have M2 := Aside0.mk m2
    have M3 := Aside0.mk m3
    clear m2 m3
    go_upto_region 8 with fail
    refine wd_over (RdW w gb143 gb148 ad149 t144.length co24 t144 #[.int .i64 1, .int .i64 t147, .int .i64 0, .int .i64 0, .string (⟨#[]⟩ : ByteArray)]) (HP1.out.put 0 _ rfl) ?_
    intro W2 hP2
    have HP2 := Aside0.mk hP2
    obtain ⟨hk2_0, hk2_1, hk2_2, hk2_3, hk2_4, hf2_0, hf2_1, hf2_2, hf2_3, hf2_4⟩ := blk_facts5 hP2.op
    clear hP2
    clear hk1_0 hk1_1 hk1_2 hk1_3 hk1_4 hf1_0 hf1_1 hf1_2 hf1_3 hf1_4 HP1
    go_upto_region 9 with (((with_reducible refine gate_callee (f := 25) rfl ?_); refine goesL_ (some 22) rfl rfl Tryz.func25 (by kernel_rfl) rfl #[.slice (some ad149) t144.length co24, .int .i64 2] rfl argsA ?_; (with_reducible refine (spec_l3Num.calls k _ _ t144 2 U _ ?side1 ?side2 M2.out).mono ?_); (case side1 => exact (Kd.R_reads' HP2.out.wd).2.2); (case side2 => exact (Kd.R_reads' HP2.out.wd).2.1); rintro e w' ⟨rfl, ⟨nd22, rfl⟩⟩; refine ⟨_, rfl, ?_⟩))
    refine wd_over (RdW w gb143 gb148 ad149 t144.length co24 t144 #[.int .i64 1, .int .i64 t147, .int .i64 U, .int .i64 0, .string (⟨#[]⟩ : ByteArray)]) ((HP2.out.drew _).put 2 _ rfl) ?_
    intro W3 hP3
    have HP3 := Aside0.mk hP3
    obtain ⟨hk3_0, hk3_1, hk3_2, hk3_3, hk3_4, hf3_0, hf3_1, hf3_2, hf3_3, hf3_4⟩ := blk_facts5 hP3.op
    clear hP3
    clear hk2_0 hk2_1 hk2_2 hk2_3 hk2_4 hf2_0 hf2_1 hf2_2 hf2_3 hf2_4 HP2
    go_upto_region 10 with (((with_reducible refine gate_callee (f := 25) rfl ?_); refine goesL_ (some 25) rfl rfl Tryz.func25 (by kernel_rfl) rfl #[.slice (some ad149) t144.length co24, .int .i64 3] rfl argsA ?_; (with_reducible refine (spec_l3Num.calls k _ _ t144 3 A _ ?side1 ?side2 M3.out).mono ?_); (case side1 => exact (Kd.R_reads' HP3.out.wd).2.2); (case side2 => exact (Kd.R_reads' HP3.out.wd).2.1); rintro e w' ⟨rfl, ⟨nd25, rfl⟩⟩; refine ⟨_, rfl, ?_⟩))
    refine wd_over (RdW w gb143 gb148 ad149 t144.length co24 t144 #[.int .i64 1, .int .i64 t147, .int .i64 U, .int .i64 A, .string (⟨#[]⟩ : ByteArray)]) ((HP3.out.drew _).put 3 _ rfl) ?_
    intro W4 hP4
    have HP4 := Aside0.mk hP4
    obtain ⟨hk4_0, hk4_1, hk4_2, hk4_3, hk4_4, hf4_0, hf4_1, hf4_2, hf4_3, hf4_4⟩ := blk_facts5 hP4.op
    clear hP4
    clear hk3_0 hk3_1 hk3_2 hk3_3 hk3_4 hf3_0 hf3_1 hf3_2 hf3_3 hf3_4 HP3
    go_wp2_with (((with_reducible refine gate_callee (f := 26) rfl ?_); refine goesL_ (some 29) rfl rfl Tryz.func26 (by kernel_rfl) rfl #[.slice (some ad149) t144.length co24, .int .i64 4] rfl argsA ?_; (with_reducible refine (spec_l3Quoted.calls _ _ t144 4 T qb _ ?side1 ?side2 NQ.out).mono ?_); (case side1 => exact (Kd.R_reads' HP4.out.wd).2.2); (case side2 => exact (Kd.R_reads' HP4.out.wd).2.1); rintro e w' ⟨rfl, ⟨nd29, rfl⟩⟩; refine ⟨_, rfl, ?_⟩))
    go_meet
    case rel => exact ⟨(HP4.out.drew _).put 4 _ rfl⟩
   ·
    clear SW
    have c8b0 : ((rdOf ByteArray.empty t144 0).toList == ([109, 97, 107, 101] : List UInt8)) = false := beq_eq_false_iff_ne.mpr c8
    have c8b1 : ((rdOf ByteArray.empty t144 0).toList != ([109, 97, 107, 101] : List UInt8)) = true := bne_iff_ne.mpr c8
    have c9b0 : ((rdOf ByteArray.empty t144 0).toList == ([116, 101, 120, 116] : List UInt8)) = true := beq_iff_eq.mpr c9
    have c9b1 : ((rdOf ByteArray.empty t144 0).toList != ([116, 101, 120, 116] : List UInt8)) = false := bne_eq_false_iff_eq.mpr c9
    clear c8 c9
    have NQ := Aside0.mk mq
    clear mq
    obtain ⟨hk1_0, hk1_1, hk1_2, hk1_3, hk1_4, hf1_0, hf1_1, hf1_2, hf1_3, hf1_4⟩ := blk_facts5 hP1.op
    clear hP1
    go_upto_region 13 with fail
    refine wd_over (RdW w gb143 gb148 ad149 t144.length co24 t144 #[.int .i64 2, .int .i64 t147, .int .i64 0, .int .i64 0, .string (⟨#[]⟩ : ByteArray)]) (HP1.out.put 0 _ rfl) ?_
    intro W2 hP2
    have HP2 := Aside0.mk hP2
    obtain ⟨hk2_0, hk2_1, hk2_2, hk2_3, hk2_4, hf2_0, hf2_1, hf2_2, hf2_3, hf2_4⟩ := blk_facts5 hP2.op
    clear hP2
    clear hk1_0 hk1_1 hk1_2 hk1_3 hk1_4 hf1_0 hf1_1 hf1_2 hf1_3 hf1_4 HP1
    go_wp2_with (((with_reducible refine gate_callee (f := 26) rfl ?_); refine goesL_ (some 38) rfl rfl Tryz.func26 (by kernel_rfl) rfl #[.slice (some ad149) t144.length co24, .int .i64 2] rfl argsA ?_; (with_reducible refine (spec_l3Quoted.calls _ _ t144 2 T qb _ ?side1 ?side2 NQ.out).mono ?_); (case side1 => exact (Kd.R_reads' HP2.out.wd).2.2); (case side2 => exact (Kd.R_reads' HP2.out.wd).2.1); rintro e w' ⟨rfl, ⟨nd38, rfl⟩⟩; refine ⟨_, rfl, ?_⟩))
    go_meet
    case rel => exact ⟨(HP2.out.drew _).put 4 _ rfl⟩
   ·
    clear SW
    have c8b0 : ((rdOf ByteArray.empty t144 0).toList == ([109, 97, 107, 101] : List UInt8)) = false := beq_eq_false_iff_ne.mpr c8
    have c8b1 : ((rdOf ByteArray.empty t144 0).toList != ([109, 97, 107, 101] : List UInt8)) = true := bne_iff_ne.mpr c8
    have c9b0 : ((rdOf ByteArray.empty t144 0).toList == ([116, 101, 120, 116] : List UInt8)) = false := beq_eq_false_iff_ne.mpr c9
    have c9b1 : ((rdOf ByteArray.empty t144 0).toList != ([116, 101, 120, 116] : List UInt8)) = true := bne_iff_ne.mpr c9
    have c10b0 : ((rdOf ByteArray.empty t144 0).toList == ([109, 111, 118, 101] : List UInt8)) = true := beq_iff_eq.mpr c10
    have c10b1 : ((rdOf ByteArray.empty t144 0).toList != ([109, 111, 118, 101] : List UInt8)) = false := bne_eq_false_iff_eq.mpr c10
    clear c8 c9 c10
    obtain ⟨hk1_0, hk1_1, hk1_2, hk1_3, hk1_4, hf1_0, hf1_1, hf1_2, hf1_3, hf1_4⟩ := blk_facts5 hP1.op
    clear hP1
    have M2 := Aside0.mk m2
    have M3 := Aside0.mk m3
    clear m2 m3
    go_upto_region 16 with fail
    refine wd_over (RdW w gb143 gb148 ad149 t144.length co24 t144 #[.int .i64 3, .int .i64 t147, .int .i64 0, .int .i64 0, .string (⟨#[]⟩ : ByteArray)]) (HP1.out.put 0 _ rfl) ?_
    intro W2 hP2
    have HP2 := Aside0.mk hP2
    obtain ⟨hk2_0, hk2_1, hk2_2, hk2_3, hk2_4, hf2_0, hf2_1, hf2_2, hf2_3, hf2_4⟩ := blk_facts5 hP2.op
    clear hP2
    clear hk1_0 hk1_1 hk1_2 hk1_3 hk1_4 hf1_0 hf1_1 hf1_2 hf1_3 hf1_4 HP1
    go_upto_region 17 with (((with_reducible refine gate_callee (f := 25) rfl ?_); refine goesL_ (some 46) rfl rfl Tryz.func25 (by kernel_rfl) rfl #[.slice (some ad149) t144.length co24, .int .i64 2] rfl argsA ?_; (with_reducible refine (spec_l3Num.calls k _ _ t144 2 U _ ?side1 ?side2 M2.out).mono ?_); (case side1 => exact (Kd.R_reads' HP2.out.wd).2.2); (case side2 => exact (Kd.R_reads' HP2.out.wd).2.1); rintro e w' ⟨rfl, ⟨nd46, rfl⟩⟩; refine ⟨_, rfl, ?_⟩))
    refine wd_over (RdW w gb143 gb148 ad149 t144.length co24 t144 #[.int .i64 3, .int .i64 t147, .int .i64 U, .int .i64 0, .string (⟨#[]⟩ : ByteArray)]) ((HP2.out.drew _).put 2 _ rfl) ?_
    intro W3 hP3
    have HP3 := Aside0.mk hP3
    obtain ⟨hk3_0, hk3_1, hk3_2, hk3_3, hk3_4, hf3_0, hf3_1, hf3_2, hf3_3, hf3_4⟩ := blk_facts5 hP3.op
    clear hP3
    clear hk2_0 hk2_1 hk2_2 hk2_3 hk2_4 hf2_0 hf2_1 hf2_2 hf2_3 hf2_4 HP2
    go_wp2_with (((with_reducible refine gate_callee (f := 25) rfl ?_); refine goesL_ (some 49) rfl rfl Tryz.func25 (by kernel_rfl) rfl #[.slice (some ad149) t144.length co24, .int .i64 3] rfl argsA ?_; (with_reducible refine (spec_l3Num.calls k _ _ t144 3 A _ ?side1 ?side2 M3.out).mono ?_); (case side1 => exact (Kd.R_reads' HP3.out.wd).2.2); (case side2 => exact (Kd.R_reads' HP3.out.wd).2.1); rintro e w' ⟨rfl, ⟨nd49, rfl⟩⟩; refine ⟨_, rfl, ?_⟩))
    go_meet
    case rel => exact ⟨(HP3.out.drew _).put 3 _ rfl⟩
   ·
    clear SW
    have c8b0 : ((rdOf ByteArray.empty t144 0).toList == ([109, 97, 107, 101] : List UInt8)) = false := beq_eq_false_iff_ne.mpr c8
    have c8b1 : ((rdOf ByteArray.empty t144 0).toList != ([109, 97, 107, 101] : List UInt8)) = true := bne_iff_ne.mpr c8
    have c9b0 : ((rdOf ByteArray.empty t144 0).toList == ([116, 101, 120, 116] : List UInt8)) = false := beq_eq_false_iff_ne.mpr c9
    have c9b1 : ((rdOf ByteArray.empty t144 0).toList != ([116, 101, 120, 116] : List UInt8)) = true := bne_iff_ne.mpr c9
    have c10b0 : ((rdOf ByteArray.empty t144 0).toList == ([109, 111, 118, 101] : List UInt8)) = false := beq_eq_false_iff_ne.mpr c10
    have c10b1 : ((rdOf ByteArray.empty t144 0).toList != ([109, 111, 118, 101] : List UInt8)) = true := bne_iff_ne.mpr c10
    clear c8 c9 c10
    clear hP1
    go_wp2
    go_meet
    case rel => exact ⟨HP1.out⟩
set_option maxHeartbeats 8000000 in
set_option maxRecDepth 100000 in
theorem spec_OpRead.calls (k : Nat) (a0 : ByteArray) (r1 : Int) (r2 : Int) (r3 : Int) (r4 : Int) (r5 : ByteArray) (r6 : Bool) (w : World) (h : spec_OpRead.f k a0 = some (r1, r2, r3, r4, r5, r6)) :
    Calls Tryz.prog 12 #[.string a0] w fun e w' => e = .returned (.tuple #[.agg #[.int .i64 r1, .int .i64 r2, .int .i64 r3, .int .i64 r4, .string r5], .bool r6]) ∧ Below w.heap.size w w' := by
  have hu24 := Tryz.underlying24
  have HB := Aside0.mk (Below.refl w.heap.size w)
  have H : (if (a0.size : Int) > 24 then (some (0, 0, 0, 0, (⟨#[]⟩ : ByteArray), false)) else ((spec_l3Cut.f a0 32).bind fun t224 => ((spec_l3Num.f k t224 1).bind fun t227 => (if 0 < (t224.length : Int) then (if (rdOf ByteArray.empty t224 0).toList = ([109, 97, 107, 101] : List UInt8) then ((spec_l3Num.f k t224 2).bind fun t230 => ((spec_l3Num.f k t224 3).bind fun t231 => ((spec_l3Quoted.f t224 4).bind fun bt232 => (if a0.toList = ([] : List UInt8) then (some (0, 0, 0, 0, (⟨#[]⟩ : ByteArray), false)) else ((spec_OpShow.f k 1 t227 t230 t231 bt232.1).bind fun t234 => (if t234.toList = a0.toList then (some (1, t227, t230, t231, bt232.1, true)) else (some (0, 0, 0, 0, (⟨#[]⟩ : ByteArray), false)))))))) else (if (rdOf ByteArray.empty t224 0).toList = ([116, 101, 120, 116] : List UInt8) then ((spec_l3Quoted.f t224 2).bind fun bt235 => (if a0.toList = ([] : List UInt8) then (some (0, 0, 0, 0, (⟨#[]⟩ : ByteArray), false)) else ((spec_OpShow.f k 2 t227 0 0 bt235.1).bind fun t237 => (if t237.toList = a0.toList then (some (2, t227, 0, 0, bt235.1, true)) else (some (0, 0, 0, 0, (⟨#[]⟩ : ByteArray), false)))))) else (if (rdOf ByteArray.empty t224 0).toList = ([109, 111, 118, 101] : List UInt8) then ((spec_l3Num.f k t224 2).bind fun t238 => ((spec_l3Num.f k t224 3).bind fun t239 => (if a0.toList = ([] : List UInt8) then (some (0, 0, 0, 0, (⟨#[]⟩ : ByteArray), false)) else ((spec_OpShow.f k 3 t227 t238 t239 (⟨#[]⟩ : ByteArray)).bind fun t240 => (if t240.toList = a0.toList then (some (3, t227, t238, t239, (⟨#[]⟩ : ByteArray), true)) else (some (0, 0, 0, 0, (⟨#[]⟩ : ByteArray), false))))))) else (if a0.toList = ([] : List UInt8) then (some (0, 0, 0, 0, (⟨#[]⟩ : ByteArray), false)) else ((spec_OpShow.f k 0 t227 0 0 (⟨#[]⟩ : ByteArray)).bind fun t241 => (if t241.toList = a0.toList then (some (0, t227, 0, 0, (⟨#[]⟩ : ByteArray), true)) else (some (0, 0, 0, 0, (⟨#[]⟩ : ByteArray), false)))))))) else (none))))) = some (r1, r2, r3, r4, r5, r6) := h
  clear h
  by_cases c2 : (a0.size : Int) > 24
  · rw [if_pos c2] at H
    have c2b0 : decide (24 < (a0.size : Int)) = true := decide_eq_true c2
    have c2b1 : decide (24 < a0.size) = true := decide_eq_true (by omega)
    clear c2
    simp only [Option.some.injEq, Prod.mk.injEq] at H
    obtain ⟨rfl, rfl, rfl, rfl, rfl, rfl⟩ := H
    go_enter Tryz.func12, Tryz.ntmps12
    go_wp2_with (first | ((with_reducible refine gate_dst (N := 2) rfl ?_); refine box_event ?hg (N := 2) ?hd (cs := #[.int .i64 0, .int .i64 0, .int .i64 0, .int .i64 0, .string (⟨#[]⟩ : ByteArray)]) (t := 24) ?hr ?_; (case hd => rfl); (case hg => rfl); (case hr => first | (go_simp; done) | (go_simp; rfl)); intro gb223 hg w3 hbox hb; have n0_ := Aside0.mk (below_step belowA hb); have n1_ := Aside0.mk (hbox); have n2_ := Aside0.mk ((by rw [hg]; exact (below_size belowA) : w.heap.size ≤ gb223)); have n3_ := Aside0.mk ((by rw [hg]; exact (below_size belowA) : w.heap.size ≤ gb223)); clear HB; have HB := n0_; have BK223 := n1_; have GW223 := n2_; have GE223 := n3_; clear n0_ n1_ n2_ n3_; clear hb hbox hg; obtain ⟨hcz4_0, hcz4_1, hcz4_2, hcz4_3, hcz4_4, hfz4_0, hfz4_1, hfz4_2, hfz4_3, hfz4_4⟩ := blk_facts5 BK223.out))
    refine bodyPost_ret (results_ct rfl _ _ gb223 24 #[.int .i64 0, .int .i64 0, .int .i64 0, .int .i64 0, .string (⟨#[]⟩ : ByteArray)] (0, 0) _ rfl (blk_put (blk_put (blk_put (blk_put (blk_put (blkC #[.int .i64 0, .int .i64 0, .int .i64 0, .int .i64 0, .string (⟨#[]⟩ : ByteArray)]) 0 _ rfl) 1 _ rfl) 2 _ rfl) 3 _ rfl) 4 _ rfl) Tryz.underlying24 rfl (by kernel_rfl)) rfl ?_
    exact ⟨endA, belowA⟩
  · rw [if_neg c2] at H
    obtain ⟨t144, A5, H⟩ := Option.bind_eq_some_iff.mp H
    obtain ⟨t147, A6, H⟩ := Option.bind_eq_some_iff.mp H
    (try dsimp only at H)
    by_cases c7 : 0 < (t144.length : Int)
    · rw [if_pos c7] at H
      by_cases c8 : (rdOf ByteArray.empty t144 0).toList = ([109, 97, 107, 101] : List UInt8)
      · rw [if_pos c8] at H
        obtain ⟨t150, A9, H⟩ := Option.bind_eq_some_iff.mp H
        obtain ⟨t151, A10, H⟩ := Option.bind_eq_some_iff.mp H
        obtain ⟨⟨t152, t153⟩, A11, H⟩ := Option.bind_eq_some_iff.mp H
        exact spec_OpRead.short k a0 t144 t147 1 t150 t151 t152 r1 r2 r3 r4 r5 r6 w c2 A5 A6 c7 (Or.inl ⟨c8, rfl, A9, A10, t153, A11⟩) H
      · rw [if_neg c8] at H
        by_cases c9 : (rdOf ByteArray.empty t144 0).toList = ([116, 101, 120, 116] : List UInt8)
        · rw [if_pos c9] at H
          obtain ⟨⟨t155, t156⟩, A40, H⟩ := Option.bind_eq_some_iff.mp H
          exact spec_OpRead.short k a0 t144 t147 2 0 0 t155 r1 r2 r3 r4 r5 r6 w c2 A5 A6 c7 (Or.inr (Or.inl ⟨c8, c9, rfl, rfl, rfl, t156, A40⟩)) H
        · rw [if_neg c9] at H
          by_cases c10 : (rdOf ByteArray.empty t144 0).toList = ([109, 111, 118, 101] : List UInt8)
          · rw [if_pos c10] at H
            obtain ⟨t158, A69, H⟩ := Option.bind_eq_some_iff.mp H
            obtain ⟨t159, A70, H⟩ := Option.bind_eq_some_iff.mp H
            exact spec_OpRead.short k a0 t144 t147 3 t158 t159 ⟨#[]⟩ r1 r2 r3 r4 r5 r6 w c2 A5 A6 c7 (Or.inr (Or.inr (Or.inl ⟨c8, c9, c10, rfl, A69, A70, rfl⟩))) H
          · rw [if_neg c10] at H
            exact spec_OpRead.short k a0 t144 t147 0 0 0 ⟨#[]⟩ r1 r2 r3 r4 r5 r6 w c2 A5 A6 c7 (Or.inr (Or.inr (Or.inr ⟨c8, c9, c10, rfl, rfl, rfl, rfl⟩))) H
    · rw [if_neg c7] at H
      exact absurd H (by simp)


/-! ### laws_FnOpStrict: function 4 -/
def laws_FnOpStrict.j0 : Nat → ByteArray → Bool → Bool → Bool → Int → Int → Int → Int → ByteArray → Int → Int → Int → Int → ByteArray → Option (Bool)
  | 0, _, _, _, _, _, _, _, _, _, _, _, _, _, _ => none
  | k + 1, x3, x5, x7, x34, x250000, x250001, x250002, x250003, x250004, x257000, x257001, x257002, x257003, x257004 => if x34 = true then (if (x7 == x5) = true then (some (x257000 == x250000 && (x257001 == x250001 && (x257002 == x250002 && (x257003 == x250003 && (x257004.toList == x250004.toList)))))) else (some false)) else ((impl_OpOk.f x257000 x257001 x257002 x257003 x257004).bind fun t257 => (if t257 = true then ((impl_OpShow.f x257000 x257001 x257002 x257003 x257004).bind fun t258 => (some (t258.toList == x3.toList))) else (some false)))
def laws_FnOpStrict.f (k : Nat) (l0 : List Int) : Option (Bool) := if (l0.length : Int) > 1048576 then (some true) else ((spec_DrawOpRead.f k l0).bind fun t242 => ((spec_OpRead.f k t242).bind fun bt243 => ((impl_OpRead.f t242).bind fun bt250 => (if (bt250.2.2.2.2.2 != bt243.2.2.2.2.2) = true then (laws_FnOpStrict.j0 k t242 bt243.2.2.2.2.2 bt250.2.2.2.2.2 true bt243.1 bt243.2.1 bt243.2.2.1 bt243.2.2.2.1 bt243.2.2.2.2.1 bt250.1 bt250.2.1 bt250.2.2.1 bt250.2.2.2.1 bt250.2.2.2.2.1) else (if (!(bt250.1 == bt243.1) || (!(bt250.2.1 == bt243.2.1) || (!(bt250.2.2.1 == bt243.2.2.1) || (!(bt250.2.2.2.1 == bt243.2.2.2.1) || (!(bt250.2.2.2.2.1.toList == bt243.2.2.2.2.1.toList)))))) = true then (laws_FnOpStrict.j0 k t242 bt243.2.2.2.2.2 bt250.2.2.2.2.2 true bt243.1 bt243.2.1 bt243.2.2.1 bt243.2.2.2.1 bt243.2.2.2.2.1 bt250.1 bt250.2.1 bt250.2.2.1 bt250.2.2.2.1 bt250.2.2.2.2.1) else (laws_FnOpStrict.j0 k t242 bt243.2.2.2.2.2 bt250.2.2.2.2.2 (!bt250.2.2.2.2.2) bt243.1 bt243.2.1 bt243.2.2.1 bt243.2.2.2.1 bt243.2.2.2.2.1 bt250.1 bt250.2.1 bt250.2.2.1 bt250.2.2.2.1 bt250.2.2.2.2.1))))))
theorem laws_FnOpStrict.mono_l : ∀ k, (∀ y0 y1 y2 y3 y4 y5 y6 y7 y8 y9 y10 y11 y12 y13, LeO (laws_FnOpStrict.j0 k y0 y1 y2 y3 y4 y5 y6 y7 y8 y9 y10 y11 y12 y13) (laws_FnOpStrict.j0 (k + 1) y0 y1 y2 y3 y4 y5 y6 y7 y8 y9 y10 y11 y12 y13))
  | 0 => fun _ _ _ _ _ _ _ _ _ _ _ _ _ _ r h => by simp [laws_FnOpStrict.j0] at h
  | k + 1 => by
    have ih0 := laws_FnOpStrict.mono_l k
    · intro y0 y1 y2 y3 y4 y5 y6 y7 y8 y9 y10 y11 y12 y13
      unfold laws_FnOpStrict.j0
      repeat' first
      | (with_reducible exact ih0 _ _ _ _ _ _ _ _ _ _ _ _ _ _)
      | (with_reducible exact spec_DrawOpRead.mono _ _)
      | (with_reducible exact spec_OpRead.mono _ _)
      | (with_reducible exact LeO.refl _)
      | (with_reducible exact LeO.none _)
      | (with_reducible refine LeO.ite ?_ ?_)
      | (with_reducible refine LeO.bind ?_ (fun _ => ?_))
      | exact ih0 _ _ _ _ _ _ _ _ _ _ _ _ _ _
      | exact spec_DrawOpRead.mono _ _
      | exact spec_OpRead.mono _ _
      | exact LeO.none _
      | refine LeO.ite ?_ ?_
      | refine LeO.bind ?_ (fun _ => ?_)
theorem laws_FnOpStrict.mono : ∀ a0 k, LeO (laws_FnOpStrict.f k a0) (laws_FnOpStrict.f (k + 1) a0) := by
  intro a0 k
  have ih0 := laws_FnOpStrict.mono_l k
  unfold laws_FnOpStrict.f
  repeat' first
      | (with_reducible exact ih0 _ _ _ _ _ _ _ _ _ _ _ _ _ _)
      | (with_reducible exact spec_DrawOpRead.mono _ _)
      | (with_reducible exact spec_OpRead.mono _ _)
      | (with_reducible exact LeO.refl _)
      | (with_reducible exact LeO.none _)
      | (with_reducible refine LeO.ite ?_ ?_)
      | (with_reducible refine LeO.bind ?_ (fun _ => ?_))
      | exact ih0 _ _ _ _ _ _ _ _ _ _ _ _ _ _
      | exact spec_DrawOpRead.mono _ _
      | exact spec_OpRead.mono _ _
      | exact LeO.none _
      | refine LeO.ite ?_ ?_
      | refine LeO.bind ?_ (fun _ => ?_)
set_option maxHeartbeats 8000000 in
set_option maxRecDepth 100000 in
theorem laws_FnOpStrict.calls (k : Nat) (A0 : Option Addr) (c0 : Nat) (l0 : List Int) (r : Bool) (w : World) (hr0 : Kd.C (Kd.int .u8) w A0 l0.length l0) (hc0 : l0.length ≤ c0) (ht : TabOk w) (h : laws_FnOpStrict.f k l0 = some r) :
    Calls Tryz.prog 4 #[.slice A0 l0.length c0] w fun e w' => e = .returned (.bool r) ∧ Below w.heap.size w w' := by
  have hu24 := Tryz.underlying24
  have HR0 := Aside0.mk hr0
  have HC0 := Aside0.mk hc0
  clear hr0 hc0
  have HT := Aside0.mk ht
  clear ht
  have HB := Aside0.mk (Below.refl w.heap.size w)
  have H : (if (l0.length : Int) > 1048576 then (some true) else ((spec_DrawOpRead.f k l0).bind fun t242 => ((spec_OpRead.f k t242).bind fun bt243 => ((impl_OpRead.f t242).bind fun bt250 => (if (bt250.2.2.2.2.2 != bt243.2.2.2.2.2) = true then (laws_FnOpStrict.j0 k t242 bt243.2.2.2.2.2 bt250.2.2.2.2.2 true bt243.1 bt243.2.1 bt243.2.2.1 bt243.2.2.2.1 bt243.2.2.2.2.1 bt250.1 bt250.2.1 bt250.2.2.1 bt250.2.2.2.1 bt250.2.2.2.2.1) else (if (!(bt250.1 == bt243.1) || (!(bt250.2.1 == bt243.2.1) || (!(bt250.2.2.1 == bt243.2.2.1) || (!(bt250.2.2.2.1 == bt243.2.2.2.1) || (!(bt250.2.2.2.2.1.toList == bt243.2.2.2.2.1.toList)))))) = true then (laws_FnOpStrict.j0 k t242 bt243.2.2.2.2.2 bt250.2.2.2.2.2 true bt243.1 bt243.2.1 bt243.2.2.1 bt243.2.2.2.1 bt243.2.2.2.2.1 bt250.1 bt250.2.1 bt250.2.2.1 bt250.2.2.2.1 bt250.2.2.2.2.1) else (laws_FnOpStrict.j0 k t242 bt243.2.2.2.2.2 bt250.2.2.2.2.2 (!bt250.2.2.2.2.2) bt243.1 bt243.2.1 bt243.2.2.1 bt243.2.2.2.1 bt243.2.2.2.2.1 bt250.1 bt250.2.1 bt250.2.2.1 bt250.2.2.2.1 bt250.2.2.2.2.1))))))) = some r := h
  clear h
  by_cases c2 : (l0.length : Int) > 1048576
  · rw [if_pos c2] at H
    have c2b0 : decide (1048576 < (l0.length : Int)) = true := decide_eq_true c2
    have c2b1 : decide (1048576 < l0.length) = true := decide_eq_true (by omega)
    clear c2
    obtain rfl := Option.some.inj H
    go_enter Tryz.func4, Tryz.ntmps4
    go_wp2
    go_ret
    exact ⟨endA, belowA⟩
  · rw [if_neg c2] at H
    have c2b0 : decide (1048576 < (l0.length : Int)) = false := decide_eq_false c2
    have c2b1 : decide (1048576 < l0.length) = false := decide_eq_false (by omega)
    clear c2
    replace H := Option.bind_eq_some_iff.mp H
    obtain ⟨t242, A30, H⟩ := H
    (try dsimp only at H)
    have A3 := Aside0.mk A30
    clear A30
    replace H := Option.bind_eq_some_iff.mp H
    obtain ⟨⟨t243, t244, t245, t246, t247, t248⟩, A40, H⟩ := H
    (try dsimp only at H)
    have A4 := Aside0.mk A40
    clear A40
    replace H := Option.bind_eq_some_iff.mp H
    obtain ⟨⟨t250, t251, t252, t253, t254, t255⟩, A50, H⟩ := H
    (try dsimp only at H)
    have A5 := Aside0.mk A50
    clear A50
    have HC6 := Aside0.mk H
    clear H
    go_enter Tryz.func4, Tryz.ntmps4
    go_upto_region 6 with (first | ((with_reducible refine gate_callee (f := 11) rfl ?_); refine goesL_ (some 12) rfl rfl Tryz.func11 (by kernel_rfl) rfl #[.slice A0 l0.length c0] rfl argsA ?_; (with_reducible refine (spec_DrawOpRead.calls k _ _ l0 t242 _ ?side1 ?side2 A3.out).mono ?_); (case side1 => exact CA (HR0.out)); (case side2 => exact HC0.out); rintro e w7 ⟨rfl, hb⟩; refine ⟨_, rfl, ?_⟩; have n0_ := Aside0.mk (below_step belowA hb); clear HB; have HB := n0_; clear n0_; (try clear hb); (try clear hb2); (try clear hk); (try clear hi)) | ((with_reducible refine gate_callee (f := 12) rfl ?_); refine goesL_ (some 15) rfl rfl Tryz.func12 (by kernel_rfl) rfl #[.string t242] rfl argsA ?_; (with_reducible refine (spec_OpRead.calls k t242 t243 t244 t245 t246 t247 t248 _ A4.out).mono ?_); rintro e w8 ⟨rfl, hb⟩; refine ⟨_, rfl, ?_⟩; have n0_ := Aside0.mk (below_step belowA hb); clear HB; have HB := n0_; clear n0_; (try clear hb); (try clear hb2); (try clear hk); (try clear hi)) | ((with_reducible refine gate_dst (N := 4) rfl ?_); refine box_event ?hg (N := 4) ?hd (cs := #[.int .i64 0, .int .i64 0, .int .i64 0, .int .i64 0, .string (⟨#[]⟩ : ByteArray)]) (t := 24) ?hr ?_; (case hd => rfl); (case hg => rfl); (case hr => first | (go_simp; done) | (go_simp; rfl)); intro gb249 hg w9 hbox hb; have n0_ := Aside0.mk (below_step belowA hb); have n1_ := Aside0.mk (hbox); have n2_ := Aside0.mk ((by rw [hg]; exact (below_size belowA) : w.heap.size ≤ gb249)); have n3_ := Aside0.mk ((by rw [hg]; exact (below_size belowA) : w.heap.size ≤ gb249)); clear HB; have HB := n0_; have BK249 := n1_; have GW249 := n2_; have GE249 := n3_; clear n0_ n1_ n2_ n3_; clear hb hbox hg; obtain ⟨hcz10_0, hcz10_1, hcz10_2, hcz10_3, hcz10_4, hfz10_0, hfz10_1, hfz10_2, hfz10_3, hfz10_4⟩ := blk_facts5 BK249.out) | ((with_reducible refine gate_callee (f := 9) rfl ?_); refine goesL_ (some 20) rfl rfl Tryz.func9 (by kernel_rfl) rfl #[.string t242] rfl argsA ?_; (with_reducible refine (impl_OpRead.calls t242 t250 t251 t252 t253 t254 t255 _ ?side1 A5.out).mono ?_); (case side1 => exact TabOk.below HT.out belowA); rintro e w11 ⟨rfl, hb⟩; refine ⟨_, rfl, ?_⟩; have n0_ := Aside0.mk (blk_below (g := gb249) (o := .cells #[.int .i64 t243, .int .i64 t244, .int .i64 t245, .int .i64 t246, .string t247] 24 (0, 0)) (blk_put (blk_put (blk_put (blk_put (blk_put (blkC #[.int .i64 0, .int .i64 0, .int .i64 0, .int .i64 0, .string (⟨#[]⟩ : ByteArray)]) 0 _ rfl) 1 _ rfl) 2 _ rfl) 3 _ rfl) 4 _ rfl) hb); have n1_ := Aside0.mk (below_step belowA hb); clear BK249; clear HB; have BK249 := n0_; have HB := n1_; clear n0_ n1_; (try clear hb); (try clear hb2); (try clear hk); (try clear hi)) | ((with_reducible refine gate_dst (N := 6) rfl ?_); refine box_event ?hg (N := 6) ?hd (cs := #[.int .i64 0, .int .i64 0, .int .i64 0, .int .i64 0, .string (⟨#[]⟩ : ByteArray)]) (t := 24) ?hr ?_; (case hd => rfl); (case hg => rfl); (case hr => first | (go_simp; done) | (go_simp; rfl)); intro gb256 hg w12 hbox hb; have n0_ := Aside0.mk (blk_below (g := gb249) (o := .cells #[.int .i64 t243, .int .i64 t244, .int .i64 t245, .int .i64 t246, .string t247] 24 (0, 0)) blkA hb); have n1_ := Aside0.mk (below_step belowA hb); have n2_ := Aside0.mk (hbox); have n3_ := Aside0.mk ((by rw [hg]; exact (below_size belowA) : w.heap.size ≤ gb256)); have n4_ := Aside0.mk ((by rw [hg]; exact (below_size belowA) : w.heap.size ≤ gb256)); have n5_ := Aside0.mk ((by rw [hg]; exact Nat.ne_of_lt (blk_lt (g := gb249) (o := .cells #[.int .i64 t243, .int .i64 t244, .int .i64 t245, .int .i64 t246, .string t247] 24 (0, 0)) blkA) : gb249 ≠ gb256)); have n6_ := Aside0.mk ((by rw [hg]; exact Nat.ne_of_gt (blk_lt (g := gb249) (o := .cells #[.int .i64 t243, .int .i64 t244, .int .i64 t245, .int .i64 t246, .string t247] 24 (0, 0)) blkA) : gb256 ≠ gb249)); clear BK249; clear HB; have BK249 := n0_; have HB := n1_; have BK256 := n2_; have GW256 := n3_; have GE256 := n4_; have NB249_256 := n5_; have NB256_249 := n6_; clear n0_ n1_ n2_ n3_ n4_ n5_ n6_; clear hb hbox hg; have hnb13 := NB256_249.out; have hnc13 := NB249_256.out; obtain ⟨hcz14_0, hcz14_1, hcz14_2, hcz14_3, hcz14_4, hfz14_0, hfz14_1, hfz14_2, hfz14_3, hfz14_4⟩ := blk_facts5 BK256.out))
    (try simp only [Act.put, List.setIfInBounds_toArray, List.set_cons_zero, List.set_cons_succ])
    go_cut [34] (fun v34 wc => ∃ (kq : Nat) (x34_5 : Bool), v34 = .bool x34_5 ∧ Aside0 (laws_FnOpStrict.j0 kq t242 t248 t255 x34_5 t243 t244 t245 t246 t247 t250 t251 t252 t253 t254 = some r) ∧ Aside0 (kq ≤ k) ∧ Aside0 (wc.heap[gb249]? = some (.cells #[.int .i64 t243, .int .i64 t244, .int .i64 t245, .int .i64 t246, .string t247] 24 (0, 0))) ∧ Aside0 (wc.heap[gb256]? = some (.cells #[.int .i64 t250, .int .i64 t251, .int .i64 t252, .int .i64 t253, .string t254] 24 (0, 0))) ∧ Aside0 (Below w.heap.size w wc))
    case first =>
      have H := HC6.out
      clear HC6
      by_cases c15 : (t255 != t248) = true
      · rw [if_pos c15] at H
        have c15b0 : (t255 != t248) = true := c15
        (try (have c15b1 : decide (t255 = t248) = false := by simpa using c15))
        (try (have c15b2 : (t255 == t248) = false := by simpa using c15))
        (try (have c15b3 : ¬ (t255 = t248) := by simpa using c15))
        clear c15
        (first | rw [c15b0] | (simp only [i64_w, i32_w]; rw [c15b0]) | skip)
        have H' := Aside0.mk H
        clear H
        go_wp2
        go_meet
        case rel => exact ⟨_, (true), (by first | rfl | (simp; done) | (simp [*]; done)), H', ⟨by first | omega | exact Nat.le_refl _⟩, ⟨by (with_reducible repeat (first | refine blk_drewN ?_ _ | refine blk_drew ?_ | refine blk_alloc ?_ _)); refine blk_far ?_ NB249_256.out _; (with_reducible repeat (first | refine blk_drewN ?_ _ | refine blk_drew ?_ | refine blk_alloc ?_ _)); refine blk_far ?_ NB249_256.out _; (with_reducible repeat (first | refine blk_drewN ?_ _ | refine blk_drew ?_ | refine blk_alloc ?_ _)); refine blk_far ?_ NB249_256.out _; (with_reducible repeat (first | refine blk_drewN ?_ _ | refine blk_drew ?_ | refine blk_alloc ?_ _)); refine blk_far ?_ NB249_256.out _; (with_reducible repeat (first | refine blk_drewN ?_ _ | refine blk_drew ?_ | refine blk_alloc ?_ _)); refine blk_far ?_ NB249_256.out _; (with_reducible repeat (first | refine blk_drewN ?_ _ | refine blk_drew ?_ | refine blk_alloc ?_ _)); exact BK249.out⟩, ⟨by (with_reducible repeat (first | refine blk_drewN ?_ _ | refine blk_drew ?_ | refine blk_alloc ?_ _)); refine blk_put (cs := #[.int .i64 t250, .int .i64 t251, .int .i64 t252, .int .i64 t253, .string (⟨#[]⟩ : ByteArray)]) ?_ 4 _ rfl; (with_reducible repeat (first | refine blk_drewN ?_ _ | refine blk_drew ?_ | refine blk_alloc ?_ _)); refine blk_put (cs := #[.int .i64 t250, .int .i64 t251, .int .i64 t252, .int .i64 0, .string (⟨#[]⟩ : ByteArray)]) ?_ 3 _ rfl; (with_reducible repeat (first | refine blk_drewN ?_ _ | refine blk_drew ?_ | refine blk_alloc ?_ _)); refine blk_put (cs := #[.int .i64 t250, .int .i64 t251, .int .i64 0, .int .i64 0, .string (⟨#[]⟩ : ByteArray)]) ?_ 2 _ rfl; (with_reducible repeat (first | refine blk_drewN ?_ _ | refine blk_drew ?_ | refine blk_alloc ?_ _)); refine blk_put (cs := #[.int .i64 t250, .int .i64 0, .int .i64 0, .int .i64 0, .string (⟨#[]⟩ : ByteArray)]) ?_ 1 _ rfl; (with_reducible repeat (first | refine blk_drewN ?_ _ | refine blk_drew ?_ | refine blk_alloc ?_ _)); refine blk_put (cs := #[.int .i64 0, .int .i64 0, .int .i64 0, .int .i64 0, .string (⟨#[]⟩ : ByteArray)]) ?_ 0 _ rfl; (with_reducible repeat (first | refine blk_drewN ?_ _ | refine blk_drew ?_ | refine blk_alloc ?_ _)); exact BK256.out⟩, ⟨belowA⟩⟩
      · rw [if_neg c15] at H
        have c15b0 : (t255 != t248) = false := by simpa using c15
        (try (have c15b1 : decide (t255 = t248) = true := by simpa using c15))
        (try (have c15b2 : (t255 == t248) = true := by simpa using c15))
        clear c15
        (first | rw [c15b0] | (simp only [i64_w, i32_w]; rw [c15b0]) | skip)
        by_cases c16 : (!(t250 == t243) || (!(t251 == t244) || (!(t252 == t245) || (!(t253 == t246) || (!(t254.toList == t247.toList)))))) = true
        · rw [if_pos c16] at H
          have c16b0 : (!(t250 == t243) || (!(t251 == t244) || (!(t252 == t245) || (!(t253 == t246) || (!(t254.toList == t247.toList)))))) = true := c16
          clear c16
          have H' := Aside0.mk H
          clear H
          have hnb17 := NB256_249.out
          have hnc17 := NB249_256.out
          obtain ⟨hcz18_0, hcz18_1, hcz18_2, hcz18_3, hcz18_4, hfz18_0, hfz18_1, hfz18_2, hfz18_3, hfz18_4⟩ := blk_facts5 BK256.out
          obtain ⟨hcz19_0, hcz19_1, hcz19_2, hcz19_3, hcz19_4, hfz19_0, hfz19_1, hfz19_2, hfz19_3, hfz19_4⟩ := blk_facts5 BK249.out
          go_wp2
          go_meet
          case rel => exact ⟨_, (true), (by first | rfl | (simp; done) | (simp [*]; done)), H', ⟨by first | omega | exact Nat.le_refl _⟩, ⟨by (with_reducible repeat (first | refine blk_drewN ?_ _ | refine blk_drew ?_ | refine blk_alloc ?_ _)); refine blk_far ?_ NB249_256.out _; (with_reducible repeat (first | refine blk_drewN ?_ _ | refine blk_drew ?_ | refine blk_alloc ?_ _)); refine blk_far ?_ NB249_256.out _; (with_reducible repeat (first | refine blk_drewN ?_ _ | refine blk_drew ?_ | refine blk_alloc ?_ _)); refine blk_far ?_ NB249_256.out _; (with_reducible repeat (first | refine blk_drewN ?_ _ | refine blk_drew ?_ | refine blk_alloc ?_ _)); refine blk_far ?_ NB249_256.out _; (with_reducible repeat (first | refine blk_drewN ?_ _ | refine blk_drew ?_ | refine blk_alloc ?_ _)); refine blk_far ?_ NB249_256.out _; (with_reducible repeat (first | refine blk_drewN ?_ _ | refine blk_drew ?_ | refine blk_alloc ?_ _)); exact BK249.out⟩, ⟨by (with_reducible repeat (first | refine blk_drewN ?_ _ | refine blk_drew ?_ | refine blk_alloc ?_ _)); refine blk_put (cs := #[.int .i64 t250, .int .i64 t251, .int .i64 t252, .int .i64 t253, .string (⟨#[]⟩ : ByteArray)]) ?_ 4 _ rfl; (with_reducible repeat (first | refine blk_drewN ?_ _ | refine blk_drew ?_ | refine blk_alloc ?_ _)); refine blk_put (cs := #[.int .i64 t250, .int .i64 t251, .int .i64 t252, .int .i64 0, .string (⟨#[]⟩ : ByteArray)]) ?_ 3 _ rfl; (with_reducible repeat (first | refine blk_drewN ?_ _ | refine blk_drew ?_ | refine blk_alloc ?_ _)); refine blk_put (cs := #[.int .i64 t250, .int .i64 t251, .int .i64 0, .int .i64 0, .string (⟨#[]⟩ : ByteArray)]) ?_ 2 _ rfl; (with_reducible repeat (first | refine blk_drewN ?_ _ | refine blk_drew ?_ | refine blk_alloc ?_ _)); refine blk_put (cs := #[.int .i64 t250, .int .i64 0, .int .i64 0, .int .i64 0, .string (⟨#[]⟩ : ByteArray)]) ?_ 1 _ rfl; (with_reducible repeat (first | refine blk_drewN ?_ _ | refine blk_drew ?_ | refine blk_alloc ?_ _)); refine blk_put (cs := #[.int .i64 0, .int .i64 0, .int .i64 0, .int .i64 0, .string (⟨#[]⟩ : ByteArray)]) ?_ 0 _ rfl; (with_reducible repeat (first | refine blk_drewN ?_ _ | refine blk_drew ?_ | refine blk_alloc ?_ _)); exact BK256.out⟩, ⟨belowA⟩⟩
        · rw [if_neg c16] at H
          have c16b0 : (!(t250 == t243) || (!(t251 == t244) || (!(t252 == t245) || (!(t253 == t246) || (!(t254.toList == t247.toList)))))) = false := by simpa using c16
          clear c16
          have H' := Aside0.mk H
          clear H
          have hnb20 := NB256_249.out
          have hnc20 := NB249_256.out
          obtain ⟨hcz21_0, hcz21_1, hcz21_2, hcz21_3, hcz21_4, hfz21_0, hfz21_1, hfz21_2, hfz21_3, hfz21_4⟩ := blk_facts5 BK256.out
          obtain ⟨hcz22_0, hcz22_1, hcz22_2, hcz22_3, hcz22_4, hfz22_0, hfz22_1, hfz22_2, hfz22_3, hfz22_4⟩ := blk_facts5 BK249.out
          go_wp2
          go_meet
          case rel => exact ⟨_, (!t255), (by first | rfl | (simp; done) | (simp [*]; done)), H', ⟨by first | omega | exact Nat.le_refl _⟩, ⟨by (with_reducible repeat (first | refine blk_drewN ?_ _ | refine blk_drew ?_ | refine blk_alloc ?_ _)); refine blk_far ?_ NB249_256.out _; (with_reducible repeat (first | refine blk_drewN ?_ _ | refine blk_drew ?_ | refine blk_alloc ?_ _)); refine blk_far ?_ NB249_256.out _; (with_reducible repeat (first | refine blk_drewN ?_ _ | refine blk_drew ?_ | refine blk_alloc ?_ _)); refine blk_far ?_ NB249_256.out _; (with_reducible repeat (first | refine blk_drewN ?_ _ | refine blk_drew ?_ | refine blk_alloc ?_ _)); refine blk_far ?_ NB249_256.out _; (with_reducible repeat (first | refine blk_drewN ?_ _ | refine blk_drew ?_ | refine blk_alloc ?_ _)); refine blk_far ?_ NB249_256.out _; (with_reducible repeat (first | refine blk_drewN ?_ _ | refine blk_drew ?_ | refine blk_alloc ?_ _)); exact BK249.out⟩, ⟨by (with_reducible repeat (first | refine blk_drewN ?_ _ | refine blk_drew ?_ | refine blk_alloc ?_ _)); refine blk_put (cs := #[.int .i64 t250, .int .i64 t251, .int .i64 t252, .int .i64 t253, .string (⟨#[]⟩ : ByteArray)]) ?_ 4 _ rfl; (with_reducible repeat (first | refine blk_drewN ?_ _ | refine blk_drew ?_ | refine blk_alloc ?_ _)); refine blk_put (cs := #[.int .i64 t250, .int .i64 t251, .int .i64 t252, .int .i64 0, .string (⟨#[]⟩ : ByteArray)]) ?_ 3 _ rfl; (with_reducible repeat (first | refine blk_drewN ?_ _ | refine blk_drew ?_ | refine blk_alloc ?_ _)); refine blk_put (cs := #[.int .i64 t250, .int .i64 t251, .int .i64 0, .int .i64 0, .string (⟨#[]⟩ : ByteArray)]) ?_ 2 _ rfl; (with_reducible repeat (first | refine blk_drewN ?_ _ | refine blk_drew ?_ | refine blk_alloc ?_ _)); refine blk_put (cs := #[.int .i64 t250, .int .i64 0, .int .i64 0, .int .i64 0, .string (⟨#[]⟩ : ByteArray)]) ?_ 1 _ rfl; (with_reducible repeat (first | refine blk_drewN ?_ _ | refine blk_drew ?_ | refine blk_alloc ?_ _)); refine blk_put (cs := #[.int .i64 0, .int .i64 0, .int .i64 0, .int .i64 0, .string (⟨#[]⟩ : ByteArray)]) ?_ 0 _ rfl; (with_reducible repeat (first | refine blk_drewN ?_ _ | refine blk_drew ?_ | refine blk_alloc ?_ _)); exact BK256.out⟩, ⟨belowA⟩⟩
    case rest =>
      clear HC6
      try clear c1
      try clear c2
      try clear c2b0
      try clear c2b1
      try clear p2
      try clear c4
      try clear c9
      try clear c11
      try clear c12
      try clear c13
      try clear c15
      try clear c15b0
      try clear c15b1
      try clear c15b2
      try clear c16
      try clear c16b0
      try clear c17
      try clear c20
      try clear hcz10_0 hcz10_1 hcz10_2 hcz10_3 hcz10_4
      try clear hcz14_0 hcz14_1 hcz14_2 hcz14_3 hcz14_4
      try clear hcz18_0 hcz18_1 hcz18_2 hcz18_3 hcz18_4
      try clear hcz19_0 hcz19_1 hcz19_2 hcz19_3 hcz19_4
      try clear hcz21_0 hcz21_1 hcz21_2 hcz21_3 hcz21_4
      try clear hcz22_0 hcz22_1 hcz22_2 hcz22_3 hcz22_4
      try clear hfz10_0 hfz10_1 hfz10_2 hfz10_3 hfz10_4
      try clear hfz14_0 hfz14_1 hfz14_2 hfz14_3 hfz14_4
      try clear hfz18_0 hfz18_1 hfz18_2 hfz18_3 hfz18_4
      try clear hfz19_0 hfz19_1 hfz19_2 hfz19_3 hfz19_4
      try clear hfz21_0 hfz21_1 hfz21_2 hfz21_3 hfz21_4
      try clear hfz22_0 hfz22_1 hfz22_2 hfz22_3 hfz22_4
      obtain ⟨kq, x34_5, rfl, HA, HJ5, BK249, BK256, HB⟩ := hcut
      cases kq with
      | zero => exact absurd HA.out (by simp [laws_FnOpStrict.j0])
      | succ kj5 =>
        have H := HA.out
        clear HA
        simp only [laws_FnOpStrict.j0] at H
        by_cases c23 : x34_5 = true
        · subst c23
          have H1 : (if (t255 == t248) = true then (some (t250 == t243 && (t251 == t244 && (t252 == t245 && (t253 == t246 && (t254.toList == t247.toList)))))) else (some false)) = some r := by rw [if_pos rfl] at H; exact H
          clear H
          have H := H1
          clear H1
          by_cases c24 : (t255 == t248) = true
          · rw [if_pos c24] at H
            have c24b0 : (t255 == t248) = true := c24
            (try (have c24b1 : decide (t255 = t248) = true := by simpa using c24))
            (try (have c24b2 : (t255 == t248) = true := by simpa using c24))
            clear c24
            obtain rfl := Option.some.inj H
            have hnb25 := NB256_249.out
            have hnc25 := NB249_256.out
            obtain ⟨hcz26_0, hcz26_1, hcz26_2, hcz26_3, hcz26_4, hfz26_0, hfz26_1, hfz26_2, hfz26_3, hfz26_4⟩ := blk_facts5 BK256.out
            obtain ⟨hcz27_0, hcz27_1, hcz27_2, hcz27_3, hcz27_4, hfz27_0, hfz27_1, hfz27_2, hfz27_3, hfz27_4⟩ := blk_facts5 BK249.out
            go_wp2
            go_ret
            exact ⟨endA, belowA⟩
          · rw [if_neg c24] at H
            have c24b0 : (t255 == t248) = false := by simpa using c24
            (try (have c24b1 : decide (t255 = t248) = false := by simpa using c24))
            (try (have c24b2 : (t255 == t248) = false := by simpa using c24))
            (try (have c24b3 : ¬ (t255 = t248) := by simpa using c24))
            clear c24
            obtain rfl := Option.some.inj H
            go_wp2
            go_ret
            exact ⟨endA, belowA⟩
        · replace c23 := Bool.eq_false_iff.mpr c23
          subst c23
          have H1 : ((impl_OpOk.f t250 t251 t252 t253 t254).bind fun t257 => (if t257 = true then ((impl_OpShow.f t250 t251 t252 t253 t254).bind fun t258 => (some (t258.toList == t242.toList))) else (some false))) = some r := by rw [if_neg (show ¬ (false = true) by decide)] at H; exact H
          clear H
          have H := H1
          clear H1
          replace H := Option.bind_eq_some_iff.mp H
          obtain ⟨t257, A280, H⟩ := H
          (try dsimp only at H)
          have A28 := Aside0.mk A280
          clear A280
          by_cases c29 : t257 = true
          · subst c29
            have H1 : ((impl_OpShow.f t250 t251 t252 t253 t254).bind fun t258 => (some (t258.toList == t242.toList))) = some r := by rw [if_pos rfl] at H; exact H
            clear H
            have H := H1
            clear H1
            replace H := Option.bind_eq_some_iff.mp H
            obtain ⟨t258, A300, H⟩ := H
            (try dsimp only at H)
            have A30 := Aside0.mk A300
            clear A300
            obtain rfl := Option.some.inj H
            have hnb31 := NB256_249.out
            have hnc31 := NB249_256.out
            obtain ⟨hcz32_0, hcz32_1, hcz32_2, hcz32_3, hcz32_4, hfz32_0, hfz32_1, hfz32_2, hfz32_3, hfz32_4⟩ := blk_facts5 BK256.out
            go_wp2_with (first | ((with_reducible refine gate_callee (f := 10) rfl ?_); refine goesL_ (some 44) rfl rfl Tryz.func10 (by kernel_rfl) rfl #[.agg #[.int .i64 t250, .int .i64 t251, .int .i64 t252, .int .i64 t253, .string t254]] rfl argsA ?_; (with_reducible refine (impl_OpOk.calls t250 t251 t252 t253 t254 true _ ?side1 A28.out).mono ?_); (case side1 => exact TabOk.below HT.out belowA); rintro e w33 ⟨rfl, hb⟩; refine ⟨_, rfl, ?_⟩; have n0_ := Aside0.mk (blk_below (g := gb249) (o := .cells #[.int .i64 t243, .int .i64 t244, .int .i64 t245, .int .i64 t246, .string t247] 24 (0, 0)) blkA hb); have n1_ := Aside0.mk (blk_below (g := gb256) (o := .cells #[.int .i64 t250, .int .i64 t251, .int .i64 t252, .int .i64 t253, .string t254] 24 (0, 0)) blkA hb); have n2_ := Aside0.mk (below_step belowA hb); clear BK249; clear BK256; clear HB; have BK249 := n0_; have BK256 := n1_; have HB := n2_; clear n0_ n1_ n2_; (try clear hb); (try clear hb2); (try clear hk); (try clear hi); obtain ⟨hcz34_0, hcz34_1, hcz34_2, hcz34_3, hcz34_4, hfz34_0, hfz34_1, hfz34_2, hfz34_3, hfz34_4⟩ := blk_facts5 BK256.out) | (go_at_call 7; (with_reducible refine (impl_OpShow.calls t250 t251 t252 t253 t254 t258 _ ?side1 A30.out).mono ?_); (case side1 => exact TabOk.below HT.out belowA); rintro e w35 ⟨rfl, hb⟩; have n0_ := Aside0.mk (blk_below (g := gb249) (o := .cells #[.int .i64 t243, .int .i64 t244, .int .i64 t245, .int .i64 t246, .string t247] 24 (0, 0)) blkA hb); have n1_ := Aside0.mk (blk_below (g := gb256) (o := .cells #[.int .i64 t250, .int .i64 t251, .int .i64 t252, .int .i64 t253, .string t254] 24 (0, 0)) blkA hb); have n2_ := Aside0.mk (below_step belowA hb); clear BK249; clear BK256; clear HB; have BK249 := n0_; have BK256 := n1_; have HB := n2_; clear n0_ n1_ n2_; (try clear hb); (try clear hb2); (try clear hk); (try clear hi)))
            go_ret
            exact ⟨endA, belowA⟩
          · replace c29 := Bool.eq_false_iff.mpr c29
            subst c29
            have H1 : (some false) = some r := by rw [if_neg (show ¬ (false = true) by decide)] at H; exact H
            clear H
            have H := H1
            clear H1
            obtain rfl := Option.some.inj H
            have hnb36 := NB256_249.out
            have hnc36 := NB249_256.out
            obtain ⟨hcz37_0, hcz37_1, hcz37_2, hcz37_3, hcz37_4, hfz37_0, hfz37_1, hfz37_2, hfz37_3, hfz37_4⟩ := blk_facts5 BK256.out
            go_wp2_with (first | ((with_reducible refine gate_callee (f := 10) rfl ?_); refine goesL_ (some 44) rfl rfl Tryz.func10 (by kernel_rfl) rfl #[.agg #[.int .i64 t250, .int .i64 t251, .int .i64 t252, .int .i64 t253, .string t254]] rfl argsA ?_; (with_reducible refine (impl_OpOk.calls t250 t251 t252 t253 t254 false _ ?side1 A28.out).mono ?_); (case side1 => exact TabOk.below HT.out belowA); rintro e w38 ⟨rfl, hb⟩; refine ⟨_, rfl, ?_⟩; have n0_ := Aside0.mk (blk_below (g := gb249) (o := .cells #[.int .i64 t243, .int .i64 t244, .int .i64 t245, .int .i64 t246, .string t247] 24 (0, 0)) blkA hb); have n1_ := Aside0.mk (blk_below (g := gb256) (o := .cells #[.int .i64 t250, .int .i64 t251, .int .i64 t252, .int .i64 t253, .string t254] 24 (0, 0)) blkA hb); have n2_ := Aside0.mk (below_step belowA hb); clear BK249; clear BK256; clear HB; have BK249 := n0_; have BK256 := n1_; have HB := n2_; clear n0_ n1_ n2_; (try clear hb); (try clear hb2); (try clear hk); (try clear hi)))
            go_ret
            exact ⟨endA, belowA⟩
def laws_FnOpStrict.Pure : Prop := ∀ (l0 : List Int), (l0.length * 1 ≤ 140737488351232) → (∀ x_ ∈ l0, (Lit.int .u8 x_).wf = true) → ∃ k, laws_FnOpStrict.f k l0 = some true
theorem laws_FnOpStrict.walk (P : laws_FnOpStrict.Pure) (A0 : Option Addr) (c0 : Nat) (l0 : List Int) (w : World) (hr0 : Kd.C (Kd.int .u8) w A0 l0.length l0) (hc0 : l0.length ≤ c0) (ht : TabOk w) (w0_0 : l0.length * 1 ≤ 140737488351232) (w0_1 : ∀ x_ ∈ l0, (Lit.int .u8 x_).wf = true) :
    Calls Tryz.prog 4 #[.slice A0 l0.length c0] w fun e w' => e = .returned (.bool true) ∧ Below w.heap.size w w' := by
  obtain ⟨k, h⟩ := P l0 w0_0 w0_1
  refine (laws_FnOpStrict.calls k A0 c0 l0 true w hr0 hc0 ht h).mono ?_
  rintro e w' ⟨rfl, hd⟩
  exact ⟨rfl, hd⟩

end Go.Proofs.YtkoodlmedgfdjaaGreatDoor.P
