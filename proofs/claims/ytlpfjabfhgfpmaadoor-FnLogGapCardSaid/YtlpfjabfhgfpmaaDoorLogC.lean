/- The program's LogOk and LogSeq by a walk: they count each maker's entries in a map, where the table rowOwners lies as the program's text lays it. Condition: entries as memory can hold them. -/
import Derived.Test.YtlpfjabfhgfpmaaDoorPx0
import Derived.Test.YtlpfjabfhgfpmaaDoorTallyC
import Derived.Test.YtlpfjabfhgfpmaaDoorLogM
import Derived.Test.YtlpfjabfhgfpmaaDoorPlainEntry
import Derived.Test.YtlpfjabfhgfpmaaDoorZ
import Derived.Test.YtlpfjabfhgfpmaaDoorV
import Derived.Test.YtlpfjabfhgfpmaaDoorEx1
import Derived.Deep.LoopGhost
import Derived.Deep.DeepCutAuto
import Derived.Deep.CutBlock
import Derived.Deep.RegionHeld3
namespace Go.Proofs.YtlpfjabfhgfpmaaDoor
open Go.RowKit Go.Maps Go.Proofs.YtlpfjabfhgfpmaaDoorW.PrintWords Go.Proofs.YtlpfjabfhgfpmaaDoorW.PrintLast Go.Proofs.YtlpfjabfhgfpmaaDoorW.PrintMore Go.Proofs.YtlpfjabfhgfpmaaDoor.P
set_option linter.unusedVariables false
set_option linter.unusedSimpArgs false
theorem e_entryOk (who seq kind id up at_ : Int) (s : ByteArray) : E.impl_EntryOk.f who seq kind id up at_ s = some (entryB who seq kind id up at_ s) := by
 unfold E.impl_EntryOk.f E.impl_whoOk.f E.impl_OpOk.f E.impl_RowWho.f entryB
 by_cases hw : 1 ≤ who ∧ who ≤ 3
 ·rw [if_pos (by omega), decide_eq_true (show who ≤ 3 by omega), decide_eq_true hw]
  simp only [Option.bind_some, if_true, Bool.true_and]
  by_cases hq : 1 ≤ seq ∧ seq ≤ 40
  ·rw [if_neg (by omega), if_neg (by omega), decide_eq_true hq, Bool.true_and]
   cases ho : opB kind id up at_ s with
   | false => rfl
   | true =>
    rw [if_pos rfl, Bool.true_and]
    by_cases hk : kind = 1
    ·have hm := opB_made ho
     have hm2 := madeB_iff.1 hm
     have e : rowWho id = (id / 10, true) := by unfold rowWho; rw [if_neg (by rw [rootB_iff]; omega), if_pos hm]
     rw [if_pos hk, e, decide_eq_false (by omega), Bool.false_or]; rfl
    ·rw [if_neg hk, decide_eq_true hk, Bool.true_or]
  ·by_cases h1 : seq < 1
   ·rw [if_pos h1, decide_eq_false hq, Bool.false_and]
   ·rw [if_neg h1, if_pos (by omega), decide_eq_false hq, Bool.false_and]
 ·rw [decide_eq_false hw, Bool.false_and, Bool.false_and]
  by_cases h1 : who ≥ 1
  ·rw [if_pos h1, decide_eq_false (show ¬ who ≤ 3 by omega)]; rfl
  ·rw [if_neg h1]; rfl
theorem entryOk_b (who seq kind id up at_ : Int) (s : ByteArray) (w : World) (ht : TabOk w) :
  Calls Tryd.prog 13 #[.agg #[.int .i64 who, .int .i64 seq, .int .i64 kind, .int .i64 id, .int .i64 up, .int .i64 at_, .string s]] w fun e w' => e = .returned (.bool (entryB who seq kind id up at_ s)) ∧ Below w.heap.size w w' :=
 E.impl_EntryOk.calls who seq kind id up at_ s _ w ht (e_entryOk who seq kind id up at_ s)
def entB (x : P.S26) : Bool := entryB x.f0 x.f1 x.f2.f0 x.f2.f1 x.f2.f2 x.f2.f3 x.f2.f4
abbrev whoOf (x : P.S26) : Int := x.f0
abbrev seqOf (x : P.S26) : Int := x.f1
abbrev lokE (l : List P.S26) (seen : List Int) : Bool := LogM.lok entB whoOf seqOf l seen
def logB (l : List P.S26) : Bool := decide (l.length ≤ 40) && lokE l []
def logSeq (l : List P.S26) (who : Int) : Int := if logB l = true then ((l.map whoOf).count who : Int) else -1
theorem entB_bounds {x : P.S26} (h : entB x = true) : (1 ≤ x.f0 ∧ x.f0 ≤ 3) ∧ 1 ≤ x.f1 ∧ x.f1 ≤ 40 := by
 unfold entB entryB at h
 simp only [Bool.and_eq_true, decide_eq_true_eq] at h
 exact ⟨h.1.1, h.1.2⟩
def EBox (g : Nat) (a b c d e f : Int) (s : ByteArray) (W : World) : Prop := W.heap[g]? = some (.cells #[.int .i64 a, .int .i64 b, .int .i64 c, .int .i64 d, .int .i64 e, .int .i64 f, .string s] 26 (0, 0))
def ECells (g : Nat) (a b c d e f : Int) (s : ByteArray) (W : World) : Prop := W.cell? ⟨g, 0, none⟩ = some (.int .i64 a) ∧ W.cell? ⟨g, 1, none⟩ = some (.int .i64 b) ∧ W.cell? ⟨g, 2, none⟩ = some (.int .i64 c) ∧ W.cell? ⟨g, 3, none⟩ = some (.int .i64 d) ∧ W.cell? ⟨g, 4, none⟩ = some (.int .i64 e) ∧ W.cell? ⟨g, 5, none⟩ = some (.int .i64 f) ∧ W.cell? ⟨g, 6, none⟩ = some (.string s)
theorem EBox.cells {g : Nat} {a b c d e f : Int} {s : ByteArray} {W : World} (h : EBox g a b c d e f s W) : W.cell? ⟨g, 0, none⟩ = some (.int .i64 a) ∧ W.cell? ⟨g, 1, none⟩ = some (.int .i64 b) ∧ W.cell? ⟨g, 2, none⟩ = some (.int .i64 c) ∧ W.cell? ⟨g, 3, none⟩ = some (.int .i64 d) ∧ W.cell? ⟨g, 4, none⟩ = some (.int .i64 e) ∧ W.cell? ⟨g, 5, none⟩ = some (.int .i64 f) ∧ W.cell? ⟨g, 6, none⟩ = some (.string s) := by
 obtain ⟨h0, h1, h2, h3, h4, h5, h6, _⟩ := blk_facts7 h
 exact ⟨h0, h1, h2, h3, h4, h5, h6⟩
theorem entry_boxed {w wr w4 : World} {seen : List Int} {gb mb : Nat} (hB : Below w.heap.size w wr) (hX : TallyAt mb seen wr) (hb : Below wr.heap.size wr w4) {z0 z1 z2 z3 z4 z5 z6 : Value} (hbox : w4.heap[gb]? = some (.cells #[z0, z1, z2, z3, z4, z5, z6] 26 (0, 0))) (hg : gb = wr.heap.size) (a b c d e f : Int) (s : ByteArray) :
  EBox gb a b c d e f s (((((((w4.setCell ⟨gb, 0, none⟩ (.int .i64 a)).setCell ⟨gb, 1, none⟩ (.int .i64 b)).setCell ⟨gb, 2, none⟩ (.int .i64 c)).setCell ⟨gb, 3, none⟩ (.int .i64 d)).setCell ⟨gb, 4, none⟩ (.int .i64 e)).setCell ⟨gb, 5, none⟩ (.int .i64 f)).setCell ⟨gb, 6, none⟩ (.string s)) ∧ TallyAt mb seen (((((((w4.setCell ⟨gb, 0, none⟩ (.int .i64 a)).setCell ⟨gb, 1, none⟩ (.int .i64 b)).setCell ⟨gb, 2, none⟩ (.int .i64 c)).setCell ⟨gb, 3, none⟩ (.int .i64 d)).setCell ⟨gb, 4, none⟩ (.int .i64 e)).setCell ⟨gb, 5, none⟩ (.int .i64 f)).setCell ⟨gb, 6, none⟩ (.string s)) ∧ Below w.heap.size w (((((((w4.setCell ⟨gb, 0, none⟩ (.int .i64 a)).setCell ⟨gb, 1, none⟩ (.int .i64 b)).setCell ⟨gb, 2, none⟩ (.int .i64 c)).setCell ⟨gb, 3, none⟩ (.int .i64 d)).setCell ⟨gb, 4, none⟩ (.int .i64 e)).setCell ⟨gb, 5, none⟩ (.int .i64 f)).setCell ⟨gb, 6, none⟩ (.string s)) := by
 have hl := hX.lt
 have hne : mb ≠ gb := by omega
 have k0 : (w4.setCell ⟨gb, 0, none⟩ (.int .i64 a)).heap[gb]? = some (.cells #[.int .i64 a, z1, z2, z3, z4, z5, z6] 26 (0, 0)) := blk_put hbox 0 _ rfl
 have k1 : ((w4.setCell ⟨gb, 0, none⟩ (.int .i64 a)).setCell ⟨gb, 1, none⟩ (.int .i64 b)).heap[gb]? = some (.cells #[.int .i64 a, .int .i64 b, z2, z3, z4, z5, z6] 26 (0, 0)) := blk_put k0 1 _ rfl
 have k2 : (((w4.setCell ⟨gb, 0, none⟩ (.int .i64 a)).setCell ⟨gb, 1, none⟩ (.int .i64 b)).setCell ⟨gb, 2, none⟩ (.int .i64 c)).heap[gb]? = some (.cells #[.int .i64 a, .int .i64 b, .int .i64 c, z3, z4, z5, z6] 26 (0, 0)) := blk_put k1 2 _ rfl
 have k3 : ((((w4.setCell ⟨gb, 0, none⟩ (.int .i64 a)).setCell ⟨gb, 1, none⟩ (.int .i64 b)).setCell ⟨gb, 2, none⟩ (.int .i64 c)).setCell ⟨gb, 3, none⟩ (.int .i64 d)).heap[gb]? = some (.cells #[.int .i64 a, .int .i64 b, .int .i64 c, .int .i64 d, z4, z5, z6] 26 (0, 0)) := blk_put k2 3 _ rfl
 have k4 : (((((w4.setCell ⟨gb, 0, none⟩ (.int .i64 a)).setCell ⟨gb, 1, none⟩ (.int .i64 b)).setCell ⟨gb, 2, none⟩ (.int .i64 c)).setCell ⟨gb, 3, none⟩ (.int .i64 d)).setCell ⟨gb, 4, none⟩ (.int .i64 e)).heap[gb]? = some (.cells #[.int .i64 a, .int .i64 b, .int .i64 c, .int .i64 d, .int .i64 e, z5, z6] 26 (0, 0)) := blk_put k3 4 _ rfl
 have k5 : ((((((w4.setCell ⟨gb, 0, none⟩ (.int .i64 a)).setCell ⟨gb, 1, none⟩ (.int .i64 b)).setCell ⟨gb, 2, none⟩ (.int .i64 c)).setCell ⟨gb, 3, none⟩ (.int .i64 d)).setCell ⟨gb, 4, none⟩ (.int .i64 e)).setCell ⟨gb, 5, none⟩ (.int .i64 f)).heap[gb]? = some (.cells #[.int .i64 a, .int .i64 b, .int .i64 c, .int .i64 d, .int .i64 e, .int .i64 f, z6] 26 (0, 0)) := blk_put k4 5 _ rfl
 have k6 : (((((((w4.setCell ⟨gb, 0, none⟩ (.int .i64 a)).setCell ⟨gb, 1, none⟩ (.int .i64 b)).setCell ⟨gb, 2, none⟩ (.int .i64 c)).setCell ⟨gb, 3, none⟩ (.int .i64 d)).setCell ⟨gb, 4, none⟩ (.int .i64 e)).setCell ⟨gb, 5, none⟩ (.int .i64 f)).setCell ⟨gb, 6, none⟩ (.string s)).heap[gb]? = some (.cells #[.int .i64 a, .int .i64 b, .int .i64 c, .int .i64 d, .int .i64 e, .int .i64 f, .string s] 26 (0, 0)) := blk_put k5 6 _ rfl
 refine ⟨k6, (((((((hX.below hb).far (a := ⟨gb, 0, none⟩) hne _).far (a := ⟨gb, 1, none⟩) hne _).far (a := ⟨gb, 2, none⟩) hne _).far (a := ⟨gb, 3, none⟩) hne _).far (a := ⟨gb, 4, none⟩) hne _).far (a := ⟨gb, 5, none⟩) hne _).far (a := ⟨gb, 6, none⟩) hne _, ?_⟩
 have ge : w.heap.size ≤ gb := by rw [hg]; exact hB.size
 have b0 := below_step hB hb
 iterate 7 refine below_set ?_ ge
 exact b0
theorem below_map {w W W' : World} {mb : Nat} (hB : Below w.heap.size w W) (hg : W.grownBy W' (some mb)) (hm : w.heap.size ≤ mb) : Below w.heap.size w W' :=
 hB.grown hg hB.size (fun k hk => by cases hk; exact hm)
set_option maxHeartbeats 4000000 in
set_option maxRecDepth 100000 in
theorem logOk_calls (A0 : Option Addr) (c0 : Nat) (l0 : List P.S26) (w : World) (hr0 : Kd.C P.k26 w A0 l0.length l0) (hc0 : l0.length ≤ c0) (ht : TabOk w) :
  Calls Tryd.prog 18 #[.slice A0 l0.length c0] w fun e w' => e = .returned (.bool (logB l0)) ∧ Below w.heap.size w w' := by
 have hu26 := Tryd.underlying26
 have hmm := @run_makeMap Tryd.prog
 have HR0 := Aside0.mk hr0
 have HT := Aside0.mk ht
 clear hr0 ht
 by_cases hlen : l0.length ≤ 40
 case neg =>
  have c1 : decide (40 < (l0.length : Int)) = true := decide_eq_true (by omega)
  have c2 : decide (40 < l0.length) = true := decide_eq_true (by omega)
  go_enter Tryd.func18, Tryd.ntmps18
  go_wp2
  go_ret
  exact ⟨by unfold logB; rw [decide_eq_false hlen, Bool.false_and]; rfl, Below.refl _ _⟩
 have hlog : logB l0 = lokE l0 [] := by unfold logB; rw [decide_eq_true hlen, Bool.true_and]
 rw [hlog]
 have c0' : decide (40 < (l0.length : Int)) = false := decide_eq_false (by omega)
 have c0n : decide (40 < l0.length) = false := decide_eq_false (by omega)
 go_enter Tryd.func18, Tryd.ntmps18
 go_wp2
 go_loopg [12] (l0.length + 1) (fun kq v12 w' => ∃ (i : Nat), v12 = .int .i64 (i : Int) ∧ Aside0 (i ≤ l0.length) ∧ Aside0 (kq = l0.length - i + 1) ∧ Aside0 (lokE (l0.drop i) ((l0.take i).map whoOf) = lokE l0 []) ∧ Aside0 (TallyAt w.heap.size ((l0.take i).map whoOf) w') ∧ Aside0 (Below w.heap.size w w'))
 case atStart => exact ⟨0, rfl, ⟨Nat.zero_le _⟩, ⟨rfl⟩, ⟨rfl⟩, ⟨tally_made w⟩, ⟨below_alloc (Below.refl _ _) _⟩⟩
 case round =>
  obtain ⟨i, rfl, HI, HQ, HA, HX, HB⟩ := hrel
  obtain ⟨sn, hsn⟩ : ∃ s, s = (l0.take i).map whoOf := ⟨_, rfl⟩
  have hq : sn.length ≤ 1000000 := by rw [hsn]; simp; omega
  rw [← hsn] at HA HX
  replace hsn := Aside0.mk hsn
  by_cases hi : i < l0.length
  ·have c1 : decide ((i : Int) < (l0.length : Int)) = true := decide_eq_true (by omega)
   obtain ⟨ad, e1, h0, h1, h2, h3, h4, h5, h6⟩ := at_T26 HR0.out (i : Int) (by omega) (by omega)
   cases e1
   replace h0 := pw_cell_below HB.out h0
   replace h1 := pw_cell_below HB.out h1
   replace h2 := pw_cell_below HB.out h2
   replace h3 := pw_cell_below HB.out h3
   replace h4 := pw_cell_below HB.out h4
   replace h5 := pw_cell_below HB.out h5
   replace h6 := pw_cell_below HB.out h6
   have hx : rd_T26 l0 (i : Int) = l0[i] := by simp [rd_T26, hi]
   obtain ⟨who, seq, kind, id, up, at_, tx, hid⟩ : ∃ a b c d e f g, l0[i] = ⟨a, b, ⟨c, d, e, f, g⟩⟩ := ⟨_, _, _, _, _, _, _, rfl⟩
   rw [hx, hid] at h0 h1 h2 h3 h4 h5 h6
   dsimp only at h0 h1 h2 h3 h4 h5 h6
   simp only [Int.toNat_natCast] at h0 h1 h2 h3 h4 h5 h6
   have HA2 := HA.out
   rw [List.drop_eq_getElem_cons hi, hid] at HA2
   simp only [lokE, LogM.lok, entB, whoOf, seqOf] at HA2
   have p1 : (0 ≤ (i : Int)) = True := eq_true (by omega)
   have p2 : ((i : Int) < (l0.length : Int)) = True := eq_true (by omega)
   go_upto_region 7 with (((with_reducible refine gate_dst (N := 5) rfl ?_); refine box_event ?hg (N := 5) ?hd (cs := #[.int .i64 0, .int .i64 0, .int .i64 0, .int .i64 0, .int .i64 0, .int .i64 0, .string ⟨#[]⟩]) (t := 26) ?hr ?_; (case hd => rfl); (case hg => rfl); (case hr => first | (go_simp; done) | (go_simp; rfl)); intro gb hg w4 hbox hbl; have n1 := Aside0.mk (entry_boxed HB.out HX.out hbl hbox hg who seq kind id up at_ tx); obtain ⟨hz0, hz1, hz2, hz3, hz4, hz5, hz6, hy0, hy1, hy2, hy3, hy4, hy5, hy6⟩ := blk_facts7 hbox; have n2 := Aside0.mk (show w.heap.size < gb by rw [hg]; exact HX.out.lt); clear hbl hbox hg))
   obtain ⟨W1, hW1⟩ : ∃ W1, W1 = (((((((w4.setCell ⟨gb, 0, none⟩ (.int .i64 who)).setCell ⟨gb, 1, none⟩ (.int .i64 seq)).setCell ⟨gb, 2, none⟩ (.int .i64 kind)).setCell ⟨gb, 3, none⟩ (.int .i64 id)).setCell ⟨gb, 4, none⟩ (.int .i64 up)).setCell ⟨gb, 5, none⟩ (.int .i64 at_)).setCell ⟨gb, 6, none⟩ (.string tx)) := ⟨_, rfl⟩
   rw [← hW1] at n1 ⊢
   obtain ⟨HK1, HX1, HB1⟩ := n1.out
   replace HK1 := Aside0.mk HK1
   replace HX1 := Aside0.mk HX1
   replace HB1 := Aside0.mk HB1
   clear hz0 hz1 hz2 hz3 hz4 hz5 hz6 hy0 hy1 hy2 hy3 hy4 hy5 hy6 n1 hW1 HX HB h0 h1 h2 h3 h4 h5 h6 hx
   obtain ⟨hz0, hz1, hz2, hz3, hz4, hz5, hz6⟩ := HK1.out.cells
   cases hb : entryB who seq kind id up at_ tx with
   | false =>
    rw [hb, Bool.false_and] at HA2
    replace HA2 := Aside0.mk HA2
    refine start_ (n := 12) (S := fun w' => w'.cell? ⟨gb, 0, none⟩ = some (.int .i64 who) ∧ w'.cell? ⟨gb, 1, none⟩ = some (.int .i64 seq) ∧ w'.cell? ⟨gb, 2, none⟩ = some (.int .i64 kind) ∧ w'.cell? ⟨gb, 3, none⟩ = some (.int .i64 id) ∧ w'.cell? ⟨gb, 4, none⟩ = some (.int .i64 up) ∧ w'.cell? ⟨gb, 5, none⟩ = some (.int .i64 at_) ∧ w'.cell? ⟨gb, 6, none⟩ = some (.string tx)) (ds := []) #[false, false, false, false, false, false, false, false, false, false, false, false] (by kernel_rfl) rfl rfl ((show EBox gb who seq kind id up at_ tx W1.drew from blk_drew HK1.out).cells) (fun hHeld => ?_)
    have n1 := Aside0.mk (show EBox gb who seq kind id up at_ tx W1.drew from blk_drew HK1.out)
    have n3 := Aside0.mk (TallyAt.drew HX1.out)
    have n4 := Aside0.mk (below_drew1 HB1.out)
    clear HK1 HX1 HB1 hz0 hz1 hz2 hz3 hz4 hz5 hz6
    generalize W1.drew = W2 at n1 n3 n4 hHeld ⊢
    refine take_ (i := 0) (N := some 16) #[true, false, false, false, false, false, false, false, false, false, false, false] rfl rfl (by kernel_rfl) (fun _ _ _ h => h) (Or.inl ⟨by rfl, by rintro w' ⟨s0, s1, s2, s3, s4, s5, s6⟩; go_simp; with_reducible rfl⟩) hHeld putA ?_
    refine one_ (i := 1) (N := some 17) #[true, true, false, false, false, false, false, false, false, false, false, false] rfl rfl (by kernel_rfl) (by decide) (fun K hK => ?_)
    refine goes_ Tryd.func13 (by kernel_rfl) rfl #[.agg #[.int .i64 who, .int .i64 seq, .int .i64 kind, .int .i64 id, .int .i64 up, .int .i64 at_, .string tx]] (by rfl) rfl rfl argsA ?_
    refine (entryOk_b who seq kind id up at_ tx _ (HT.out.below n4.out)).mono ?_
    rw [hb]
    rintro e w5 ⟨rfl, hbl⟩
    refine ⟨_, rfl, ?_⟩
    have HB5 := Aside0.mk (below_step n4.out hbl)
    have HK5 := Aside0.mk (show EBox gb who seq kind id up at_ tx w5 from blk_below n1.out hbl)
    have HX5 := Aside0.mk (n3.out.below hbl)
    clear hbl n1 n3 n4
    refine hK.out _ _ (HK5.out.cells) (fun hHeld => ?_)
    clear hK K
    refine norm_ (a' := ?_) ?_ ?_
    rotate_left
    ·show Act.put _ (some 17) _ = _
     simp only [Act.put, List.setIfInBounds_toArray, List.set_cons_zero, List.set_cons_succ, i64_w, i32_w]
     rfl
    refine pure_ (i := 2) (N := some 18) #[true, true, true, false, false, false, false, false, false, false, false, false] rfl rfl (by kernel_rfl) (fun _ _ _ h => h) yldA putA ?_
    refine pure_ (i := 3) (N := some 19) #[true, true, true, true, false, false, false, false, false, false, false, false] rfl rfl (by kernel_rfl) (fun _ _ _ h => h) yldA putA ?_
    refine pure_ (i := 4) (N := some 20) #[true, true, true, true, true, false, false, false, false, false, false, false] rfl rfl (by kernel_rfl) (fun _ _ _ h => h) yldU putA ?_
    refine pure_ (i := 5) (N := some 21) #[true, true, true, true, true, true, false, false, false, false, false, false] rfl rfl (by kernel_rfl) (fun _ _ _ h => h) yldU putA ?_
    refine pure_ (i := 6) (N := some 22) #[true, true, true, true, true, true, true, false, false, false, false, false] rfl rfl (by kernel_rfl) (fun _ _ _ h => h) yldU putA ?_
    refine pure_ (i := 7) (N := some 23) #[true, true, true, true, true, true, true, true, false, false, false, false] rfl rfl (by kernel_rfl) (fun _ _ _ h => h) yldU putA ?_
    refine pure_ (i := 8) (N := some 24) #[true, true, true, true, true, true, true, true, true, false, false, false] rfl rfl (by kernel_rfl) (fun _ _ _ h => h) yldU putA ?_
    refine pure_ (i := 9) (N := some 25) #[true, true, true, true, true, true, true, true, true, true, false, false] rfl rfl (by kernel_rfl) (fun _ _ _ h => h) yldU putA ?_
    refine pure_ (i := 10) (N := some 26) #[true, true, true, true, true, true, true, true, true, true, true, false] rfl rfl (by kernel_rfl) (fun _ _ _ h => h) yldU putA ?_
    refine pure_ (i := 11) (N := some 27) #[true, true, true, true, true, true, true, true, true, true, true, true] rfl rfl (by kernel_rfl) (fun _ _ _ h => h) yldA putA ?_
    refine done_ (by kernel_rfl) ?_
    go_wp2
    go_ret
    exact ⟨by rw [show lokE l0 [] = false from HA2.out.symm]; rfl, HB5.out⟩
   | true =>
    rw [hb, Bool.true_and] at HA2
    have hwf : (Lit.int .i64 who).wf = true := WalkArith.wf_i64 (by have := entB_bounds (x := ⟨who, seq, ⟨kind, id, up, at_, tx⟩⟩) hb; dsimp only at this; omega)
    by_cases hs : seq = (sn.count who : Int) + 1
    ·rw [decide_eq_true hs, Bool.true_and] at HA2
     replace HA2 := Aside0.mk HA2
     have c3 : ((sn.count who : Int) + 1 != seq) = false := bne_eq_false_iff_eq.2 hs.symm
     replace hs := Aside0.mk hs
     have hw3 : IntKind.i64.wrap ((i : Int) + 1) = ((i + 1 : Nat) : Int) := by rw [i64_w, wrap64_id (by omega)]; omega
     have HT2 : Aside0 ((l0.take (i + 1)).map whoOf = sn ++ [who]) := ⟨by rw [List.take_succ_eq_append_getElem hi, hid, hsn.out]; simp⟩
     refine start_ (n := 12) (S := fun w' => w'.cell? ⟨gb, 0, none⟩ = some (.int .i64 who) ∧ w'.cell? ⟨gb, 1, none⟩ = some (.int .i64 seq) ∧ w'.cell? ⟨gb, 2, none⟩ = some (.int .i64 kind) ∧ w'.cell? ⟨gb, 3, none⟩ = some (.int .i64 id) ∧ w'.cell? ⟨gb, 4, none⟩ = some (.int .i64 up) ∧ w'.cell? ⟨gb, 5, none⟩ = some (.int .i64 at_) ∧ w'.cell? ⟨gb, 6, none⟩ = some (.string tx)) (ds := []) #[false, false, false, false, false, false, false, false, false, false, false, false] (by kernel_rfl) rfl rfl ((show EBox gb who seq kind id up at_ tx W1.drew from blk_drew HK1.out).cells) (fun hHeld => ?_)
     have n1 := Aside0.mk (show EBox gb who seq kind id up at_ tx W1.drew from blk_drew HK1.out)
     have n3 := Aside0.mk (TallyAt.drew HX1.out)
     have n4 := Aside0.mk (below_drew1 HB1.out)
     clear HK1 HX1 HB1 hz0 hz1 hz2 hz3 hz4 hz5 hz6
     generalize W1.drew = W2 at n1 n3 n4 hHeld ⊢
     refine take_ (i := 0) (N := some 16) #[true, false, false, false, false, false, false, false, false, false, false, false] rfl rfl (by kernel_rfl) (fun _ _ _ h => h) (Or.inl ⟨by rfl, by rintro w' ⟨s0, s1, s2, s3, s4, s5, s6⟩; go_simp; with_reducible rfl⟩) hHeld putA ?_
     refine one_ (i := 1) (N := some 17) #[true, true, false, false, false, false, false, false, false, false, false, false] rfl rfl (by kernel_rfl) (by decide) (fun K hK => ?_)
     refine goes_ Tryd.func13 (by kernel_rfl) rfl #[.agg #[.int .i64 who, .int .i64 seq, .int .i64 kind, .int .i64 id, .int .i64 up, .int .i64 at_, .string tx]] (by rfl) rfl rfl argsA ?_
     refine (entryOk_b who seq kind id up at_ tx _ (HT.out.below n4.out)).mono ?_
     rw [hb]
     rintro e w5 ⟨rfl, hbl⟩
     refine ⟨_, rfl, ?_⟩
     have HB5 := Aside0.mk (below_step n4.out hbl)
     have HK5 := Aside0.mk (show EBox gb who seq kind id up at_ tx w5 from blk_below n1.out hbl)
     have HX5 := Aside0.mk (n3.out.below hbl)
     clear hbl n1 n3 n4
     refine hK.out _ _ (HK5.out.cells) (fun hHeld => ?_)
     clear hK K
     refine norm_ (a' := ?_) ?_ ?_
     rotate_left
     ·show Act.put _ (some 17) _ = _
      simp only [Act.put, List.setIfInBounds_toArray, List.set_cons_zero, List.set_cons_succ, i64_w, i32_w]
      rfl
     refine pure_ (i := 2) (N := some 18) #[true, true, true, false, false, false, false, false, false, false, false, false] rfl rfl (by kernel_rfl) (fun _ _ _ h => h) yldA putA ?_
     refine pure_ (i := 3) (N := some 19) #[true, true, true, true, false, false, false, false, false, false, false, false] rfl rfl (by kernel_rfl) (fun _ _ _ h => h) yldA putA ?_
     refine pure_ (i := 4) (N := some 20) #[true, true, true, true, true, false, false, false, false, false, false, false] rfl rfl (by kernel_rfl) (fun _ _ _ h => h) yldA putA ?_
     refine pure_ (i := 5) (N := some 21) #[true, true, true, true, true, true, false, false, false, false, false, false] rfl rfl (by kernel_rfl) (fun _ _ _ h => h) yldA putA ?_
     refine take_ (i := 6) (N := some 22) #[true, true, true, true, true, true, true, false, false, false, false, false] rfl rfl (by kernel_rfl) (fun _ _ _ h => h) (Or.inl ⟨by rfl, by rintro w' ⟨s0, s1, s2, s3, s4, s5, s6⟩; go_simp; with_reducible rfl⟩) hHeld putA ?_
     refine pure_ (i := 8) (N := some 24) #[true, true, true, true, true, true, true, false, true, false, false, false] rfl rfl (by kernel_rfl) (fun _ _ _ h => h) yldA putA ?_
     refine take_ (i := 9) (N := some 25) #[true, true, true, true, true, true, true, false, true, true, false, false] rfl rfl (by kernel_rfl) (fun _ _ _ h => h) (Or.inl ⟨by rfl, by rintro w' ⟨s0, s1, s2, s3, s4, s5, s6⟩; go_simp; with_reducible rfl⟩) hHeld putA ?_
     refine one_ (i := 7) (N := some 23) #[true, true, true, true, true, true, true, true, true, true, false, false] rfl rfl (by kernel_rfl) (by decide) (fun K hK => ?_)
     refine goes_ Tryd.func46 (by kernel_rfl) rfl #[.map (some w.heap.size), .int .i64 who] (by rfl) rfl rfl argsA ?_
     refine (add_calls w.heap.size who _ _ HX5.out hq hwf).mono ?_
     rintro e w6 ⟨rfl, hx6, hg6⟩
     refine ⟨_, rfl, ?_⟩
     have HB6 := Aside0.mk (below_map HB5.out hg6 (Nat.le_refl _))
     have HX6 := Aside0.mk hx6
     have HK6 := Aside0.mk (show EBox gb who seq kind id up at_ tx w6 from blk_grown HK5.out hg6 (fun e => Nat.ne_of_gt n2.out (Option.some.inj e)))
     clear hx6 hg6 HX5 HB5 HK5
     refine hK.out _ _ (HK6.out.cells) (fun hHeld => ?_)
     clear hK K
     refine norm_ (a' := ?_) ?_ ?_
     rotate_left
     ·show Act.put _ (some 23) _ = _
      simp only [Act.put, List.setIfInBounds_toArray, List.set_cons_zero, List.set_cons_succ, i64_w, i32_w]
      rfl
     refine pure_ (i := 10) (N := some 26) #[true, true, true, true, true, true, true, true, true, true, true, false] rfl rfl (by kernel_rfl) (fun _ _ _ h => h) yldA putA ?_
     refine pure_ (i := 11) (N := some 27) #[true, true, true, true, true, true, true, true, true, true, true, true] rfl rfl (by kernel_rfl) (fun _ _ _ h => h) yldA putA ?_
     refine done_ (by kernel_rfl) ?_
     go_wp2
     go_roundg (l0.length - (i + 1) + 1)
     case measure => have := HQ.out; omega
     case rel => exact ⟨i + 1, by simp, ⟨by omega⟩, ⟨rfl⟩, ⟨by rw [HT2.out]; exact HA2.out⟩, ⟨by rw [HT2.out]; exact HX6.out⟩, HB6⟩
    ·rw [decide_eq_false hs, Bool.false_and] at HA2
     replace HA2 := Aside0.mk HA2
     have c3 : ((sn.count who : Int) + 1 != seq) = true := bne_iff_ne.2 (fun e => hs e.symm)
     replace hs := Aside0.mk hs
     refine start_ (n := 12) (S := fun w' => w'.cell? ⟨gb, 0, none⟩ = some (.int .i64 who) ∧ w'.cell? ⟨gb, 1, none⟩ = some (.int .i64 seq) ∧ w'.cell? ⟨gb, 2, none⟩ = some (.int .i64 kind) ∧ w'.cell? ⟨gb, 3, none⟩ = some (.int .i64 id) ∧ w'.cell? ⟨gb, 4, none⟩ = some (.int .i64 up) ∧ w'.cell? ⟨gb, 5, none⟩ = some (.int .i64 at_) ∧ w'.cell? ⟨gb, 6, none⟩ = some (.string tx)) (ds := []) #[false, false, false, false, false, false, false, false, false, false, false, false] (by kernel_rfl) rfl rfl ((show EBox gb who seq kind id up at_ tx W1.drew from blk_drew HK1.out).cells) (fun hHeld => ?_)
     have n1 := Aside0.mk (show EBox gb who seq kind id up at_ tx W1.drew from blk_drew HK1.out)
     have n3 := Aside0.mk (TallyAt.drew HX1.out)
     have n4 := Aside0.mk (below_drew1 HB1.out)
     clear HK1 HX1 HB1 hz0 hz1 hz2 hz3 hz4 hz5 hz6
     generalize W1.drew = W2 at n1 n3 n4 hHeld ⊢
     refine take_ (i := 0) (N := some 16) #[true, false, false, false, false, false, false, false, false, false, false, false] rfl rfl (by kernel_rfl) (fun _ _ _ h => h) (Or.inl ⟨by rfl, by rintro w' ⟨s0, s1, s2, s3, s4, s5, s6⟩; go_simp; with_reducible rfl⟩) hHeld putA ?_
     refine one_ (i := 1) (N := some 17) #[true, true, false, false, false, false, false, false, false, false, false, false] rfl rfl (by kernel_rfl) (by decide) (fun K hK => ?_)
     refine goes_ Tryd.func13 (by kernel_rfl) rfl #[.agg #[.int .i64 who, .int .i64 seq, .int .i64 kind, .int .i64 id, .int .i64 up, .int .i64 at_, .string tx]] (by rfl) rfl rfl argsA ?_
     refine (entryOk_b who seq kind id up at_ tx _ (HT.out.below n4.out)).mono ?_
     rw [hb]
     rintro e w5 ⟨rfl, hbl⟩
     refine ⟨_, rfl, ?_⟩
     have HB5 := Aside0.mk (below_step n4.out hbl)
     have HK5 := Aside0.mk (show EBox gb who seq kind id up at_ tx w5 from blk_below n1.out hbl)
     have HX5 := Aside0.mk (n3.out.below hbl)
     clear hbl n1 n3 n4
     refine hK.out _ _ (HK5.out.cells) (fun hHeld => ?_)
     clear hK K
     refine norm_ (a' := ?_) ?_ ?_
     rotate_left
     ·show Act.put _ (some 17) _ = _
      simp only [Act.put, List.setIfInBounds_toArray, List.set_cons_zero, List.set_cons_succ, i64_w, i32_w]
      rfl
     refine pure_ (i := 2) (N := some 18) #[true, true, true, false, false, false, false, false, false, false, false, false] rfl rfl (by kernel_rfl) (fun _ _ _ h => h) yldA putA ?_
     refine pure_ (i := 3) (N := some 19) #[true, true, true, true, false, false, false, false, false, false, false, false] rfl rfl (by kernel_rfl) (fun _ _ _ h => h) yldA putA ?_
     refine pure_ (i := 4) (N := some 20) #[true, true, true, true, true, false, false, false, false, false, false, false] rfl rfl (by kernel_rfl) (fun _ _ _ h => h) yldA putA ?_
     refine pure_ (i := 5) (N := some 21) #[true, true, true, true, true, true, false, false, false, false, false, false] rfl rfl (by kernel_rfl) (fun _ _ _ h => h) yldA putA ?_
     refine take_ (i := 6) (N := some 22) #[true, true, true, true, true, true, true, false, false, false, false, false] rfl rfl (by kernel_rfl) (fun _ _ _ h => h) (Or.inl ⟨by rfl, by rintro w' ⟨s0, s1, s2, s3, s4, s5, s6⟩; go_simp; with_reducible rfl⟩) hHeld putA ?_
     refine pure_ (i := 8) (N := some 24) #[true, true, true, true, true, true, true, false, true, false, false, false] rfl rfl (by kernel_rfl) (fun _ _ _ h => h) yldA putA ?_
     refine take_ (i := 9) (N := some 25) #[true, true, true, true, true, true, true, false, true, true, false, false] rfl rfl (by kernel_rfl) (fun _ _ _ h => h) (Or.inl ⟨by rfl, by rintro w' ⟨s0, s1, s2, s3, s4, s5, s6⟩; go_simp; with_reducible rfl⟩) hHeld putA ?_
     refine one_ (i := 7) (N := some 23) #[true, true, true, true, true, true, true, true, true, true, false, false] rfl rfl (by kernel_rfl) (by decide) (fun K hK => ?_)
     refine goes_ Tryd.func46 (by kernel_rfl) rfl #[.map (some w.heap.size), .int .i64 who] (by rfl) rfl rfl argsA ?_
     refine (add_calls w.heap.size who _ _ HX5.out hq hwf).mono ?_
     rintro e w6 ⟨rfl, hx6, hg6⟩
     refine ⟨_, rfl, ?_⟩
     have HB6 := Aside0.mk (below_map HB5.out hg6 (Nat.le_refl _))
     have HX6 := Aside0.mk hx6
     have HK6 := Aside0.mk (show EBox gb who seq kind id up at_ tx w6 from blk_grown HK5.out hg6 (fun e => Nat.ne_of_gt n2.out (Option.some.inj e)))
     clear hx6 hg6 HX5 HB5 HK5
     refine hK.out _ _ (HK6.out.cells) (fun hHeld => ?_)
     clear hK K
     refine norm_ (a' := ?_) ?_ ?_
     rotate_left
     ·show Act.put _ (some 23) _ = _
      simp only [Act.put, List.setIfInBounds_toArray, List.set_cons_zero, List.set_cons_succ, i64_w, i32_w]
      rfl
     refine pure_ (i := 10) (N := some 26) #[true, true, true, true, true, true, true, true, true, true, true, false] rfl rfl (by kernel_rfl) (fun _ _ _ h => h) yldA putA ?_
     refine pure_ (i := 11) (N := some 27) #[true, true, true, true, true, true, true, true, true, true, true, true] rfl rfl (by kernel_rfl) (fun _ _ _ h => h) yldA putA ?_
     refine done_ (by kernel_rfl) ?_
     go_wp2
     go_ret
     exact ⟨by rw [show lokE l0 [] = false from HA2.out.symm]; rfl, HB6.out⟩
  ·have c1 : decide ((i : Int) < (l0.length : Int)) = false := decide_eq_false (by omega)
   have HA2 := HA.out
   rw [List.drop_eq_nil_of_le (by omega)] at HA2
   simp only [lokE, LogM.lok] at HA2
   go_wp2
   go_ret
   exact ⟨by rw [show lokE l0 [] = true from HA2.symm]; rfl, HB.out⟩
theorem logB_len {l : List P.S26} (h : logB l = true) : l.length ≤ 40 := by
 unfold logB at h; simp only [Bool.and_eq_true, decide_eq_true_eq] at h; exact h.1
theorem logB_lok {l : List P.S26} (h : logB l = true) : lokE l [] = true := by
 unfold logB at h; simp only [Bool.and_eq_true, decide_eq_true_eq] at h; exact h.2
theorem logB_ent {l : List P.S26} (h : logB l = true) {x : P.S26} (hx : x ∈ l) : entB x = true :=
 (LogM.lok_mem entB whoOf seqOf (logB_lok h) hx).1
set_option maxHeartbeats 4000000 in
set_option maxRecDepth 100000 in
theorem logSeq_calls (A0 : Option Addr) (c0 : Nat) (l0 : List P.S26) (a1 : Int) (w : World) (hr0 : Kd.C P.k26 w A0 l0.length l0) (hc0 : l0.length ≤ c0) (ht : TabOk w) (hw1 : (Lit.int .i64 a1).wf = true) :
  Calls Tryd.prog 21 #[.slice A0 l0.length c0, .int .i64 a1] w fun e w' => e = .returned (.int .i64 (logSeq l0 a1)) ∧ Below w.heap.size w w' := by
 have hu26 := Tryd.underlying26
 have hmm := @run_makeMap Tryd.prog
 have HR0 := Aside0.mk hr0
 have HT := Aside0.mk ht
 clear hr0 ht
 cases hl : logB l0 with
 | false =>
  go_enter Tryd.func21, Tryd.ntmps21
  go_wp2_with (go_at_call 18; refine (logOk_calls A0 c0 l0 _ HR0.out hc0 HT.out).mono ?_; rw [hl]; rintro e w1 ⟨rfl, hb⟩; have HB1 := Aside0.mk hb; clear hb)
  go_ret
  exact ⟨by unfold logSeq; rw [hl]; rfl, HB1.out⟩
 | true =>
 have hlen := logB_len hl
 have hk := keyOf_int_mk Tryd.underlying3 hw1
 go_enter Tryd.func21, Tryd.ntmps21
 go_wp2_with (go_at_call 18; refine (logOk_calls A0 c0 l0 _ HR0.out hc0 HT.out).mono ?_; rw [hl]; rintro e w1 ⟨rfl, hb⟩; have HB1 := Aside0.mk hb; have HM1 := Aside0.mk hb.size; clear hb)
 go_loopg [14] (l0.length + 1) (fun kq v14 w' => ∃ (i : Nat), v14 = .int .i64 (i : Int) ∧ Aside0 (i ≤ l0.length) ∧ Aside0 (kq = l0.length - i + 1) ∧ Aside0 (TallyAt w1.heap.size ((l0.take i).map whoOf) w') ∧ Aside0 (Below w.heap.size w w'))
 case atStart => exact ⟨0, rfl, ⟨Nat.zero_le _⟩, ⟨rfl⟩, ⟨tally_made w1⟩, ⟨below_alloc HB1.out _⟩⟩
 case round =>
  obtain ⟨i, rfl, HI, HQ, HX, HB⟩ := hrel
  obtain ⟨sn, hsn⟩ : ∃ s, s = (l0.take i).map whoOf := ⟨_, rfl⟩
  have hq : sn.length ≤ 1000000 := by rw [hsn]; simp; omega
  rw [← hsn] at HX
  replace hsn := Aside0.mk hsn
  by_cases hi : i < l0.length
  ·have c1 : decide ((i : Int) < (l0.length : Int)) = true := decide_eq_true (by omega)
   obtain ⟨ad, e1, h0, h1, h2, h3, h4, h5, h6⟩ := at_T26 HR0.out (i : Int) (by omega) (by omega)
   cases e1
   replace h0 := pw_cell_below HB.out h0
   replace h1 := pw_cell_below HB.out h1
   replace h2 := pw_cell_below HB.out h2
   replace h3 := pw_cell_below HB.out h3
   replace h4 := pw_cell_below HB.out h4
   replace h5 := pw_cell_below HB.out h5
   replace h6 := pw_cell_below HB.out h6
   have hx : rd_T26 l0 (i : Int) = l0[i] := by simp [rd_T26, hi]
   have hen := logB_ent hl (List.getElem_mem hi)
   obtain ⟨who, seq, kind, id, up, at_, tx, hid⟩ : ∃ a b c d e f g, l0[i] = ⟨a, b, ⟨c, d, e, f, g⟩⟩ := ⟨_, _, _, _, _, _, _, rfl⟩
   rw [hx, hid] at h0 h1 h2 h3 h4 h5 h6
   rw [hid] at hen
   dsimp only at h0 h1 h2 h3 h4 h5 h6
   simp only [Int.toNat_natCast] at h0 h1 h2 h3 h4 h5 h6
   have p1 : (0 ≤ (i : Int)) = True := eq_true (by omega)
   have p2 : ((i : Int) < (l0.length : Int)) = True := eq_true (by omega)
   have hwf : (Lit.int .i64 who).wf = true := WalkArith.wf_i64 (by have := entB_bounds hen; dsimp only at this; omega)
   have hw3 : IntKind.i64.wrap ((i : Int) + 1) = ((i + 1 : Nat) : Int) := by rw [i64_w, wrap64_id (by omega)]; omega
   have HT2 : Aside0 ((l0.take (i + 1)).map whoOf = sn ++ [who]) := ⟨by rw [List.take_succ_eq_append_getElem hi, hid, hsn.out]; simp⟩
   clear hen
   go_upto_region 7 with (((with_reducible refine gate_dst (N := 7) rfl ?_); refine box_event ?hg (N := 7) ?hd (cs := #[.int .i64 0, .int .i64 0, .int .i64 0, .int .i64 0, .int .i64 0, .int .i64 0, .string ⟨#[]⟩]) (t := 26) ?hr ?_; (case hd => rfl); (case hg => rfl); (case hr => first | (go_simp; done) | (go_simp; rfl)); intro gb hg w4 hbox hbl; have n1 := Aside0.mk (entry_boxed HB.out HX.out hbl hbox hg who seq kind id up at_ tx); obtain ⟨hz0, hz1, hz2, hz3, hz4, hz5, hz6, hy0, hy1, hy2, hy3, hy4, hy5, hy6⟩ := blk_facts7 hbox; have n2 := Aside0.mk (show w1.heap.size < gb by rw [hg]; exact HX.out.lt); clear hbl hbox hg))
   obtain ⟨W1, hW1⟩ : ∃ W1, W1 = (((((((w4.setCell ⟨gb, 0, none⟩ (.int .i64 who)).setCell ⟨gb, 1, none⟩ (.int .i64 seq)).setCell ⟨gb, 2, none⟩ (.int .i64 kind)).setCell ⟨gb, 3, none⟩ (.int .i64 id)).setCell ⟨gb, 4, none⟩ (.int .i64 up)).setCell ⟨gb, 5, none⟩ (.int .i64 at_)).setCell ⟨gb, 6, none⟩ (.string tx)) := ⟨_, rfl⟩
   rw [← hW1] at n1 ⊢
   obtain ⟨HK1, HX1, HB2⟩ := n1.out
   replace HK1 := Aside0.mk HK1
   replace HX1 := Aside0.mk HX1
   replace HB2 := Aside0.mk HB2
   clear hz0 hz1 hz2 hz3 hz4 hz5 hz6 hy0 hy1 hy2 hy3 hy4 hy5 hy6 n1 hW1 HX HB h0 h1 h2 h3 h4 h5 h6 hx
   obtain ⟨hz0, hz1, hz2, hz3, hz4, hz5, hz6⟩ := HK1.out.cells
   go_wp2_with (go_at_call 46; refine (add_calls w1.heap.size who _ _ HX1.out hq hwf).mono ?_; rintro e w6 ⟨rfl, hx6, hg6⟩; have HB6 := Aside0.mk (below_map HB2.out hg6 HM1.out); have HX6 := Aside0.mk hx6; clear hx6 hg6)
   go_roundg (l0.length - (i + 1) + 1)
   case measure => have := HQ.out; omega
   case rel => exact ⟨i + 1, by simp, ⟨by omega⟩, ⟨rfl⟩, ⟨by rw [HT2.out]; exact HX6.out⟩, HB6⟩
  ·have c1 : decide ((i : Int) < (l0.length : Int)) = false := decide_eq_false (by omega)
   have hall : sn = l0.map whoOf := by rw [hsn.out, List.take_of_length_le (by omega)]
   obtain ⟨D, hown, hD⟩ := HX.out
   have hat := hD.2 a1
   rw [hall] at hat
   have hlq : logSeq l0 a1 = ((l0.map whoOf).count a1 : Int) := by unfold logSeq; rw [if_pos hl]
   go_wp2_with (at_lookup; refine wpList_lookup_own_int _ rfl _ _ 72 rfl 3 3 .i64 keyed_int Tryd.underlying72 Tryd.underlying3 (zero_int _) w1.heap.size _ _ rfl hown _ _ rfl hk ?_; intro c hat2 hwc; have hc2 : c = ((l0.map whoOf).count a1 : Int) := by (rw [hat2] at hat; simpa using hat))
   go_ret
   exact ⟨by rw [hlq]; rfl, HB.out⟩
end Go.Proofs.YtlpfjabfhgfpmaaDoor
