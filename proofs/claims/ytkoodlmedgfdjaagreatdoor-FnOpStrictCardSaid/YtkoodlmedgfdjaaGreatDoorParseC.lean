/- The program's parseWords by walks: the change that words tell of, such as it is; the package's error where they tell of none. Where the package-level variables lie as the program's text lays them. -/
import Derived.Test.YtkoodlmedgfdjaaGreatDoorOpOfC
import Derived.Deep.LoopGhost
import Derived.Deep.DrawnRows
import Derived.Deep.AppendLies
namespace Go.Proofs.YtkoodlmedgfdjaaGreatDoor
open Go.RowKit Go.Proofs.YtkoodlmedgfdjaaGreatDoorW.PrintWords Go.Proofs.YtkoodlmedgfdjaaGreatDoorW.PrintLast Go.Proofs.YtkoodlmedgfdjaaGreatDoor.OpTxt
set_option linter.unusedVariables false
set_option linter.unusedSimpArgs false

theorem cell_lt {w : World} {x : Addr} {v : Value} (h : w.cell? x = some v) : x.block < w.heap.size := by
  unfold World.cell? at h
  rcases Nat.lt_or_ge x.block w.heap.size with c | c
  · exact c
  · rw [Array.getElem?_eq_none c] at h; cases h
/-- What the program hands back where words tell of no change. -/
def noneV (a : Addr) : Value := .tuple #[opV 0 0 0 0 ⟨#[]⟩, .iface 141 (.pointer (some a))]
/-- The error of this package lies so. -/
abbrev MalAt (a : Addr) (w : World) : Prop := w.cell? ⟨0, 0, none⟩ = some (.iface 141 (.pointer (some a)))
set_option maxHeartbeats 1000000 in
set_option maxRecDepth 100000 in
theorem parse_other (a : Addr) (b n : Nat) (w0 : ByteArray) (w : World) (hn : 0 < n) (hm : MalAt a w) (h0 : w.cell? ⟨b, 0, none⟩ = some (.string w0))
    (h1 : (w0.toList == ([109, 97, 107, 101] : List UInt8)) = false) (h2 : (w0.toList == ([116, 101, 120, 116] : List UInt8)) = false) (h3 : (w0.toList == ([109, 111, 118, 101] : List UInt8)) = false) :
    Calls Tryz.prog 37 #[.slice (some ⟨b, 0, none⟩) n n] w fun e w' => e = .returned (noneV a) ∧ Below w.heap.size w w' := by
  go_enter Tryz.func37, Tryz.ntmps37
  have hb := cell_lt h0
  have hg := cell_lt hm
  dsimp only at hb hg
  have hb1 : b < w.heap.size + 1 := by omega
  have hb2 : b < w.heap.size + 1 + 1 := by omega
  go_wp2
  go_region
  go_wp2
  (try simp only [Exit.inBlock, Exit.then])
  refine bodyPost_ret (results_ct rfl _ _ w.heap.size 24 #[.int .i64 0, .int .i64 0, .int .i64 0, .int .i64 0, .string ⟨#[]⟩] (0, 0) _ rfl (by repeat (with_reducible first | exact heap_alloc_new _ _ | refine blk_drewN ?_ _ | refine blk_drew ?_ | refine blk_alloc ?_ _)) Tryz.underlying24 rfl (by kernel_rfl)) rfl ?_
  exact ⟨rfl, by repeat (first | exact Below.refl _ _ | apply below_drew | apply below_alloc)⟩
theorem cap3 : (281474976710656 < Builtin.nextslicecap 3 1 * Tryz.t88.bytes) = False := eq_false (by decide +kernel)
theorem over_world {P : Program} {c : Code} {Q : Exit → Act → World → Prop} {x : Act} {w : World} (R : World → Prop) (h : R w) (k : ∀ W, R W → c.wp P Q x W) : c.wp P Q x w := k w h
theorem new_at {w : World} {o o' : Obj} {g : Nat} (h : g = w.heap.size) (e : o = o') : (w.alloc o).heap[g]? = some o' := by rw [h, ← e]; exact heap_alloc_new w o
/-- The record's cells, where so many numbers have been read. -/
def opCells (k : Int) (vs : List Int) (t : ByteArray) : Array Value := #[.int .i64 k, .int .i64 (vs.getD 0 0), .int .i64 (vs.getD 1 0), .int .i64 (vs.getD 2 0), .string t]
/-- How far the reading has come: the record, where the numbers go, the result as yet. -/
structure PState (w : World) (gO gF : Nat) (k : Int) (vs : List Int) (t : ByteArray) (m : Nat) (W : World) : Prop where
  below : Below w.heap.size w W
  op : W.heap[gO]? = some (.cells (opCells k vs t) 24 (0, 0))
  res : W.heap[w.heap.size]? = some (.cells #[.int .i64 0, .int .i64 0, .int .i64 0, .int .i64 0, .string ⟨#[]⟩] 24 (0, 0))
  fld : ∃ cs, W.heap[gF]? = some (.cells cs 88 (0, 0)) ∧ ∀ j, j < m → cs[j]? = some (.pointer (some ⟨gO, j + 1, none⟩))
  o1 : w.heap.size < gO
  o2 : w.heap.size < gF
  o3 : gO ≠ gF
theorem three {p : Nat → Prop} (h0 : p 0) (h1 : p 1) (h2 : p 2) : ∀ j, j < 3 → p j := fun j hj => by
  match j, hj with
  | 0, _ => exact h0
  | 1, _ => exact h1
  | 2, _ => exact h2
theorem one {p : Nat → Prop} (h0 : p 0) : ∀ j, j < 1 → p j := fun j hj => by
  cases Nat.lt_one_iff.1 hj; exact h0
theorem cells3_0 {x y z : Value} {c : Array Value} : (#[x] ++ (#[y, z] ++ c))[0]? = some x := by simp [Array.getElem?_append]
theorem cells3_1 {x y z : Value} {c : Array Value} : (#[x] ++ (#[y, z] ++ c))[1]? = some y := by simp [Array.getElem?_append]
theorem cells3_2 {x y z : Value} {c : Array Value} : (#[x] ++ (#[y, z] ++ c))[2]? = some z := by simp [Array.getElem?_append]
theorem PState.later {w W W2 : World} {gO gF m : Nat} {k : Int} {vs : List Int} {t : ByteArray} (h : PState w gO gF k vs t m W) (hb : Below W.heap.size W W2) : PState w gO gF k vs t m W2 :=
  ⟨below_step h.below hb, blk_below h.op hb, blk_below h.res hb, let ⟨cs, h1, h2⟩ := h.fld; ⟨cs, blk_below h1 hb, h2⟩, h.o1, h.o2, h.o3⟩
theorem op_put : ∀ (k : Int) (vs : List Int) (t : ByteArray) (v : Int), vs.length < 3 → (opCells k vs t).setIfInBounds (vs.length + 1) (.int .i64 v) = opCells k (vs ++ [v]) t
  | k, [], t, v, _ => rfl
  | k, [x], t, v, _ => rfl
  | k, [x, y], t, v, _ => rfl
  | k, x :: y :: z :: r, t, v, h => by simp at h; omega
/-- One more number. -/
theorem PState.put {w W : World} {gO gF m : Nat} {k : Int} {vs : List Int} {t : ByteArray} (h : PState w gO gF k vs t m W) (v : Int) (hv : vs.length < 3) : PState w gO gF k (vs ++ [v]) t m (W.setCell ⟨gO, vs.length + 1, none⟩ (.int .i64 v)) :=
  ⟨below_set h.below (Nat.le_of_lt h.o1), blk_put h.op _ _ (op_put k vs t v hv), blk_far h.res (Nat.ne_of_lt h.o1) _, let ⟨cs, h1, h2⟩ := h.fld; ⟨cs, blk_far h1 (Ne.symm h.o3) _, h2⟩, h.o1, h.o2, h.o3⟩
/-- The text. -/
theorem PState.say {w W : World} {gO gF m : Nat} {k : Int} {vs : List Int} {t : ByteArray} (h : PState w gO gF k vs t m W) (s : ByteArray) : PState w gO gF k vs s m (W.setCell ⟨gO, 4, none⟩ (.string s)) :=
  ⟨below_set h.below (Nat.le_of_lt h.o1), blk_put h.op _ _ rfl, blk_far h.res (Nat.ne_of_lt h.o1) _, let ⟨cs, h1, h2⟩ := h.fld; ⟨cs, blk_far h1 (Ne.symm h.o3) _, h2⟩, h.o1, h.o2, h.o3⟩
/-- Where a number goes: a place that holds one. -/
theorem PState.place {w W : World} {gO gF m : Nat} {k : Int} {vs : List Int} {t : ByteArray} (h : PState w gO gF k vs t m W) {j : Nat} (hj : j < m) (hm : m ≤ 3) : W.cell? ⟨gF, j, none⟩ = some (.pointer (some ⟨gO, j + 1, none⟩)) ∧ (∃ z, W.cell? ⟨gO, j + 1, none⟩ = some (.int .i64 z)) ∧ W.frozen? ⟨gO, j + 1, none⟩ = false := by
  obtain ⟨cs, h1, h2⟩ := h.fld
  refine ⟨(blk_cell h1 j).trans (h2 j hj), ?_, blk_frozen h.op _⟩
  rw [blk_cell h.op]
  have : j = 0 ∨ j = 1 ∨ j = 2 := by omega
  rcases this with rfl | rfl | rfl
  · exact ⟨_, rfl⟩
  · exact ⟨_, rfl⟩
  · exact ⟨_, rfl⟩
/-- What is stored into the result. -/
theorem PState.told {w W : World} {gO gF m : Nat} {k : Int} {vs : List Int} {t : ByteArray} (h : PState w gO gF k vs t m W) (a b c d : Int) (s : ByteArray) :
    let W' := ((((W.setCell ⟨w.heap.size, 0, none⟩ (.int .i64 a)).setCell ⟨w.heap.size, 1, none⟩ (.int .i64 b)).setCell ⟨w.heap.size, 2, none⟩ (.int .i64 c)).setCell ⟨w.heap.size, 3, none⟩ (.int .i64 d)).setCell ⟨w.heap.size, 4, none⟩ (.string s)
    W'.heap[w.heap.size]? = some (.cells #[.int .i64 a, .int .i64 b, .int .i64 c, .int .i64 d, .string s] 24 (0, 0)) ∧ Below w.heap.size w W' :=
  ⟨blk_put (blk_put (blk_put (blk_put (blk_put h.res 0 _ rfl) 1 _ rfl) 2 _ rfl) 3 _ rfl) 4 _ rfl, below_set (below_set (below_set (below_set (below_set h.below (Nat.le_refl _)) (Nat.le_refl _)) (Nat.le_refl _)) (Nat.le_refl _)) (Nat.le_refl _)⟩
theorem slice_inner (s : ByteArray) (h2 : 2 ≤ s.size) (w : World) : (Instr.slice 9 (.string s) (some (.int .i64 1)) (some (.int .i64 ((s.size : Int) - 1))) none).run Tryz.prog w = .ok (.string (s.extract 1 (s.size - 1))) w := by
  have h := run_slice_string (P := Tryz.prog) w 9 s .i64 .i64 1 ((s.size : Int) - 1) Tryz.underlying9 (by omega) (by omega) (by omega)
  rw [h, show ((s.size : Int) - 1).toNat = s.size - 1 by omega]
  rfl
/-- Between strokes. -/
def Quoted (s : ByteArray) : Prop := ∃ h : 2 ≤ s.size, s[0].toNat = 39 ∧ s[s.size - 1].toNat = 39
/-- What words that are to be numbers give, and what the program answers then. -/
def numV (a : Addr) (k : Int) (t : ByteArray) : Option (List Int) → Value
  | none => noneV a
  | some vs => .tuple #[opV k (vs.getD 0 0) (vs.getD 1 0) (vs.getD 2 0) t, .nilIface]
set_option maxHeartbeats 1000000 in
set_option maxRecDepth 100000 in
theorem parse_make_none (a : Addr) (b : Nat) (w0 : ByteArray) (w : World) (hm : MalAt a w) (h0 : w.cell? ⟨b, 0, none⟩ = some (.string w0)) (h1 : (w0.toList == ([109, 97, 107, 101] : List UInt8)) = true) :
    Calls Tryz.prog 37 #[.slice (some ⟨b, 0, none⟩) 1 1] w fun e w' => e = .returned (noneV a) ∧ Below w.heap.size w w' := by
  go_enter Tryz.func37, Tryz.ntmps37
  have hb := cell_lt h0
  have hg := cell_lt hm
  dsimp only at hb hg
  have hb1 : b < w.heap.size + 1 := by omega
  have hb2 : b < w.heap.size + 1 + 1 := by omega
  have hc3 := cap3
  go_upto_region 17 with fail
  generalize (Question.appendCap 3 1 64).cut (w.tape w.drawn (Question.appendCap 3 1 64)) = cap
  refine over_world (PState w (w.heap.size + 1) (w.heap.size + 1 + 1 + 1 + 1) 1 [] ⟨#[]⟩ 3) ⟨?_, ?_, ?_, ⟨_, blk_drew (new_at (by simp) rfl), three cells3_0 cells3_1 cells3_2⟩, by omega, by omega, by omega⟩ ?_
  · repeat (first | exact Below.refl _ _ | apply below_drew | apply below_alloc)
  · exact blk_drew (blk_alloc (blk_alloc (blk_alloc (new_at (by simp) rfl) _) _) _)
  · exact blk_drew (blk_alloc (blk_alloc (blk_alloc (blk_alloc (new_at (by simp) rfl) _) _) _) _)
  clear hc3 hb1 hb2 hb hg
  generalize w.heap.size + 1 + 1 + 1 + 1 = gF
  generalize w.heap.size + 1 = gO
  intro W1 hP
  have HP1 := Aside0.mk hP
  have HM := Aside0.mk hm
  obtain ⟨k0, k1, k2, k3, k4, f0, f1, f2, f3, f4⟩ := blk_facts5 hP.op
  obtain ⟨r0, r1, r2, r3, r4, s0, s1, s2, s3, s4⟩ := blk_facts5 hP.res
  have hm1 := pw_cell_below hP.below hm
  clear hP hm h0
  have z0 : (0 = w.heap.size) = False := eq_false (by have := cell_lt HM.out; dsimp only at this; omega)
  have z1 : (w.heap.size = 0) = False := eq_false (by have := cell_lt HM.out; dsimp only at this; omega)
  go_region
  go_wp2
  (try simp only [Exit.inBlock, Exit.then])
  have hw := HP1.out.told 0 0 0 0 ⟨#[]⟩
  refine bodyPost_ret (results_ct rfl _ _ w.heap.size 24 _ (0, 0) _ rfl (blk_drew hw.1) Tryz.underlying24 rfl (by kernel_rfl)) rfl ?_
  exact ⟨rfl, below_drew hw.2⟩
set_option maxHeartbeats 1000000 in
set_option maxRecDepth 100000 in
theorem parse_make_bad (a : Addr) (b m : Nat) (w0 last : ByteArray) (w : World) (hm : MalAt a w) (h0 : w.cell? ⟨b, 0, none⟩ = some (.string w0)) (hl : w.cell? ⟨b, 1 + m, none⟩ = some (.string last)) (hmm : m ≤ 1000) (hs : last.size ≤ 100) (hq : ¬ Quoted last) (h1 : (w0.toList == ([109, 97, 107, 101] : List UInt8)) = true) :
    Calls Tryz.prog 37 #[.slice (some ⟨b, 0, none⟩) (m + 2) (m + 2)] w fun e w' => e = .returned (noneV a) ∧ Below w.heap.size w w' := by
  go_enter Tryz.func37, Tryz.ntmps37
  have hb := cell_lt h0
  have hg := cell_lt hm
  dsimp only at hb hg
  have hb1 : b < w.heap.size + 1 := by omega
  have hb2 : b < w.heap.size + 1 + 1 := by omega
  have hc3 := cap3
  go_upto_region 18 with fail
  generalize (Question.appendCap 3 1 64).cut (w.tape w.drawn (Question.appendCap 3 1 64)) = cap
  refine over_world (PState w (w.heap.size + 1) (w.heap.size + 1 + 1 + 1 + 1) 1 [] ⟨#[]⟩ 3) ⟨?_, ?_, ?_, ⟨_, blk_drew (new_at (by simp) rfl), three cells3_0 cells3_1 cells3_2⟩, by omega, by omega, by omega⟩ ?_
  · repeat (first | exact Below.refl _ _ | apply below_drew | apply below_alloc)
  · exact blk_drew (blk_alloc (blk_alloc (blk_alloc (new_at (by simp) rfl) _) _) _)
  · exact blk_drew (blk_alloc (blk_alloc (blk_alloc (blk_alloc (new_at (by simp) rfl) _) _) _) _)
  clear hc3 hb1 hb2 hb hg
  generalize w.heap.size + 1 + 1 + 1 + 1 = gF
  generalize w.heap.size + 1 = gO
  intro W1 hP
  have HP1 := Aside0.mk hP
  have HM := Aside0.mk hm
  obtain ⟨k0, k1, k2, k3, k4, f0, f1, f2, f3, f4⟩ := blk_facts5 hP.op
  obtain ⟨r0, r1, r2, r3, r4, s0, s1, s2, s3, s4⟩ := blk_facts5 hP.res
  have hm1 := pw_cell_below hP.below hm
  replace hl := pw_cell_below hP.below hl
  clear hP hm h0
  have hw1 : IntKind.i64.wrap (m : Int) = (m : Int) := by rw [i64_w]; exact wrap64_id (by omega)
  have hw2 : IntKind.i64.wrap ((last.size : Int) - 1) = (last.size : Int) - 1 := by rw [i64_w]; exact wrap64_id (by omega)
  have HQ := Aside0.mk hq
  clear hq
  by_cases q : (last.size : Int) < 2
  · have q0 : decide ((last.size : Int) < 2) = true := decide_eq_true q
    clear q
    go_upto_region 21 with fail
    have z0 : (0 = w.heap.size) = False := eq_false (by have := cell_lt HM.out; dsimp only at this; omega)
    have z1 : (w.heap.size = 0) = False := eq_false (by have := cell_lt HM.out; dsimp only at this; omega)
    go_region
    go_wp2
    (try simp only [Exit.inBlock, Exit.then])
    have hw := HP1.out.told 0 0 0 0 ⟨#[]⟩
    refine bodyPost_ret (results_ct rfl _ _ w.heap.size 24 _ (0, 0) _ rfl (blk_drew hw.1) Tryz.underlying24 rfl (by kernel_rfl)) rfl ?_
    exact ⟨rfl, below_drew hw.2⟩
  · have q0 : decide ((last.size : Int) < 2) = false := decide_eq_false q
    have q1 : 0 < last.size := by omega
    by_cases q2 : ((last[0]'q1).toNat : Int) = 39
    · have q3 : (((last[last.size - 1]'(Nat.sub_lt q1 Nat.one_pos)).toNat : Int) != 39) = true := by
        rw [bne_iff_ne]
        intro e
        exact HQ.out ⟨by omega, by omega, by omega⟩
      clear q
      go_upto_region 21 with fail
      have z0 : (0 = w.heap.size) = False := eq_false (by have := cell_lt HM.out; dsimp only at this; omega)
      have z1 : (w.heap.size = 0) = False := eq_false (by have := cell_lt HM.out; dsimp only at this; omega)
      go_region
      go_wp2
      (try simp only [Exit.inBlock, Exit.then])
      have hw := HP1.out.told 0 0 0 0 ⟨#[]⟩
      refine bodyPost_ret (results_ct rfl _ _ w.heap.size 24 _ (0, 0) _ rfl (blk_drew hw.1) Tryz.underlying24 rfl (by kernel_rfl)) rfl ?_
      exact ⟨rfl, below_drew hw.2⟩
    · clear q
      go_upto_region 21 with fail
      have z0 : (0 = w.heap.size) = False := eq_false (by have := cell_lt HM.out; dsimp only at this; omega)
      have z1 : (w.heap.size = 0) = False := eq_false (by have := cell_lt HM.out; dsimp only at this; omega)
      go_region
      go_wp2
      (try simp only [Exit.inBlock, Exit.then])
      have hw := HP1.out.told 0 0 0 0 ⟨#[]⟩
      refine bodyPost_ret (results_ct rfl _ _ w.heap.size 24 _ (0, 0) _ rfl (blk_drew hw.1) Tryz.underlying24 rfl (by kernel_rfl)) rfl ?_
      exact ⟨rfl, below_drew hw.2⟩
set_option maxHeartbeats 1000000 in
set_option maxRecDepth 100000 in
theorem parse_make_len (a : Addr) (b m : Nat) (w0 last : ByteArray) (w : World) (hm : MalAt a w) (h0 : w.cell? ⟨b, 0, none⟩ = some (.string w0)) (hl : w.cell? ⟨b, 1 + m, none⟩ = some (.string last)) (hmm : m ≤ 1000) (hs : last.size ≤ 100) (hq : Quoted last) (hne : m ≠ 3) (h1 : (w0.toList == ([109, 97, 107, 101] : List UInt8)) = true) :
    Calls Tryz.prog 37 #[.slice (some ⟨b, 0, none⟩) (m + 2) (m + 2)] w fun e w' => e = .returned (noneV a) ∧ Below w.heap.size w w' := by
  go_enter Tryz.func37, Tryz.ntmps37
  have hb := cell_lt h0
  have hg := cell_lt hm
  dsimp only at hb hg
  have hb1 : b < w.heap.size + 1 := by omega
  have hb2 : b < w.heap.size + 1 + 1 := by omega
  have hc3 := cap3
  go_upto_region 18 with fail
  generalize (Question.appendCap 3 1 64).cut (w.tape w.drawn (Question.appendCap 3 1 64)) = cap
  refine over_world (PState w (w.heap.size + 1) (w.heap.size + 1 + 1 + 1 + 1) 1 [] ⟨#[]⟩ 3) ⟨?_, ?_, ?_, ⟨_, blk_drew (new_at (by simp) rfl), three cells3_0 cells3_1 cells3_2⟩, by omega, by omega, by omega⟩ ?_
  · repeat (first | exact Below.refl _ _ | apply below_drew | apply below_alloc)
  · exact blk_drew (blk_alloc (blk_alloc (blk_alloc (new_at (by simp) rfl) _) _) _)
  · exact blk_drew (blk_alloc (blk_alloc (blk_alloc (blk_alloc (new_at (by simp) rfl) _) _) _) _)
  clear hc3 hb1 hb2 hb hg
  generalize w.heap.size + 1 + 1 + 1 + 1 = gF
  generalize w.heap.size + 1 = gO
  intro W1 hP
  have HP1 := Aside0.mk hP
  have HM := Aside0.mk hm
  obtain ⟨k0, k1, k2, k3, k4, f0, f1, f2, f3, f4⟩ := blk_facts5 hP.op
  obtain ⟨r0, r1, r2, r3, r4, s0, s1, s2, s3, s4⟩ := blk_facts5 hP.res
  replace hl := pw_cell_below hP.below hl
  clear hP hm h0
  have hw1 : IntKind.i64.wrap (m : Int) = (m : Int) := by rw [i64_w]; exact wrap64_id (by omega)
  have hn1 : ((m : Int) != 3) = true := bne_iff_ne.2 (by omega)
  obtain ⟨q, q2, q3⟩ := hq
  have q1 : 0 < last.size := by omega
  have q0 : decide ((last.size : Int) < 2) = false := decide_eq_false (by omega)
  replace q2 : ((last[0]'q1).toNat : Int) = 39 := by omega
  replace q3 : (((last[last.size - 1]'(Nat.sub_lt q1 Nat.one_pos)).toNat : Int) != 39) = false := by rw [bne_eq_false_iff_eq]; omega
  have hw2 : IntKind.i64.wrap ((last.size : Int) - 1) = (last.size : Int) - 1 := by rw [i64_w]; exact wrap64_id (by omega)
  have hsl := slice_inner last q
  clear q
  go_upto_region 24 with fail
  refine over_world (PState w gO gF 1 [] (last.extract 1 (last.size - 1)) 3) (HP1.out.say _) ?_
  clear hl q0 q1 q2 q3 hw2 hsl HP1 k0 k1 k2 k3 k4 f0 f1 f2 f3 f4 r0 r1 r2 r3 r4 s0 s1 s2 s3 s4
  intro W2 hP
  have HP2 := Aside0.mk hP
  obtain ⟨r0, r1, r2, r3, r4, s0, s1, s2, s3, s4⟩ := blk_facts5 hP.res
  have hm1 := pw_cell_below hP.below HM.out
  clear hP
  have z0 : (0 = w.heap.size) = False := eq_false (by have := cell_lt HM.out; dsimp only at this; omega)
  have z1 : (w.heap.size = 0) = False := eq_false (by have := cell_lt HM.out; dsimp only at this; omega)
  go_region
  go_wp2
  (try simp only [Exit.inBlock, Exit.then])
  have hw := HP2.out.told 0 0 0 0 ⟨#[]⟩
  refine bodyPost_ret (results_ct rfl _ _ w.heap.size 24 _ (0, 0) _ rfl (blk_drew hw.1) Tryz.underlying24 rfl (by kernel_rfl)) rfl ?_
  exact ⟨rfl, below_drew hw.2⟩
set_option maxHeartbeats 1000000 in
set_option maxRecDepth 100000 in
theorem parse_make_go (a : Addr) (b : Nat) (w0 last : ByteArray) (wl : List ByteArray) (w : World) (ht : TabOk w) (hm : MalAt a w) (h0 : w.cell? ⟨b, 0, none⟩ = some (.string w0)) (hl : w.cell? ⟨b, 1 + 3, none⟩ = some (.string last)) (hs : last.size ≤ 100) (hq : Quoted last)
    (hc : ∀ j, j < 3 → ∃ x, wl[j]? = some x ∧ x.size ≤ 100 ∧ w.cell? ⟨b, 1 + j, none⟩ = some (.string x)) (hlen : wl.length = 3) (h1 : (w0.toList == ([109, 97, 107, 101] : List UInt8)) = true) :
    Calls Tryz.prog 37 #[.slice (some ⟨b, 0, none⟩) 5 5] w fun e w' => e = .returned (numV a 1 (last.extract 1 (last.size - 1)) (nums (wl.map (·.data.toList)))) ∧ Below w.heap.size w w' := by
  go_enter Tryz.func37, Tryz.ntmps37
  have hb := cell_lt h0
  have hg := cell_lt hm
  dsimp only at hb hg
  have hb1 : b < w.heap.size + 1 := by omega
  have hb2 : b < w.heap.size + 1 + 1 := by omega
  have hc3 := cap3
  go_upto_region 18 with fail
  generalize (Question.appendCap 3 1 64).cut (w.tape w.drawn (Question.appendCap 3 1 64)) = cap
  refine over_world (PState w (w.heap.size + 1) (w.heap.size + 1 + 1 + 1 + 1) 1 [] ⟨#[]⟩ 3) ⟨?_, ?_, ?_, ⟨_, blk_drew (new_at (by simp) rfl), three cells3_0 cells3_1 cells3_2⟩, by omega, by omega, by omega⟩ ?_
  · repeat (first | exact Below.refl _ _ | apply below_drew | apply below_alloc)
  · exact blk_drew (blk_alloc (blk_alloc (blk_alloc (new_at (by simp) rfl) _) _) _)
  · exact blk_drew (blk_alloc (blk_alloc (blk_alloc (blk_alloc (new_at (by simp) rfl) _) _) _) _)
  clear hc3 hb1 hb2 hb hg
  generalize w.heap.size + 1 + 1 + 1 + 1 = gF
  generalize w.heap.size + 1 = gO
  intro W1 hP
  have HP1 := Aside0.mk hP
  have HM := Aside0.mk hm
  obtain ⟨k0, k1, k2, k3, k4, f0, f1, f2, f3, f4⟩ := blk_facts5 hP.op
  obtain ⟨r0, r1, r2, r3, r4, s0, s1, s2, s3, s4⟩ := blk_facts5 hP.res
  have HC := Aside0.mk hc
  have HT := Aside0.mk ht
  replace hl := pw_cell_below hP.below hl
  clear hP hc hm ht h0
  obtain ⟨q, q2, q3⟩ := hq
  have q1 : 0 < last.size := by omega
  have q0 : decide ((last.size : Int) < 2) = false := decide_eq_false (by omega)
  replace q2 : ((last[0]'q1).toNat : Int) = 39 := by omega
  replace q3 : (((last[last.size - 1]'(Nat.sub_lt q1 Nat.one_pos)).toNat : Int) != 39) = false := by rw [bne_eq_false_iff_eq]; omega
  have hw2 : IntKind.i64.wrap ((last.size : Int) - 1) = (last.size : Int) - 1 := by rw [i64_w]; exact wrap64_id (by omega)
  have hsl := slice_inner last q
  clear q
  go_upto_region 25 with fail
  refine over_world (PState w gO gF 1 [] (last.extract 1 (last.size - 1)) 3) (HP1.out.say _) ?_
  clear hl q0 q1 q2 q3 hw2 hsl HP1 k0 k1 k2 k3 k4 f0 f1 f2 f3 f4 r0 r1 r2 r3 r4 s0 s1 s2 s3 s4
  intro W2 hP
  have HP2 := Aside0.mk hP
  clear hP
  have HL := Aside0.mk hlen
  clear hlen
  go_wp2
  go_loopg [91] 4 (fun kq v91 w' => ∃ (i : Nat) (vs : List Int), v91 = .int .i64 (i : Int) ∧ Aside0 (i ≤ 3) ∧ Aside0 (kq = 3 - i + 1) ∧ Aside0 (vs.length = i) ∧ Aside0 ((nums ((wl.drop i).map (·.data.toList))).map (vs ++ ·) = nums (wl.map (·.data.toList))) ∧ Aside0 (PState w gO gF 1 vs (last.extract 1 (last.size - 1)) 3 w'))
  case atStart => exact ⟨0, [], rfl, ⟨by omega⟩, ⟨rfl⟩, ⟨rfl⟩, ⟨by simp⟩, HP2⟩
  case round =>
    obtain ⟨i, vs, rfl, HI, HQ, HV, HN, HP⟩ := hrel
    by_cases hi : i < 3
    · obtain ⟨x, hx, hxs, hxc⟩ := HC.out i hi
      replace hxc := pw_cell_below HP.out.below hxc
      have hil : i < wl.length := by rw [HL.out]; exact hi
      have hx2 : wl[i] = x := by rw [List.getElem?_eq_getElem hil] at hx; exact Option.some.inj hx
      have HN2 := HN.out
      rw [List.drop_eq_getElem_cons hil, hx2, List.map_cons] at HN2
      have c1 : decide ((i : Int) < 3) = true := decide_eq_true (by omega)
      have c2 : ((i : Int) < 3) = True := eq_true (by omega)
      have c3 : (0 ≤ (i : Int)) = True := eq_true (by omega)
      have hw3 : IntKind.i64.wrap ((i : Int) + 1) = ((i + 1 : Nat) : Int) := by rw [i64_w, wrap64_id (by omega)]; omega
      by_cases hok : ∃ v, Lib.atoiAll x.data.toList = .ok v
      · obtain ⟨v, hv⟩ := hok
        have HV2 := Aside0.mk hv
        have HX := Aside0.mk hxs
        have HI2 := Aside0.mk hi
        clear hv hxs hi hil hx2 hx
        go_wp2_with (go_at_call 49; refine (atoi_yes x HX.out HV2.out _).mono ?_; rintro e w5 ⟨rfl, hbl⟩; have HP5 := Aside0.mk (HP.out.later hbl); obtain ⟨g1, ⟨z, g2⟩, g3⟩ := HP5.out.place HI2.out (by omega); clear hbl)
        have HN3 : Aside0 ((nums ((wl.drop (i + 1)).map (·.data.toList))).map ((vs ++ [v]) ++ ·) = nums (wl.map (·.data.toList))) := ⟨by
          rw [← HN2]
          simp only [OpTxt.nums, HV2.out, Option.map_map]
          congr 1
          funext r
          simp⟩
        go_roundg (3 - (i + 1) + 1)
        case measure => have := HQ.out; have := HI2.out; omega
        case rel => exact ⟨i + 1, vs ++ [v], rfl, ⟨HI2.out⟩, ⟨rfl⟩, ⟨by rw [List.length_append, HV.out]; rfl⟩, HN3, ⟨by have h := HP5.out.put v (by have := HV.out; have := HI2.out; omega); rw [HV.out] at h; exact h⟩⟩
      · have HX := Aside0.mk hxs
        have HO := Aside0.mk (show ∀ v, Lib.atoiAll x.data.toList ≠ .ok v from fun v e => hok ⟨v, e⟩)
        have HN3 : Aside0 (nums (wl.map (·.data.toList)) = none) := ⟨by
          rw [← HN2]
          cases hc : Lib.atoiAll x.data.toList
          · exact absurd ⟨_, hc⟩ hok
          · simp [OpTxt.nums, hc]
          · simp [OpTxt.nums, hc]⟩
        clear hxs hi hil hx2 hx hok
        go_wp2_with (go_at_call 49; refine (atoi_no x HX.out HO.out _ (HT.out.below HP.out.below)).mono ?_; rintro e w5 ⟨⟨v, N, rfl⟩, hbl⟩; have HP5 := Aside0.mk (HP.out.later hbl); have hm1 := pw_cell_below HP5.out.below HM.out; obtain ⟨r0, r1, r2, r3, r4, s0, s1, s2, s3, s4⟩ := blk_facts5 HP5.out.res; clear hbl)
        have z0 : (0 = w.heap.size) = False := eq_false (by have := cell_lt HM.out; dsimp only at this; omega)
        have z1 : (w.heap.size = 0) = False := eq_false (by have := cell_lt HM.out; dsimp only at this; omega)
        go_region
        go_wp2
        (try simp only [Exit.inBlock, Exit.then])
        have hw := HP5.out.told 0 0 0 0 ⟨#[]⟩
        refine bodyPost_ret (results_ct rfl _ _ w.heap.size 24 _ (0, 0) _ rfl (blk_drew hw.1) Tryz.underlying24 rfl (by kernel_rfl)) rfl ?_
        exact ⟨by rw [HN3.out]; rfl, below_drew hw.2⟩
    · have hi3 : i = 3 := by have := HI.out; omega
      subst hi3
      have HN2 := HN.out
      rw [List.drop_of_length_le (by rw [HL.out]; omega)] at HN2
      replace HN2 := Aside0.mk (show some vs = nums (wl.map (·.data.toList)) by rw [← HN2]; simp [OpTxt.nums])
      have c1 : decide ((3 : Int) < 3) = false := by decide
      obtain ⟨k0, k1, k2, k3, k4, f0, f1, f2, f3, f4⟩ := blk_facts5 HP.out.op
      obtain ⟨r0, r1, r2, r3, r4, s0, s1, s2, s3, s4⟩ := blk_facts5 HP.out.res
      go_wp2
      (try simp only [Exit.inBlock, Exit.then])
      have hw := HP.out.told 1 (vs.getD 0 0) (vs.getD 1 0) (vs.getD 2 0) (last.extract 1 (last.size - 1))
      refine bodyPost_ret (results_ct rfl _ _ w.heap.size 24 _ (0, 0) _ rfl hw.1 Tryz.underlying24 rfl (by kernel_rfl)) rfl ?_
      exact ⟨by rw [← HN2.out]; rfl, hw.2⟩
set_option maxHeartbeats 1000000 in
set_option maxRecDepth 100000 in
theorem parse_text_none (a : Addr) (b : Nat) (w0 : ByteArray) (w : World) (hm : MalAt a w) (h0 : w.cell? ⟨b, 0, none⟩ = some (.string w0)) (h1 : (w0.toList == ([109, 97, 107, 101] : List UInt8)) = false) (h2 : (w0.toList == ([116, 101, 120, 116] : List UInt8)) = true) :
    Calls Tryz.prog 37 #[.slice (some ⟨b, 0, none⟩) 1 1] w fun e w' => e = .returned (noneV a) ∧ Below w.heap.size w w' := by
  go_enter Tryz.func37, Tryz.ntmps37
  have hb := cell_lt h0
  have hg := cell_lt hm
  dsimp only at hb hg
  have hb1 : b < w.heap.size + 1 := by omega
  have hb2 : b < w.heap.size + 1 + 1 := by omega
  have hc3 := cap3
  go_upto_region 17 with fail
  refine over_world (PState w (w.heap.size + 1) (w.heap.size + 1 + 1) 2 [] ⟨#[]⟩ 1) ⟨?_, ?_, ?_, ⟨_, new_at (by simp) rfl, one rfl⟩, by omega, by omega, by omega⟩ ?_
  · repeat (first | exact Below.refl _ _ | apply below_drew | apply below_alloc)
  · exact blk_alloc (new_at (by simp) rfl) _
  · exact blk_alloc (blk_alloc (new_at (by simp) rfl) _) _
  clear hc3 hb1 hb2 hb hg
  generalize w.heap.size + 1 + 1 = gF
  generalize w.heap.size + 1 = gO
  intro W1 hP
  have HP1 := Aside0.mk hP
  have HM := Aside0.mk hm
  obtain ⟨k0, k1, k2, k3, k4, f0, f1, f2, f3, f4⟩ := blk_facts5 hP.op
  obtain ⟨r0, r1, r2, r3, r4, s0, s1, s2, s3, s4⟩ := blk_facts5 hP.res
  have hm1 := pw_cell_below hP.below hm
  clear hP hm h0
  have z0 : (0 = w.heap.size) = False := eq_false (by have := cell_lt HM.out; dsimp only at this; omega)
  have z1 : (w.heap.size = 0) = False := eq_false (by have := cell_lt HM.out; dsimp only at this; omega)
  go_region
  go_wp2
  (try simp only [Exit.inBlock, Exit.then])
  have hw := HP1.out.told 0 0 0 0 ⟨#[]⟩
  refine bodyPost_ret (results_ct rfl _ _ w.heap.size 24 _ (0, 0) _ rfl (blk_drew hw.1) Tryz.underlying24 rfl (by kernel_rfl)) rfl ?_
  exact ⟨rfl, below_drew hw.2⟩
set_option maxHeartbeats 1000000 in
set_option maxRecDepth 100000 in
theorem parse_text_bad (a : Addr) (b m : Nat) (w0 last : ByteArray) (w : World) (hm : MalAt a w) (h0 : w.cell? ⟨b, 0, none⟩ = some (.string w0)) (hl : w.cell? ⟨b, 1 + m, none⟩ = some (.string last)) (hmm : m ≤ 1000) (hs : last.size ≤ 100) (hq : ¬ Quoted last) (h1 : (w0.toList == ([109, 97, 107, 101] : List UInt8)) = false) (h2 : (w0.toList == ([116, 101, 120, 116] : List UInt8)) = true) :
    Calls Tryz.prog 37 #[.slice (some ⟨b, 0, none⟩) (m + 2) (m + 2)] w fun e w' => e = .returned (noneV a) ∧ Below w.heap.size w w' := by
  go_enter Tryz.func37, Tryz.ntmps37
  have hb := cell_lt h0
  have hg := cell_lt hm
  dsimp only at hb hg
  have hb1 : b < w.heap.size + 1 := by omega
  have hb2 : b < w.heap.size + 1 + 1 := by omega
  have hc3 := cap3
  go_upto_region 18 with fail
  refine over_world (PState w (w.heap.size + 1) (w.heap.size + 1 + 1) 2 [] ⟨#[]⟩ 1) ⟨?_, ?_, ?_, ⟨_, new_at (by simp) rfl, one rfl⟩, by omega, by omega, by omega⟩ ?_
  · repeat (first | exact Below.refl _ _ | apply below_drew | apply below_alloc)
  · exact blk_alloc (new_at (by simp) rfl) _
  · exact blk_alloc (blk_alloc (new_at (by simp) rfl) _) _
  clear hc3 hb1 hb2 hb hg
  generalize w.heap.size + 1 + 1 = gF
  generalize w.heap.size + 1 = gO
  intro W1 hP
  have HP1 := Aside0.mk hP
  have HM := Aside0.mk hm
  obtain ⟨k0, k1, k2, k3, k4, f0, f1, f2, f3, f4⟩ := blk_facts5 hP.op
  obtain ⟨r0, r1, r2, r3, r4, s0, s1, s2, s3, s4⟩ := blk_facts5 hP.res
  have hm1 := pw_cell_below hP.below hm
  replace hl := pw_cell_below hP.below hl
  clear hP hm h0
  have hw1 : IntKind.i64.wrap (m : Int) = (m : Int) := by rw [i64_w]; exact wrap64_id (by omega)
  have hw2 : IntKind.i64.wrap ((last.size : Int) - 1) = (last.size : Int) - 1 := by rw [i64_w]; exact wrap64_id (by omega)
  have HQ := Aside0.mk hq
  clear hq
  by_cases q : (last.size : Int) < 2
  · have q0 : decide ((last.size : Int) < 2) = true := decide_eq_true q
    clear q
    go_upto_region 21 with fail
    have z0 : (0 = w.heap.size) = False := eq_false (by have := cell_lt HM.out; dsimp only at this; omega)
    have z1 : (w.heap.size = 0) = False := eq_false (by have := cell_lt HM.out; dsimp only at this; omega)
    go_region
    go_wp2
    (try simp only [Exit.inBlock, Exit.then])
    have hw := HP1.out.told 0 0 0 0 ⟨#[]⟩
    refine bodyPost_ret (results_ct rfl _ _ w.heap.size 24 _ (0, 0) _ rfl (blk_drew hw.1) Tryz.underlying24 rfl (by kernel_rfl)) rfl ?_
    exact ⟨rfl, below_drew hw.2⟩
  · have q0 : decide ((last.size : Int) < 2) = false := decide_eq_false q
    have q1 : 0 < last.size := by omega
    by_cases q2 : ((last[0]'q1).toNat : Int) = 39
    · have q3 : (((last[last.size - 1]'(Nat.sub_lt q1 Nat.one_pos)).toNat : Int) != 39) = true := by
        rw [bne_iff_ne]
        intro e
        exact HQ.out ⟨by omega, by omega, by omega⟩
      clear q
      go_upto_region 21 with fail
      have z0 : (0 = w.heap.size) = False := eq_false (by have := cell_lt HM.out; dsimp only at this; omega)
      have z1 : (w.heap.size = 0) = False := eq_false (by have := cell_lt HM.out; dsimp only at this; omega)
      go_region
      go_wp2
      (try simp only [Exit.inBlock, Exit.then])
      have hw := HP1.out.told 0 0 0 0 ⟨#[]⟩
      refine bodyPost_ret (results_ct rfl _ _ w.heap.size 24 _ (0, 0) _ rfl (blk_drew hw.1) Tryz.underlying24 rfl (by kernel_rfl)) rfl ?_
      exact ⟨rfl, below_drew hw.2⟩
    · clear q
      go_upto_region 21 with fail
      have z0 : (0 = w.heap.size) = False := eq_false (by have := cell_lt HM.out; dsimp only at this; omega)
      have z1 : (w.heap.size = 0) = False := eq_false (by have := cell_lt HM.out; dsimp only at this; omega)
      go_region
      go_wp2
      (try simp only [Exit.inBlock, Exit.then])
      have hw := HP1.out.told 0 0 0 0 ⟨#[]⟩
      refine bodyPost_ret (results_ct rfl _ _ w.heap.size 24 _ (0, 0) _ rfl (blk_drew hw.1) Tryz.underlying24 rfl (by kernel_rfl)) rfl ?_
      exact ⟨rfl, below_drew hw.2⟩
set_option maxHeartbeats 1000000 in
set_option maxRecDepth 100000 in
theorem parse_text_len (a : Addr) (b m : Nat) (w0 last : ByteArray) (w : World) (hm : MalAt a w) (h0 : w.cell? ⟨b, 0, none⟩ = some (.string w0)) (hl : w.cell? ⟨b, 1 + m, none⟩ = some (.string last)) (hmm : m ≤ 1000) (hs : last.size ≤ 100) (hq : Quoted last) (hne : m ≠ 1) (h1 : (w0.toList == ([109, 97, 107, 101] : List UInt8)) = false) (h2 : (w0.toList == ([116, 101, 120, 116] : List UInt8)) = true) :
    Calls Tryz.prog 37 #[.slice (some ⟨b, 0, none⟩) (m + 2) (m + 2)] w fun e w' => e = .returned (noneV a) ∧ Below w.heap.size w w' := by
  go_enter Tryz.func37, Tryz.ntmps37
  have hb := cell_lt h0
  have hg := cell_lt hm
  dsimp only at hb hg
  have hb1 : b < w.heap.size + 1 := by omega
  have hb2 : b < w.heap.size + 1 + 1 := by omega
  have hc3 := cap3
  go_upto_region 18 with fail
  refine over_world (PState w (w.heap.size + 1) (w.heap.size + 1 + 1) 2 [] ⟨#[]⟩ 1) ⟨?_, ?_, ?_, ⟨_, new_at (by simp) rfl, one rfl⟩, by omega, by omega, by omega⟩ ?_
  · repeat (first | exact Below.refl _ _ | apply below_drew | apply below_alloc)
  · exact blk_alloc (new_at (by simp) rfl) _
  · exact blk_alloc (blk_alloc (new_at (by simp) rfl) _) _
  clear hc3 hb1 hb2 hb hg
  generalize w.heap.size + 1 + 1 = gF
  generalize w.heap.size + 1 = gO
  intro W1 hP
  have HP1 := Aside0.mk hP
  have HM := Aside0.mk hm
  obtain ⟨k0, k1, k2, k3, k4, f0, f1, f2, f3, f4⟩ := blk_facts5 hP.op
  obtain ⟨r0, r1, r2, r3, r4, s0, s1, s2, s3, s4⟩ := blk_facts5 hP.res
  replace hl := pw_cell_below hP.below hl
  clear hP hm h0
  have hw1 : IntKind.i64.wrap (m : Int) = (m : Int) := by rw [i64_w]; exact wrap64_id (by omega)
  have hn1 : ((m : Int) != 1) = true := bne_iff_ne.2 (by omega)
  obtain ⟨q, q2, q3⟩ := hq
  have q1 : 0 < last.size := by omega
  have q0 : decide ((last.size : Int) < 2) = false := decide_eq_false (by omega)
  replace q2 : ((last[0]'q1).toNat : Int) = 39 := by omega
  replace q3 : (((last[last.size - 1]'(Nat.sub_lt q1 Nat.one_pos)).toNat : Int) != 39) = false := by rw [bne_eq_false_iff_eq]; omega
  have hw2 : IntKind.i64.wrap ((last.size : Int) - 1) = (last.size : Int) - 1 := by rw [i64_w]; exact wrap64_id (by omega)
  have hsl := slice_inner last q
  clear q
  go_upto_region 24 with fail
  refine over_world (PState w gO gF 2 [] (last.extract 1 (last.size - 1)) 1) (HP1.out.say _) ?_
  clear hl q0 q1 q2 q3 hw2 hsl HP1 k0 k1 k2 k3 k4 f0 f1 f2 f3 f4 r0 r1 r2 r3 r4 s0 s1 s2 s3 s4
  intro W2 hP
  have HP2 := Aside0.mk hP
  obtain ⟨r0, r1, r2, r3, r4, s0, s1, s2, s3, s4⟩ := blk_facts5 hP.res
  have hm1 := pw_cell_below hP.below HM.out
  clear hP
  have z0 : (0 = w.heap.size) = False := eq_false (by have := cell_lt HM.out; dsimp only at this; omega)
  have z1 : (w.heap.size = 0) = False := eq_false (by have := cell_lt HM.out; dsimp only at this; omega)
  go_region
  go_wp2
  (try simp only [Exit.inBlock, Exit.then])
  have hw := HP2.out.told 0 0 0 0 ⟨#[]⟩
  refine bodyPost_ret (results_ct rfl _ _ w.heap.size 24 _ (0, 0) _ rfl (blk_drew hw.1) Tryz.underlying24 rfl (by kernel_rfl)) rfl ?_
  exact ⟨rfl, below_drew hw.2⟩
set_option maxHeartbeats 1000000 in
set_option maxRecDepth 100000 in
theorem parse_text_go (a : Addr) (b : Nat) (w0 last : ByteArray) (wl : List ByteArray) (w : World) (ht : TabOk w) (hm : MalAt a w) (h0 : w.cell? ⟨b, 0, none⟩ = some (.string w0)) (hl : w.cell? ⟨b, 1 + 1, none⟩ = some (.string last)) (hs : last.size ≤ 100) (hq : Quoted last)
    (hc : ∀ j, j < 1 → ∃ x, wl[j]? = some x ∧ x.size ≤ 100 ∧ w.cell? ⟨b, 1 + j, none⟩ = some (.string x)) (hlen : wl.length = 1) (h1 : (w0.toList == ([109, 97, 107, 101] : List UInt8)) = false) (h2 : (w0.toList == ([116, 101, 120, 116] : List UInt8)) = true) :
    Calls Tryz.prog 37 #[.slice (some ⟨b, 0, none⟩) 3 3] w fun e w' => e = .returned (numV a 2 (last.extract 1 (last.size - 1)) (nums (wl.map (·.data.toList)))) ∧ Below w.heap.size w w' := by
  go_enter Tryz.func37, Tryz.ntmps37
  have hb := cell_lt h0
  have hg := cell_lt hm
  dsimp only at hb hg
  have hb1 : b < w.heap.size + 1 := by omega
  have hb2 : b < w.heap.size + 1 + 1 := by omega
  have hc3 := cap3
  go_upto_region 18 with fail
  refine over_world (PState w (w.heap.size + 1) (w.heap.size + 1 + 1) 2 [] ⟨#[]⟩ 1) ⟨?_, ?_, ?_, ⟨_, new_at (by simp) rfl, one rfl⟩, by omega, by omega, by omega⟩ ?_
  · repeat (first | exact Below.refl _ _ | apply below_drew | apply below_alloc)
  · exact blk_alloc (new_at (by simp) rfl) _
  · exact blk_alloc (blk_alloc (new_at (by simp) rfl) _) _
  clear hc3 hb1 hb2 hb hg
  generalize w.heap.size + 1 + 1 = gF
  generalize w.heap.size + 1 = gO
  intro W1 hP
  have HP1 := Aside0.mk hP
  have HM := Aside0.mk hm
  obtain ⟨k0, k1, k2, k3, k4, f0, f1, f2, f3, f4⟩ := blk_facts5 hP.op
  obtain ⟨r0, r1, r2, r3, r4, s0, s1, s2, s3, s4⟩ := blk_facts5 hP.res
  have HC := Aside0.mk hc
  have HT := Aside0.mk ht
  replace hl := pw_cell_below hP.below hl
  clear hP hc hm ht h0
  obtain ⟨q, q2, q3⟩ := hq
  have q1 : 0 < last.size := by omega
  have q0 : decide ((last.size : Int) < 2) = false := decide_eq_false (by omega)
  replace q2 : ((last[0]'q1).toNat : Int) = 39 := by omega
  replace q3 : (((last[last.size - 1]'(Nat.sub_lt q1 Nat.one_pos)).toNat : Int) != 39) = false := by rw [bne_eq_false_iff_eq]; omega
  have hw2 : IntKind.i64.wrap ((last.size : Int) - 1) = (last.size : Int) - 1 := by rw [i64_w]; exact wrap64_id (by omega)
  have hsl := slice_inner last q
  clear q
  go_upto_region 25 with fail
  refine over_world (PState w gO gF 2 [] (last.extract 1 (last.size - 1)) 1) (HP1.out.say _) ?_
  clear hl q0 q1 q2 q3 hw2 hsl HP1 k0 k1 k2 k3 k4 f0 f1 f2 f3 f4 r0 r1 r2 r3 r4 s0 s1 s2 s3 s4
  intro W2 hP
  have HP2 := Aside0.mk hP
  clear hP
  have HL := Aside0.mk hlen
  clear hlen
  go_wp2
  go_loopg [91] 2 (fun kq v91 w' => ∃ (i : Nat) (vs : List Int), v91 = .int .i64 (i : Int) ∧ Aside0 (i ≤ 1) ∧ Aside0 (kq = 1 - i + 1) ∧ Aside0 (vs.length = i) ∧ Aside0 ((nums ((wl.drop i).map (·.data.toList))).map (vs ++ ·) = nums (wl.map (·.data.toList))) ∧ Aside0 (PState w gO gF 2 vs (last.extract 1 (last.size - 1)) 1 w'))
  case atStart => exact ⟨0, [], rfl, ⟨by omega⟩, ⟨rfl⟩, ⟨rfl⟩, ⟨by simp⟩, HP2⟩
  case round =>
    obtain ⟨i, vs, rfl, HI, HQ, HV, HN, HP⟩ := hrel
    by_cases hi : i < 1
    · obtain ⟨x, hx, hxs, hxc⟩ := HC.out i hi
      replace hxc := pw_cell_below HP.out.below hxc
      have hil : i < wl.length := by rw [HL.out]; exact hi
      have hx2 : wl[i] = x := by rw [List.getElem?_eq_getElem hil] at hx; exact Option.some.inj hx
      have HN2 := HN.out
      rw [List.drop_eq_getElem_cons hil, hx2, List.map_cons] at HN2
      have c1 : decide ((i : Int) < 1) = true := decide_eq_true (by omega)
      have c2 : ((i : Int) < 1) = True := eq_true (by omega)
      have c3 : (0 ≤ (i : Int)) = True := eq_true (by omega)
      have hw3 : IntKind.i64.wrap ((i : Int) + 1) = ((i + 1 : Nat) : Int) := by rw [i64_w, wrap64_id (by omega)]; omega
      by_cases hok : ∃ v, Lib.atoiAll x.data.toList = .ok v
      · obtain ⟨v, hv⟩ := hok
        have HV2 := Aside0.mk hv
        have HX := Aside0.mk hxs
        have HI2 := Aside0.mk hi
        clear hv hxs hi hil hx2 hx
        go_wp2_with (go_at_call 49; refine (atoi_yes x HX.out HV2.out _).mono ?_; rintro e w5 ⟨rfl, hbl⟩; have HP5 := Aside0.mk (HP.out.later hbl); obtain ⟨g1, ⟨z, g2⟩, g3⟩ := HP5.out.place HI2.out (by omega); clear hbl)
        have HN3 : Aside0 ((nums ((wl.drop (i + 1)).map (·.data.toList))).map ((vs ++ [v]) ++ ·) = nums (wl.map (·.data.toList))) := ⟨by
          rw [← HN2]
          simp only [OpTxt.nums, HV2.out, Option.map_map]
          congr 1
          funext r
          simp⟩
        go_roundg (1 - (i + 1) + 1)
        case measure => have := HQ.out; have := HI2.out; omega
        case rel => exact ⟨i + 1, vs ++ [v], rfl, ⟨HI2.out⟩, ⟨rfl⟩, ⟨by rw [List.length_append, HV.out]; rfl⟩, HN3, ⟨by have h := HP5.out.put v (by have := HV.out; have := HI2.out; omega); rw [HV.out] at h; exact h⟩⟩
      · have HX := Aside0.mk hxs
        have HO := Aside0.mk (show ∀ v, Lib.atoiAll x.data.toList ≠ .ok v from fun v e => hok ⟨v, e⟩)
        have HN3 : Aside0 (nums (wl.map (·.data.toList)) = none) := ⟨by
          rw [← HN2]
          cases hc : Lib.atoiAll x.data.toList
          · exact absurd ⟨_, hc⟩ hok
          · simp [OpTxt.nums, hc]
          · simp [OpTxt.nums, hc]⟩
        clear hxs hi hil hx2 hx hok
        go_wp2_with (go_at_call 49; refine (atoi_no x HX.out HO.out _ (HT.out.below HP.out.below)).mono ?_; rintro e w5 ⟨⟨v, N, rfl⟩, hbl⟩; have HP5 := Aside0.mk (HP.out.later hbl); have hm1 := pw_cell_below HP5.out.below HM.out; obtain ⟨r0, r1, r2, r3, r4, s0, s1, s2, s3, s4⟩ := blk_facts5 HP5.out.res; clear hbl)
        have z0 : (0 = w.heap.size) = False := eq_false (by have := cell_lt HM.out; dsimp only at this; omega)
        have z1 : (w.heap.size = 0) = False := eq_false (by have := cell_lt HM.out; dsimp only at this; omega)
        go_region
        go_wp2
        (try simp only [Exit.inBlock, Exit.then])
        have hw := HP5.out.told 0 0 0 0 ⟨#[]⟩
        refine bodyPost_ret (results_ct rfl _ _ w.heap.size 24 _ (0, 0) _ rfl (blk_drew hw.1) Tryz.underlying24 rfl (by kernel_rfl)) rfl ?_
        exact ⟨by rw [HN3.out]; rfl, below_drew hw.2⟩
    · have hi3 : i = 1 := by have := HI.out; omega
      subst hi3
      have HN2 := HN.out
      rw [List.drop_of_length_le (by rw [HL.out]; omega)] at HN2
      replace HN2 := Aside0.mk (show some vs = nums (wl.map (·.data.toList)) by rw [← HN2]; simp [OpTxt.nums])
      have c1 : decide ((1 : Int) < 1) = false := by decide
      obtain ⟨k0, k1, k2, k3, k4, f0, f1, f2, f3, f4⟩ := blk_facts5 HP.out.op
      obtain ⟨r0, r1, r2, r3, r4, s0, s1, s2, s3, s4⟩ := blk_facts5 HP.out.res
      go_wp2
      (try simp only [Exit.inBlock, Exit.then])
      have hw := HP.out.told 2 (vs.getD 0 0) (vs.getD 1 0) (vs.getD 2 0) (last.extract 1 (last.size - 1))
      refine bodyPost_ret (results_ct rfl _ _ w.heap.size 24 _ (0, 0) _ rfl hw.1 Tryz.underlying24 rfl (by kernel_rfl)) rfl ?_
      exact ⟨by rw [← HN2.out]; rfl, hw.2⟩
set_option maxHeartbeats 1000000 in
set_option maxRecDepth 100000 in
theorem parse_move_none (a : Addr) (b : Nat) (w0 : ByteArray) (w : World) (hm : MalAt a w) (h0 : w.cell? ⟨b, 0, none⟩ = some (.string w0)) (h1 : (w0.toList == ([109, 97, 107, 101] : List UInt8)) = false) (h2 : (w0.toList == ([116, 101, 120, 116] : List UInt8)) = false) (h3 : (w0.toList == ([109, 111, 118, 101] : List UInt8)) = true) :
    Calls Tryz.prog 37 #[.slice (some ⟨b, 0, none⟩) 1 1] w fun e w' => e = .returned (noneV a) ∧ Below w.heap.size w w' := by
  go_enter Tryz.func37, Tryz.ntmps37
  have hb := cell_lt h0
  have hg := cell_lt hm
  dsimp only at hb hg
  have hb1 : b < w.heap.size + 1 := by omega
  have hb2 : b < w.heap.size + 1 + 1 := by omega
  have hc3 := cap3
  go_upto_region 24 with fail
  generalize (Question.appendCap 3 1 64).cut (w.tape w.drawn (Question.appendCap 3 1 64)) = cap
  refine over_world (PState w (w.heap.size + 1) (w.heap.size + 1 + 1 + 1 + 1) 3 [] ⟨#[]⟩ 3) ⟨?_, ?_, ?_, ⟨_, blk_drew (new_at (by simp) rfl), three cells3_0 cells3_1 cells3_2⟩, by omega, by omega, by omega⟩ ?_
  · repeat (first | exact Below.refl _ _ | apply below_drew | apply below_alloc)
  · exact blk_drew (blk_alloc (blk_alloc (blk_alloc (new_at (by simp) rfl) _) _) _)
  · exact blk_drew (blk_alloc (blk_alloc (blk_alloc (blk_alloc (new_at (by simp) rfl) _) _) _) _)
  clear hc3 hb1 hb2 hb hg
  generalize w.heap.size + 1 + 1 + 1 + 1 = gF
  generalize w.heap.size + 1 = gO
  intro W1 hP
  have HP1 := Aside0.mk hP
  have HM := Aside0.mk hm
  obtain ⟨k0, k1, k2, k3, k4, f0, f1, f2, f3, f4⟩ := blk_facts5 hP.op
  obtain ⟨r0, r1, r2, r3, r4, s0, s1, s2, s3, s4⟩ := blk_facts5 hP.res
  have hm1 := pw_cell_below hP.below hm
  clear hP hm h0
  have z0 : (0 = w.heap.size) = False := eq_false (by have := cell_lt HM.out; dsimp only at this; omega)
  have z1 : (w.heap.size = 0) = False := eq_false (by have := cell_lt HM.out; dsimp only at this; omega)
  go_region
  go_wp2
  (try simp only [Exit.inBlock, Exit.then])
  have hw := HP1.out.told 0 0 0 0 ⟨#[]⟩
  refine bodyPost_ret (results_ct rfl _ _ w.heap.size 24 _ (0, 0) _ rfl (blk_drew hw.1) Tryz.underlying24 rfl (by kernel_rfl)) rfl ?_
  exact ⟨rfl, below_drew hw.2⟩
set_option maxHeartbeats 1000000 in
set_option maxRecDepth 100000 in
theorem parse_move_len (a : Addr) (b m : Nat) (w0 : ByteArray) (w : World) (hm : MalAt a w) (h0 : w.cell? ⟨b, 0, none⟩ = some (.string w0)) (hmm : m ≤ 1000) (hne : m + 1 ≠ 3) (h1 : (w0.toList == ([109, 97, 107, 101] : List UInt8)) = false) (h2 : (w0.toList == ([116, 101, 120, 116] : List UInt8)) = false) (h3 : (w0.toList == ([109, 111, 118, 101] : List UInt8)) = true) :
    Calls Tryz.prog 37 #[.slice (some ⟨b, 0, none⟩) (m + 2) (m + 2)] w fun e w' => e = .returned (noneV a) ∧ Below w.heap.size w w' := by
  go_enter Tryz.func37, Tryz.ntmps37
  have hb := cell_lt h0
  have hg := cell_lt hm
  dsimp only at hb hg
  have hb1 : b < w.heap.size + 1 := by omega
  have hb2 : b < w.heap.size + 1 + 1 := by omega
  have hc3 := cap3
  have hn1 : ((m : Int) + 1 != 3) = true := bne_iff_ne.2 (by omega)
  go_upto_region 24 with fail
  generalize (Question.appendCap 3 1 64).cut (w.tape w.drawn (Question.appendCap 3 1 64)) = cap
  refine over_world (PState w (w.heap.size + 1) (w.heap.size + 1 + 1 + 1 + 1) 3 [] ⟨#[]⟩ 3) ⟨?_, ?_, ?_, ⟨_, blk_drew (new_at (by simp) rfl), three cells3_0 cells3_1 cells3_2⟩, by omega, by omega, by omega⟩ ?_
  · repeat (first | exact Below.refl _ _ | apply below_drew | apply below_alloc)
  · exact blk_drew (blk_alloc (blk_alloc (blk_alloc (new_at (by simp) rfl) _) _) _)
  · exact blk_drew (blk_alloc (blk_alloc (blk_alloc (blk_alloc (new_at (by simp) rfl) _) _) _) _)
  clear hc3 hb1 hb2 hb hg
  generalize w.heap.size + 1 + 1 + 1 + 1 = gF
  generalize w.heap.size + 1 = gO
  intro W1 hP
  have HP1 := Aside0.mk hP
  have HM := Aside0.mk hm
  obtain ⟨k0, k1, k2, k3, k4, f0, f1, f2, f3, f4⟩ := blk_facts5 hP.op
  obtain ⟨r0, r1, r2, r3, r4, s0, s1, s2, s3, s4⟩ := blk_facts5 hP.res
  have hm1 := pw_cell_below hP.below hm
  clear hP hm h0
  have z0 : (0 = w.heap.size) = False := eq_false (by have := cell_lt HM.out; dsimp only at this; omega)
  have z1 : (w.heap.size = 0) = False := eq_false (by have := cell_lt HM.out; dsimp only at this; omega)
  go_region
  all_goals (go_wp2; (try simp only [Exit.inBlock, Exit.then]); (have hw := HP1.out.told 0 0 0 0 ⟨#[]⟩); (refine bodyPost_ret (results_ct rfl _ _ w.heap.size 24 _ (0, 0) _ rfl (blk_drew hw.1) Tryz.underlying24 rfl (by kernel_rfl)) rfl ?_); exact ⟨rfl, below_drew hw.2⟩)
set_option maxHeartbeats 1000000 in
set_option maxRecDepth 100000 in
theorem parse_move_go (a : Addr) (b : Nat) (w0 : ByteArray) (wl : List ByteArray) (w : World) (ht : TabOk w) (hm : MalAt a w) (h0 : w.cell? ⟨b, 0, none⟩ = some (.string w0))
    (hc : ∀ j, j < 3 → ∃ x, wl[j]? = some x ∧ x.size ≤ 100 ∧ w.cell? ⟨b, 1 + j, none⟩ = some (.string x)) (hlen : wl.length = 3) (h1 : (w0.toList == ([109, 97, 107, 101] : List UInt8)) = false) (h2 : (w0.toList == ([116, 101, 120, 116] : List UInt8)) = false) (h3 : (w0.toList == ([109, 111, 118, 101] : List UInt8)) = true) :
    Calls Tryz.prog 37 #[.slice (some ⟨b, 0, none⟩) 4 4] w fun e w' => e = .returned (numV a 3 ⟨#[]⟩ (nums (wl.map (·.data.toList)))) ∧ Below w.heap.size w w' := by
  go_enter Tryz.func37, Tryz.ntmps37
  have hb := cell_lt h0
  have hg := cell_lt hm
  dsimp only at hb hg
  have hb1 : b < w.heap.size + 1 := by omega
  have hb2 : b < w.heap.size + 1 + 1 := by omega
  have hc3 := cap3
  go_upto_region 25 with fail
  generalize (Question.appendCap 3 1 64).cut (w.tape w.drawn (Question.appendCap 3 1 64)) = cap
  refine over_world (PState w (w.heap.size + 1) (w.heap.size + 1 + 1 + 1 + 1) 3 [] ⟨#[]⟩ 3) ⟨?_, ?_, ?_, ⟨_, blk_drew (new_at (by simp) rfl), three cells3_0 cells3_1 cells3_2⟩, by omega, by omega, by omega⟩ ?_
  · repeat (first | exact Below.refl _ _ | apply below_drew | apply below_alloc)
  · exact blk_drew (blk_alloc (blk_alloc (blk_alloc (new_at (by simp) rfl) _) _) _)
  · exact blk_drew (blk_alloc (blk_alloc (blk_alloc (blk_alloc (new_at (by simp) rfl) _) _) _) _)
  clear hc3 hb1 hb2 hb hg
  generalize w.heap.size + 1 + 1 + 1 + 1 = gF
  generalize w.heap.size + 1 = gO
  intro W1 hP
  have HP1 := Aside0.mk hP
  have HM := Aside0.mk hm
  obtain ⟨k0, k1, k2, k3, k4, f0, f1, f2, f3, f4⟩ := blk_facts5 hP.op
  obtain ⟨r0, r1, r2, r3, r4, s0, s1, s2, s3, s4⟩ := blk_facts5 hP.res
  have HC := Aside0.mk hc
  have HT := Aside0.mk ht
  clear hP hc hm ht h0
  clear k0 k1 k2 k3 k4 f0 f1 f2 f3 f4 r0 r1 r2 r3 r4 s0 s1 s2 s3 s4
  have HL := Aside0.mk hlen
  clear hlen
  go_wp2
  go_loopg [91] 4 (fun kq v91 w' => ∃ (i : Nat) (vs : List Int), v91 = .int .i64 (i : Int) ∧ Aside0 (i ≤ 3) ∧ Aside0 (kq = 3 - i + 1) ∧ Aside0 (vs.length = i) ∧ Aside0 ((nums ((wl.drop i).map (·.data.toList))).map (vs ++ ·) = nums (wl.map (·.data.toList))) ∧ Aside0 (PState w gO gF 3 vs ⟨#[]⟩ 3 w'))
  case atStart => exact ⟨0, [], rfl, ⟨by omega⟩, ⟨rfl⟩, ⟨rfl⟩, ⟨by simp⟩, HP1⟩
  case round =>
    obtain ⟨i, vs, rfl, HI, HQ, HV, HN, HP⟩ := hrel
    by_cases hi : i < 3
    · obtain ⟨x, hx, hxs, hxc⟩ := HC.out i hi
      replace hxc := pw_cell_below HP.out.below hxc
      have hil : i < wl.length := by rw [HL.out]; exact hi
      have hx2 : wl[i] = x := by rw [List.getElem?_eq_getElem hil] at hx; exact Option.some.inj hx
      have HN2 := HN.out
      rw [List.drop_eq_getElem_cons hil, hx2, List.map_cons] at HN2
      have c1 : decide ((i : Int) < 3) = true := decide_eq_true (by omega)
      have c2 : ((i : Int) < 3) = True := eq_true (by omega)
      have c3 : (0 ≤ (i : Int)) = True := eq_true (by omega)
      have hw3 : IntKind.i64.wrap ((i : Int) + 1) = ((i + 1 : Nat) : Int) := by rw [i64_w, wrap64_id (by omega)]; omega
      by_cases hok : ∃ v, Lib.atoiAll x.data.toList = .ok v
      · obtain ⟨v, hv⟩ := hok
        have HV2 := Aside0.mk hv
        have HX := Aside0.mk hxs
        have HI2 := Aside0.mk hi
        clear hv hxs hi hil hx2 hx
        go_wp2_with (go_at_call 49; refine (atoi_yes x HX.out HV2.out _).mono ?_; rintro e w5 ⟨rfl, hbl⟩; have HP5 := Aside0.mk (HP.out.later hbl); obtain ⟨g1, ⟨z, g2⟩, g3⟩ := HP5.out.place HI2.out (by omega); clear hbl)
        have HN3 : Aside0 ((nums ((wl.drop (i + 1)).map (·.data.toList))).map ((vs ++ [v]) ++ ·) = nums (wl.map (·.data.toList))) := ⟨by
          rw [← HN2]
          simp only [OpTxt.nums, HV2.out, Option.map_map]
          congr 1
          funext r
          simp⟩
        go_roundg (3 - (i + 1) + 1)
        case measure => have := HQ.out; have := HI2.out; omega
        case rel => exact ⟨i + 1, vs ++ [v], rfl, ⟨HI2.out⟩, ⟨rfl⟩, ⟨by rw [List.length_append, HV.out]; rfl⟩, HN3, ⟨by have h := HP5.out.put v (by have := HV.out; have := HI2.out; omega); rw [HV.out] at h; exact h⟩⟩
      · have HX := Aside0.mk hxs
        have HO := Aside0.mk (show ∀ v, Lib.atoiAll x.data.toList ≠ .ok v from fun v e => hok ⟨v, e⟩)
        have HN3 : Aside0 (nums (wl.map (·.data.toList)) = none) := ⟨by
          rw [← HN2]
          cases hc : Lib.atoiAll x.data.toList
          · exact absurd ⟨_, hc⟩ hok
          · simp [OpTxt.nums, hc]
          · simp [OpTxt.nums, hc]⟩
        clear hxs hi hil hx2 hx hok
        go_wp2_with (go_at_call 49; refine (atoi_no x HX.out HO.out _ (HT.out.below HP.out.below)).mono ?_; rintro e w5 ⟨⟨v, N, rfl⟩, hbl⟩; have HP5 := Aside0.mk (HP.out.later hbl); have hm1 := pw_cell_below HP5.out.below HM.out; obtain ⟨r0, r1, r2, r3, r4, s0, s1, s2, s3, s4⟩ := blk_facts5 HP5.out.res; clear hbl)
        have z0 : (0 = w.heap.size) = False := eq_false (by have := cell_lt HM.out; dsimp only at this; omega)
        have z1 : (w.heap.size = 0) = False := eq_false (by have := cell_lt HM.out; dsimp only at this; omega)
        go_region
        go_wp2
        (try simp only [Exit.inBlock, Exit.then])
        have hw := HP5.out.told 0 0 0 0 ⟨#[]⟩
        refine bodyPost_ret (results_ct rfl _ _ w.heap.size 24 _ (0, 0) _ rfl (blk_drew hw.1) Tryz.underlying24 rfl (by kernel_rfl)) rfl ?_
        exact ⟨by rw [HN3.out]; rfl, below_drew hw.2⟩
    · have hi3 : i = 3 := by have := HI.out; omega
      subst hi3
      have HN2 := HN.out
      rw [List.drop_of_length_le (by rw [HL.out]; omega)] at HN2
      replace HN2 := Aside0.mk (show some vs = nums (wl.map (·.data.toList)) by rw [← HN2]; simp [OpTxt.nums])
      have c1 : decide ((3 : Int) < 3) = false := by decide
      obtain ⟨k0, k1, k2, k3, k4, f0, f1, f2, f3, f4⟩ := blk_facts5 HP.out.op
      obtain ⟨r0, r1, r2, r3, r4, s0, s1, s2, s3, s4⟩ := blk_facts5 HP.out.res
      go_wp2
      (try simp only [Exit.inBlock, Exit.then])
      have hw := HP.out.told 3 (vs.getD 0 0) (vs.getD 1 0) (vs.getD 2 0) ⟨#[]⟩
      refine bodyPost_ret (results_ct rfl _ _ w.heap.size 24 _ (0, 0) _ rfl hw.1 Tryz.underlying24 rfl (by kernel_rfl)) rfl ?_
      exact ⟨by rw [← HN2.out]; rfl, hw.2⟩
end Go.Proofs.YtkoodlmedgfdjaaGreatDoor
