/- The program's walk over a planted tree, node by node, for every body of a loop over it that goes on; and its TreeText: the lines of the rows in order. Where the table lies as the program's text lays it. -/
import Derived.RangeFuncNested
import Derived.RangeFuncCalls
import Derived.Test.YtdapbpgooehibaaDoorTreeN
import Derived.Test.YtdapbpgooehibaaDoorTreeL
import Derived.Test.YtdapbpgooehibaaDoorTreeXM
namespace Go.Proofs.YtdapbpgooehibaaDoor
open Go.RowKit Go.Shelf Go.Proofs.YtdapbpgooehibaaDoorW.PrintWords Go.Proofs.YtdapbpgooehibaaDoorW.PrintLast Go.Proofs.YtdapbpgooehibaaDoorW.PrintMore Go.Proofs.YtdapbpgooehibaaDoor.P
set_option linter.unusedVariables false
set_option linter.unusedSimpArgs false

attribute [local go_sem] Oper.semAt_some

/-- Each block of cells that is not b and no row of bytes stands. -/
def KeptC (b : Nat) (W W' : World) : Prop := ∀ k c t, W.heap[k]? = some (.cells c t (0, 0)) → k ≠ b → t ≠ 5 → W'.heap[k]? = some (.cells c t (0, 0))
theorem KeptC.refl (b : Nat) (W : World) : KeptC b W W := fun _ _ _ h _ _ => h
theorem KeptC.trans {b : Nat} {A B C : World} (h : KeptC b A B) (k : KeptC b B C) : KeptC b A C := fun i c t hi hb ht => k i c t (h i c t hi hb ht) hb ht
theorem KeptC.box {b : Nat} {W W' : World} (h : KeptC b W W') {B : Nat} {t : TypeId} {v : Value} (hB : Boxed W B t v) (hb : B ≠ b) (ht : t ≠ 5) : Boxed W' B t v := h B _ t hB hb ht
theorem KeptC.alloc {b : Nat} {A W : World} (h : KeptC b A W) (o : Obj) : KeptC b A (W.alloc o) := fun i c t hi hb ht => (Below.heap_alloc W o i (Array.getElem?_eq_some_iff.1 (h i c t hi hb ht)).1).trans (h i c t hi hb ht)
theorem KeptC.below {b : Nat} {W W' : World} (h : Below W.heap.size W W') : KeptC b W W' := fun i c t hi _ _ => (h.block i (Array.getElem?_eq_some_iff.1 hi).1).trans hi
theorem keptC_calm {β : Type} {b B : Nat} {w₀ : World} (hB : w₀.heap.size ≤ B) : CalmFrom 5 B (fun (_ : β) W => KeptC b w₀ W) := calm_low fun s A C row hs hg hr k c t hk hkb ht => by
  have h1 := hs k c t hk hkb ht
  have hkl : k < w₀.heap.size := (Array.getElem?_eq_some_iff.1 hk).1
  rw [hg.block k (Array.getElem?_eq_some_iff.1 h1).1 (fun e => by have := hr k e.symm; omega)]
  exact h1
theorem below_calm {β : Type} {n₀ B : Nat} {w₀ : World} (hn : n₀ ≤ w₀.heap.size) (hB : n₀ ≤ B) : CalmFrom 5 B (fun (_ : β) W => Below n₀ w₀ W) := calm_low fun _ _ _ _ hs hg hr => hs.grown hg (Nat.le_trans hn hs.size) (fun k e => Nat.le_trans hB (hr k e))
theorem box_calm {β : Type} {B q : Nat} (hq : q < B) (t : TypeId) (v : Value) : CalmFrom 5 B (fun (_ : β) W => Boxed W q t v) := calm_low fun _ _ _ _ hs hg hr => hs.kept hg (fun e => by have := hr q e.symm; omega)
theorem keptC_turn {b : Nat} {w : World} (W : World) (l : Nat) (o o' : Obj) (h : W.heap[l]? = some o) (hc : o.isCells = false) : KeptC b W (W.putObj l o') := fun k c t hk hkb ht => by
  rw [World.putObj_heap_other (fun e => by subst e; rw [h] at hk; cases hk; cases hc)]
  exact hk
theorem keepsOthers_calm {β : Type} {B : Nat} {w₀ : World} (hB : w₀.heap.size ≤ B) : CalmFrom 5 B (fun (_ : β) W => KeepsOthers w₀ W) := calm_low fun s A C row hs hg hr => by
  refine ⟨Nat.le_trans hs.size hg.size, fun k o hk ho => ?_⟩
  have h1 := hs.same k o hk ho
  have hkl : k < w₀.heap.size := (Array.getElem?_eq_some_iff.1 hk).1
  rw [hg.block k (Array.getElem?_eq_some_iff.1 h1).1 (fun e => by have := hr k e.symm; omega)]
  exact h1
theorem KeepsOthers.below' {W W' : World} (h : Below W.heap.size W W') : KeepsOthers W W' := ⟨h.size, fun k o hk _ => (h.block k (Array.getElem?_eq_some_iff.1 hk).1).trans hk⟩
/-- What a round of a loop over the tree keeps. -/
def KB (n₀ b : Nat) (W W' : World) : Prop := Below n₀ W W' ∧ KeptC b W W'
theorem KB.trans {n₀ b : Nat} {A B C : World} (h : KB n₀ b A B) (k : KB n₀ b B C) : KB n₀ b A C := ⟨h.1.trans k.1, h.2.trans k.2⟩
theorem kb_turn {n₀ b : Nat} {w : World} (hn : n₀ ≤ w.heap.size) (W : World) (l : Nat) (o o' : Obj) (hl : w.heap.size ≤ l) (h : W.heap[l]? = some o) (h1 : o.isCells = false) (h2 : o.isWalk = false) : KB n₀ b W (W.putObj l o') :=
  ⟨belowK_b hn W l o o' hl h h1 h2, keptC_turn (w := w) W l o o' h h1⟩

/-- A place of an outline. -/
abbrev Pl (l : List S29) := { x : Nat // x < l.length }
def plVal (nb : Nat → Nat) {l : List S29} (x : Pl l) : Array Value := #[.pointer (some ⟨nb x.1, 0, none⟩), .int .i64 (depthAt l x.1)]
theorem round_any {m m' : Nat} {P : Program} {l : Nat} {f : FuncId} {tmps : Array Value} {assign body : Code} {w : World} {R : Ending → World → Prop}
    (h : RoundIn Fence.wide m P l f tmps assign body w R) : RoundIn Fence.wide m' P l f tmps assign body w R := ⟨h.1, fun c cs _ => h.2 c cs (fun d h => by cases h)⟩
theorem yield_any {m : Nat} (m' : Nat) {P : Program} {l : Nat} {args : Array Value} {W : World} {R : Ending → World → Prop} (h : YieldAt Fence.wide m P l args W R) : YieldAt Fence.wide m' P l args W R := by
  obtain ⟨fn, tmps, assign, body, hy, hR⟩ := h
  exact ⟨fn, tmps, assign, body, hy, round_any hR⟩

set_option maxRecDepth 100000 in
set_option maxHeartbeats 1000000 in
/-- The kids, one after the other, for rounds that go on. -/
theorem kids_all (n b : Nat) (hn : 1 ≤ n) (Bn n₀ : Nat) (nb : Nat → Nat) (l : List S29) (i : Nat) (hi : i < l.length) (w : World) (hBn : Bn < w.heap.size) (hn₀ : n₀ ≤ w.heap.size)
    (hc : w.cell? ⟨Bn, 0, none⟩ = some (.pointer (some ⟨nb i, 0, none⟩))) (hL : Nodes n₀ w nb l) :
    SeqAll 5 Fence.wide n Tryd.prog 92 #[.pointer (some ⟨Bn, 0, none⟩)] (kidVal nb (l := l) (i := i)) (KB n₀ b) (fun pre x => ∃ rest, Tree.kidsOf (depthAt l) l.length i = pre.map Subtype.val ++ x.1 :: rest) (fun ys => ys.map Subtype.val = Tree.kidsOf (depthAt l) l.length i) w := fun lp J W hW _ hY h0 => by
  have hBc : W.cell? ⟨Bn, 0, none⟩ = some (.pointer (some ⟨nb i, 0, none⟩)) := (hW.cell (p := ⟨Bn, 0, none⟩) hBn).trans hc
  have hL2 : Nodes n₀ W nb l := hL.below (hW.mono hn₀)
  obtain ⟨q0, hq0⟩ : ∃ q0, q0 = ptr nb (Tree.kid1 (depthAt l) l.length i) := ⟨_, rfl⟩
  have hfirst : W.cell? ⟨nb i, 3, none⟩ = some (.pointer q0) := (blk_cell (hL2.node i hi) 3).trans (by rw [hq0]; rfl)
  refine callsIn_of_wp Tryd.func92 rfl trivial ?_ rfl
  simp only [Tryd.ntmps92, List.size_toArray, List.length_cons, List.length_nil, Nat.reduceAdd, Nat.reduceSub, Array.replicate_succ, Array.replicate_zero, List.push_toArray, List.append_toArray, List.nil_append, List.cons_append]
  replace hq0 := Aside0.mk hq0
  clear hc hW hL
  gi_wp2
  gi_loopw [3] (fun p wr => ∃ (pre : List (Kid l i)) (rest : List Nat) (o : Option Nat), p = .pointer (ptr nb o) ∧ Aside0 (Tree.kidsOf (depthAt l) l.length i = pre.map Subtype.val ++ rest) ∧ Aside0 (Chain (depthAt l) l.length o rest) ∧ Aside0 (Nodes n₀ wr nb l) ∧ J pre wr)
    (fun p wr => leftK (depthAt l) l.length nb p)
  case atStart =>
    exact ⟨[], Tree.kidsOf (depthAt l) l.length i, Tree.kid1 (depthAt l) l.length i, by rw [hq0.out], ⟨rfl⟩, ⟨chain_kids _ _ _⟩, ⟨hL2⟩, h0⟩
  case round =>
    obtain ⟨pre, rest, o, rfl, HX, HL, HN, hJs⟩ := hrel
    cases rest with
    | nil =>
      obtain rfl : o = none := HL.out
      dsimp only [ptr, Option.map]
      gi_wp2
      go_end0
      exact ⟨⟨_, rfl⟩, pre, by simpa using HX.out.symm, hJs⟩
    | cons x rest =>
      obtain ⟨rfl, hxl, hr⟩ := HL.out
      have hxp : Tree.par (depthAt l) x = some i := (Tree.mem_kids.1 (show x ∈ Tree.kidsOf (depthAt l) l.length i by rw [HX.out]; simp)).2
      obtain ⟨q, hqq⟩ : ∃ q, q = ptr nb (Tree.sib (depthAt l) l.length x) := ⟨_, rfl⟩
      replace hqq := Aside0.mk hqq
      obtain ⟨fn, tmps, assign, body, hy, hR⟩ := hY pre ⟨x, hxl, hxp⟩ wr hJs ⟨rest, HX.out⟩
      dsimp only [kidVal] at hy
      replace hr := Aside0.mk hr
      replace hxp := Aside0.mk hxp
      dsimp only [ptr, Option.map]
      gi_wp2
      refine hR.mono ?_
      rintro e W3 ⟨rfl, hJ3, ⟨hk3, _⟩, _⟩
      have hq3 : W3.cell? ⟨nb x, 4, none⟩ = some (.pointer q) := (blk_cell ((HN.out.below hk3).node x hxl) 4).trans (by rw [hqq.out]; rfl)
      replace hk3 := Aside0.mk hk3
      gi_wp2
      go_roundw
      case rel => exact ⟨pre ++ [⟨x, hxl, hxp.out⟩], rest, Tree.sib (depthAt l) l.length x, by rw [hqq.out]; cases Tree.sib (depthAt l) l.length x <;> rfl, ⟨by rw [HX.out]; simp⟩, ⟨hr.out⟩, ⟨HN.out.below hk3.out⟩, hJ3⟩
      case measure =>
        rw [hqq.out, leftK_eq HN.out.inj hr.out, show (some ⟨nb x, 0, none⟩ : Option Addr) = ptr nb (some x) from rfl, leftK_eq HN.out.inj HL.out]; simp

/-- What lies behind the walk from a node on: all up to its end have come. -/
def Walked (n₀ b i : Nat) (l : List S29) (J : List (Pl l) → World → Prop) (W : World) (e : Ending) (W' : World) : Prop :=
  e = .returned (.bool true) ∧ (∃ ys : List (Pl l), ys.map Subtype.val = List.range (Tree.endOf (depthAt l) l.length i) ∧ J ys W') ∧ KB n₀ b W W' ∧ KeepsOthers W W'
set_option maxRecDepth 100000 in
set_option maxHeartbeats 4000000 in
theorem walk_calls (lp n₀ b B : Nat) (nb : Nat → Nat) (l : List S29) (hv : tok l [] 0 (-1) = true) (J : List (Pl l) → World → Prop) (hJ : CalmFrom 5 B J) (hb : b < B) (hn : n₀ ≤ B)
    (hY : ∀ m pre (x : Pl l) W, J pre W → pre.map Subtype.val = List.range x.1 → YieldAt Fence.wide m Tryd.prog lp (plVal nb x) W fun e W' => e = .returned (.bool true) ∧ J (pre ++ [x]) W' ∧ KB n₀ b W W' ∧ KeepsOthers W W') :
    ∀ (s i : Nat), i < l.length → Tree.endOf (depthAt l) l.length i - i ≤ s → ∀ (pre : List (Pl l)) (W : World), B ≤ W.heap.size → Nodes n₀ W nb l → J pre W → pre.map Subtype.val = List.range i → ∀ d : Int, d = depthAt l i →
      Calls Tryd.prog 73 #[.pointer (some ⟨nb i, 0, none⟩), .int .i64 d, .func (.yield lp) #[] #[]] W (Walked n₀ b i l J W) := by
  intro s
  induction s with
  | zero =>
    intro i hi hs
    have := (Tree.endOf_spec (D := depthAt l) hi).1
    omega
  | succ s ih =>
    intro i hi hs pre W hW hL hJp hp d hd
    obtain ⟨W3, hW3⟩ : ∃ W3, W3 = ((W.alloc (.cells #[.int .i64 d] 3)).alloc (.cells #[.func (.yield lp) #[] #[]] 116)).alloc (.cells #[.bool false] 4) := ⟨_, rfl⟩
    have hB3 : Below W.heap.size W W3 := by rw [hW3]; exact (((Below.refl _ W).alloc (Nat.le_refl _) _).alloc (by simp) _).alloc (by simp; omega) _
    have hJ3 : J pre W3 := by rw [hW3]; exact hJ.own.alloc _ (hJ.own.alloc _ (hJ.own.alloc _ hJp))
    obtain ⟨fn, tmps, assign, body, hy, hR⟩ := hY (3 - 1) pre ⟨i, hi⟩ W3 hJ3 hp
    dsimp only [plVal] at hy
    rw [← hd] at hy
    refine (callsIn_wide (n := 3)).1 ?_
    refine callsIn_of_wp_marks Tryd.func73 rfl trivial ?_ rfl
    simp only [Tryd.ntmps73, List.size_toArray, List.length_cons, List.length_nil, Nat.reduceAdd, Nat.reduceSub, Array.replicate_succ, Array.replicate_zero, List.push_toArray, List.append_toArray, List.nil_append, List.cons_append]
    rw [hW3] at hy hR
    have HD := Aside0.mk hd
    have HP := Aside0.mk hp
    have HS := Aside0.mk hs
    clear hd hp hs
    replace hW3 := Aside0.mk hW3
    gi_wp2_with (first | (refine hR.mono ?_; clear hR; rintro e W4 ⟨rfl, hJ4, hk4, ho4⟩) | (refine ⟨trivial, ?_⟩; gi_at_call 84; refine (kids_in _ _ trivial rfl _ _).mono ?_; rintro e w3 ⟨rfl, rfl⟩))
    have hW' := hW
    have hBW : n₀ ≤ W.heap.size := Nat.le_trans hn hW
    have hbW : b < W.heap.size := Nat.lt_of_lt_of_le hb hW
    have bD : Boxed W4 W.heap.size 3 (.int .i64 d) := hk4.2.box (((Boxed.new W _ _).alloc _).alloc _) (by omega) (by decide)
    have bY : Boxed W4 (W.heap.size + 1) 116 (.func (.yield lp) #[] #[]) := hk4.2.box ((by have h := Boxed.new (W.alloc (.cells #[.int .i64 d] 3)) 116 (.func (.yield lp) #[] #[]); rw [World.size_alloc] at h; exact h : Boxed _ (W.heap.size + 1) _ _).alloc _) (by omega) (by decide)
    have bR : Boxed W4 (W.heap.size + 1 + 1) 4 (.bool false) := hk4.2.box (by have h := Boxed.new ((W.alloc (.cells #[.int .i64 d] 3)).alloc (.cells #[.func (.yield lp) #[] #[]] 116)) 4 (.bool false); rw [World.size_alloc, World.size_alloc] at h; exact h) (by omega) (by decide)
    have hBel : Below W.heap.size W (((W.alloc (.cells #[.int .i64 d] 3)).alloc (.cells #[.func (.yield lp) #[] #[]] 116)).alloc (.cells #[.bool false] 4)) := by rw [← hW3.out]; exact hB3
    have hK4 : KB n₀ b W W4 := KB.trans ⟨hBel.mono hBW, KeptC.below hBel⟩ hk4
    have hO4 : KeepsOthers W W4 := (KeepsOthers.below' hBel).trans ho4
    have hL4 : Nodes n₀ W4 nb l := hL.below hK4.1
    have hs4 : W.heap.size ≤ W4.heap.size := hO4.size
    have hs5 : W.heap.size + 1 + 1 < W4.heap.size := bR.lt
    have hdb := rowB_bounds (valid_row hv hi)
    have hst := valid_steps hv
    refine rangeFunc_all 5 rfl (by omega) (gf := 92) (lb := #[.pointer (some ⟨W4.heap.size, 0, none⟩)]) rfl trivial (enters_of Tryd.func92 (by kernel_rfl) rfl)
      (kids_all (3 - 1) b (by omega) W4.heap.size n₀ nb l i hi _ (by simp) (by simp; omega) (Boxed.new W4 59 _).cell (hL4.below ((Below.refl n₀ W4).alloc (by omega) _))) KB.trans (fun U q o o' hl h h1 h2 => kb_turn (w := W4.alloc (.cells #[.pointer (some ⟨nb i, 0, none⟩)] 59)) (by simp; omega) U q o o' hl h h1 h2) (fun _ => rfl)
      (fun ks U => (∃ ys : List (Pl l), ys.map Subtype.val = List.range (Tree.upto (depthAt l) l.length i (ks.map Subtype.val)) ∧ J ys U) ∧ (Boxed U W.heap.size 3 (.int .i64 d) ∧ Boxed U (W.heap.size + 1) 116 (.func (.yield lp) #[] #[]) ∧ Boxed U (W.heap.size + 1 + 1) 4 (.bool false)) ∧ KB n₀ b W U ∧ KeepsOthers W U)
      ?own ?start
      (fun x => { tmps := #[.pointer (some ⟨nb i, 0, none⟩), .int .i64 d, .func (.yield lp) #[] #[], undef, .pointer (some ⟨W.heap.size, 0, none⟩), .pointer (some ⟨W.heap.size + 1, 0, none⟩), .pointer (some ⟨W.heap.size + 1 + 1, 0, none⟩), .pointer (some ⟨nb x.1, 0, none⟩), .func (.yield lp) #[] #[], .pointer (some ⟨nb i, 0, none⟩), .int .i64 d, .bool true, .bool false, .pointer (some ⟨nb i, 0, none⟩), .func (.func 92) #[] #[.pointer (some ⟨W4.heap.size, 0, none⟩)], .pointer (some ⟨nb x.1, 0, none⟩), undef, undef, undef, undef, undef, undef], defers := [] }) ?assign ?body ?done
    case own =>
      refine CalmFrom.and ?_ (CalmFrom.and (CalmFrom.and (box_calm (by simp; omega) _ _) (CalmFrom.and (box_calm (by simp; omega) _ _) (box_calm (by simp; omega) _ _))) (CalmFrom.and (CalmFrom.and (below_calm hBW (by simp; omega)) (keptC_calm (by simp; omega))) (keepsOthers_calm (by simp; omega))))
      rintro ks A C row ⟨ys, e, h⟩ hg hr
      exact ⟨ys, e, hJ ys A C row h hg (fun r er => ⟨by have := (hr r er).1; simp at this; omega, (hr r er).2⟩)⟩
    case start =>
      refine ⟨⟨pre ++ [⟨i, hi⟩], by rw [List.map_append, HP.out]; simp [Tree.upto_nil, List.range_succ], hJ.own.alloc _ hJ4⟩, ⟨bD.alloc _, bY.alloc _, bR.alloc _⟩, ⟨hK4.1.trans ((Below.refl n₀ W4).alloc (by omega) _), hK4.2.alloc _⟩, hO4.trans (KeepsOthers.alloc _ _)⟩
    case assign =>
      intro q x U K hK
      dsimp only [kidVal]
      gi_wp2
      exact hK
    case body =>
      rintro q ks x U ⟨⟨ys, hys, hj⟩, ⟨b1, b2, b3⟩, hk, ho⟩ ⟨rest, hx⟩
      have hxi : x.1 = Tree.upto (depthAt l) l.length i (ks.map Subtype.val) := Tree.next_kid hst hi hx
      have hxk := (Tree.kid_iff hst hi x.2.1).1 x.2.2
      have hxe : Tree.endOf (depthAt l) l.length x.1 ≤ Tree.endOf (depthAt l) l.length i := by
        have a1 := Tree.endOf_spec (D := depthAt l) hi
        have a2 := Tree.endOf_spec (D := depthAt l) x.2.1
        rcases Nat.lt_or_ge (Tree.endOf (depthAt l) l.length i) (Tree.endOf (depthAt l) l.length x.1) with c | c
        · have y1 := a2.2.2.1 _ hxk.2.1 c
          have y2 := a1.2.2.2 (by omega)
          omega
        · exact c
      have hc := ih x.1 x.2.1 (by have := HS.out; omega) ys U (by have := ho.size; omega) (hL.below hk.1) hj (by rw [hys, ← hxi]) (d + 1) (by rw [HD.out]; exact hxk.2.2.symm)
      have c1 := b1.cell
      have c2 := b2.cell
      have d0 : 0 ≤ d := by rw [HD.out]; exact hdb.2.1
      have d1 : d ≤ 18 := by rw [HD.out]; exact hdb.2.2
      have HC := Aside0.mk hc
      clear hc hys hxi hxk hxe hx ih
      gi_wp2_with ((refine ⟨trivial, ?_⟩; gi_at_call 73; refine (CallsIn.inRound q (callsIn_wide.2 HC.out)).mono ?_; rintro e U2 ⟨rfl, hw2, hk2, ho2⟩))
      obtain ⟨ys2, hy2, hj2⟩ := hw2
      exact ⟨ho2, hk2, ⟨ys2, by rw [hy2, List.map_append, List.map_cons, List.map_nil, Tree.upto_snoc], hj2⟩, ⟨hk2.2.box b1 (by omega) (by decide), hk2.2.box b2 (by omega) (by decide), hk2.2.box b3 (by omega) (by decide)⟩, hk.trans hk2, ho.trans ho2⟩
    case done =>
      rintro Dd ks U hDl hks ⟨⟨ys, hys, hj⟩, ⟨b1, b2, b3⟩, hk, ho⟩ hK
      have c3 := b3.cell
      have f3 := b3.frozen
      gi_wp2
      have hK2 : (U.setCell ⟨W.heap.size + 1 + 1, 0, none⟩ (.bool true)).heap[Dd]? = some (.deferred (some [])) := (KeepsOthers.setCell U _ _).same Dd _ hK rfl
      refine ⟨by simp, .inl ⟨_, _, rfl, run_takeDeferred hK2, ?_⟩⟩
      obtain ⟨X, hX⟩ : ∃ X, X = (U.setCell ⟨W.heap.size + 1 + 1, 0, none⟩ (.bool true)).putObj Dd (.deferred none) := ⟨_, rfl⟩
      have g1 : U.grownBy (U.setCell ⟨W.heap.size + 1 + 1, 0, none⟩ (.bool true)) (some (W.heap.size + 1 + 1)) := grownBy_setCell' U _ _
      have g2 : (U.setCell ⟨W.heap.size + 1 + 1, 0, none⟩ (.bool true)).grownBy X (some Dd) := by rw [hX]; exact grownBy_putObj' _ _ _
      have hDs : W4.heap.size + 1 ≤ Dd := by simpa using hDl
      have bX : Boxed X (W.heap.size + 1 + 1) 4 (.bool true) := (b3.set (.bool true)).kept g2 (by intro e; cases e; omega)
      have cX := bX.cell
      have hjX : J ys X := hJ ys _ _ _ (hJ ys _ _ _ hj g1 (fun r er => by cases er; exact ⟨by omega, _, b3, fun c fz e2 => by cases e2⟩)) g2 (fun r er => by cases er; exact ⟨by omega, _, hK2, fun c fz e2 => by cases e2⟩)
      have hyX : ys.map Subtype.val = List.range (Tree.endOf (depthAt l) l.length i) := by rw [hys, hks, Tree.upto_all hst hi]
      have kX : KB n₀ b W X := ⟨(hk.1.grown g1 (by have := ho.size; omega) (fun k e => by cases e; omega)).grown g2 (by have := ho.size; simp; omega) (fun k e => by cases e; omega), keptC_calm (β := Unit) (B := W.heap.size) (Nat.le_refl _) () _ _ _ (keptC_calm (β := Unit) (B := W.heap.size) (Nat.le_refl _) () _ _ _ hk.2 g1 (fun r er => by cases er; exact ⟨by omega, _, b3, fun c fz e2 => by cases e2⟩)) g2 (fun r er => by cases er; exact ⟨by omega, _, hK2, fun c fz e2 => by cases e2⟩)⟩
      have oX : KeepsOthers W X := keepsOthers_calm (β := Unit) (B := W.heap.size) (Nat.le_refl _) () _ _ _ (keepsOthers_calm (β := Unit) (B := W.heap.size) (Nat.le_refl _) () _ _ _ ho g1 (fun r er => by cases er; exact ⟨by omega, _, b3, fun c fz e2 => by cases e2⟩)) g2 (fun r er => by cases er; exact ⟨by omega, _, hK2, fun c fz e2 => by cases e2⟩)
      rw [← hX]
      exact ⟨.bool true, by simp [results, Tryd.results73, go_sem, cX], rfl, ⟨ys, hyX, hjX⟩, kX, oX⟩
theorem rootsTo_mono (l : List S29) {a b : Nat} (h : a ≤ b) : rootsTo l a ≤ rootsTo l b := by
  unfold rootsTo
  have e : l.take a = (l.take b).take a := by rw [List.take_take]; congr 1; omega
  rw [e]
  exact (List.take_sublist _ _).countP_le
/-- Where the three roots stand: each where the one ahead of it ends. -/
theorem root_stops {l : List S29} (hv : tok l [] 0 (-1) = true) : ∃ st : Nat → Nat, st 0 = 0 ∧ st 3 = l.length ∧ ∀ k, k < 3 → placeOf l l.length ((k + 1 : Nat) : Int) = some (st k) ∧ st k < l.length ∧ depthAt l (st k) = 0 ∧ Tree.endOf (depthAt l) l.length (st k) = st (k + 1) := by
  obtain ⟨i1, p1⟩ := root_place hv (r := 1) (by omega) (by omega)
  obtain ⟨i2, p2⟩ := root_place hv (r := 2) (by omega) (by omega)
  obtain ⟨i3, p3⟩ := root_place hv (r := 3) (by omega) (by omega)
  have at_ : ∀ {i : Nat} {r : Int}, placeOf l l.length r = some i → i < l.length ∧ idAt l i = r := fun {i r} h => ⟨(Tree.firstB_some.1 h).1, by simpa using (Tree.firstB_some.1 h).2.1⟩
  obtain ⟨h1, e1⟩ := at_ p1
  obtain ⟨h2, e2⟩ := at_ p2
  obtain ⟨h3, e3⟩ := at_ p3
  have r1 : rootB (idAt l i1) = true := by rw [e1]; decide
  have r2 : rootB (idAt l i2) = true := by rw [e2]; decide
  have r3 : rootB (idAt l i3) = true := by rw [e3]; decide
  have zero : ∀ {i : Nat}, i < l.length → rootB (idAt l i) = true → depthAt l i = 0 := fun {i} hi hr => by
    have a := (root_depth hv hi).1 hr
    have b := rowB_bounds (valid_row hv hi)
    have := b.2.1
    omega
  have d1 := zero h1 r1
  have d2 := zero h2 r2
  have d3 := zero h3 r3
  have c1 := root_id hv h1 r1
  have c2 := root_id hv h2 r2
  have c3 := root_id hv h3 r3
  have hi1 : i1 = 0 := by
    have h0 : 0 < l.length := by omega
    have z := (valid_steps hv).2.1 h0
    have rz : rootB (idAt l 0) = true := (root_depth hv h0).2 (by omega)
    have cz := root_id hv h0 rz
    exact valid_id hv h1 h0 (by rw [e1, cz]; rfl)
  subst hi1
  have step : ∀ {i j : Nat} {r : Int}, i < l.length → rootB (idAt l i) = true → idAt l i = r → depthAt l i = 0 → j < l.length → depthAt l j = 0 → idAt l j = r + 1 → i < j → Tree.endOf (depthAt l) l.length i = j := by
    intro i j r hi ri ei di hj dj ej hij
    obtain ⟨q1, q2, q3, q4⟩ := Tree.endOf_spec (D := depthAt l) hi
    have hle : Tree.endOf (depthAt l) l.length i ≤ j := by
      rcases Nat.lt_or_ge j (Tree.endOf (depthAt l) l.length i) with c | c
      · have := q3 j hij c; omega
      · exact c
    obtain ⟨_, n2⟩ := next_root hv hi ri (by omega)
    exact valid_id hv (by omega) hj (by rw [n2, ei, ej])
  have hi2 : 0 < i2 := by
    rcases Nat.eq_zero_or_pos i2 with h | h
    · subst h; omega
    · exact h
  have hi3 : i2 < i3 := by
    rcases Nat.lt_or_ge i2 i3 with h | h
    · exact h
    · have := rootsTo_mono l h; omega
  have s1 := step h1 r1 e1 d1 h2 d2 (by rw [e2]; rfl) hi2
  have s2 := step h2 r2 e2 d2 h3 d3 (by rw [e3]; rfl) hi3
  have s3 : Tree.endOf (depthAt l) l.length i3 = l.length := by
    obtain ⟨q1, q2, q3, q4⟩ := Tree.endOf_spec (D := depthAt l) h3
    rcases Nat.lt_or_ge (Tree.endOf (depthAt l) l.length i3) l.length with c | c
    · obtain ⟨n1, n2⟩ := next_root hv h3 r3 c
      rw [e3] at n2
      rw [n2] at n1
      exact absurd n1 (by decide)
    · omega
  refine ⟨fun k => if k = 0 then 0 else if k = 1 then i2 else if k = 2 then i3 else l.length, rfl, rfl, fun k hk => ?_⟩
  obtain rfl | rfl | rfl : k = 0 ∨ k = 1 ∨ k = 2 := by omega
  · exact ⟨p1, h1, d1, s1⟩
  · exact ⟨p2, h2, d2, s2⟩
  · exact ⟨p3, h3, d3, s3⟩
set_option maxRecDepth 100000 in
set_option maxHeartbeats 4000000 in
/-- The whole tree, root by root, for rounds that go on. -/
theorem all_all (n b : Nat) (Bf n₀ fb lb : Nat) (nb : Nat → Nat) (l : List S29) (hv : tok l [] 0 (-1) = true) (w : World) (hBb : Bf ≠ b) (hb : b < w.heap.size) (hn₀ : n₀ ≤ w.heap.size) (hfb : fb < n₀)
    (hc : Boxed w Bf 56 (.pointer (some ⟨fb, 0, none⟩))) (hF : w.heap[fb]? = some (.cells (cellsOf nb 37 fun j => placeOf l l.length (j : Int)) 102 (0, 0))) (hL : Nodes n₀ w nb l) :
    SeqAll 5 Fence.wide n Tryd.prog 72 #[.pointer (some ⟨Bf, 0, none⟩)] (plVal nb (l := l)) (KB n₀ b) (fun pre x => pre.map Subtype.val = List.range x.1) (fun ys => ys.map Subtype.val = List.range l.length) w := fun lp J W hW hJ hY h0 => by
  obtain ⟨st, st0, st3, hst⟩ := root_stops hv
  have hwW := hW.size
  have hBW : Boxed W Bf 56 (.pointer (some ⟨fb, 0, none⟩)) := (hW.block Bf hc.lt).trans hc
  have hFW : W.heap[fb]? = some (.cells (cellsOf nb 37 fun j => placeOf l l.length (j : Int)) 102 (0, 0)) := (hW.block fb (by omega)).trans hF
  have hLW : Nodes n₀ W nb l := hL.below (hW.mono hn₀)
  have walk := walk_calls lp n₀ b W.heap.size nb l hv J hJ (by omega) (by omega) (fun m pre x U hj hp => yield_any m (hY pre x U hj hp))
  have HW := Aside0.mk walk
  have HS := Aside0.mk hst
  have T0 := Aside0.mk st0
  have T3 := Aside0.mk st3
  clear walk hst hY st0 st3
  refine callsIn_of_wp Tryd.func72 rfl trivial ?_ rfl
  simp only [Tryd.ntmps72, List.size_toArray, List.length_cons, List.length_nil, Nat.reduceAdd, Nat.reduceSub, Array.replicate_succ, Array.replicate_zero, List.push_toArray, List.append_toArray, List.nil_append, List.cons_append]
  gi_wp2
  gi_loopw [3] (fun p wr => ∃ k : Nat, p = .int .i64 ((k + 1 : Nat) : Int) ∧ k ≤ 3 ∧ (∃ ys : List (Pl l), ys.map Subtype.val = List.range (st k) ∧ J ys wr) ∧ KB n₀ b W wr ∧ KeepsOthers W wr)
    (fun p wr => 4 - (intOf p).toNat)
  case atStart =>
    exact ⟨0, rfl, by omega, ⟨[], by rw [T0.out]; rfl, h0⟩, ⟨Below.refl _ _, KeptC.refl _ _⟩, KeepsOthers.refl _⟩
  case round =>
    obtain ⟨k, rfl, hk3, ⟨ys, hys, hj⟩, hkb, hko⟩ := hrel
    have hBr := hkb.2.box hBW hBb (by decide)
    have c0 := hBr.cell
    by_cases hk : k < 3
    · obtain ⟨s1, s2, s3, s4⟩ := HS.out k hk
      have hFr : wr.heap[fb]? = some (.cells (cellsOf nb 37 fun j => placeOf l l.length (j : Int)) 102 (0, 0)) := (hkb.1.block fb hfb).trans hFW
      have c1 : wr.cell? ⟨fb, k + 1, none⟩ = some (.pointer (some ⟨nb (st k), 0, none⟩)) := (blk_cell hFr (k + 1)).trans (by rw [cellsOf_at (show k + 1 < 37 by omega)]; simp only [s1]; rfl)
      have hc := HW.out l.length (st k) s2 (by have := (Tree.endOf_spec (D := depthAt l) s2).2.1; omega) ys wr hko.size (hLW.below hkb.1) hj hys 0 s3.symm
      have HC := Aside0.mk hc
      have H4 := Aside0.mk s4
      clear hc s1 s3 s4 hys hFr HS
      obtain rfl | rfl | rfl : k = 0 ∨ k = 1 ∨ k = 2 := by omega
      all_goals
        simp only [Nat.zero_add, Nat.reduceAdd] at c1
        gi_wp2_with ((refine ⟨trivial, (fun h => by cases h), ?_⟩; gi_at_call 73; refine (callsIn_wide.2 HC.out).mono ?_; rintro e U2 ⟨rfl, hw2, hk2, ho2⟩))
        obtain ⟨ys2, hy2, hj2⟩ := hw2
        go_roundw
        case rel => exact ⟨_, rfl, by omega, ⟨ys2, by rw [hy2, H4.out], hj2⟩, hkb.trans hk2, hko.trans ho2⟩
        case measure => simp [intOf]
    · obtain rfl : k = 3 := by omega
      gi_wp2
      go_end0
      exact ⟨⟨_, rfl⟩, ys, by rw [hys, T3.out], hj⟩
set_option maxHeartbeats 1000000 in
/-- The walk's maker: the tree is boxed; the function value captures the box. -/
theorem all_in (n : Nat) (p0 : Option Addr) (w : World) :
    CallsIn Fence.wide n Tryd.prog 48 #[.pointer p0] w fun e w' => e = .returned (.func (.func 72) #[] #[.pointer (some ⟨w.heap.size, 0, none⟩)]) ∧ w' = w.alloc (.cells #[.pointer p0] 56) := by
  refine callsIn_of_wp Tryd.func48 rfl trivial ?_ rfl
  simp only [Tryd.ntmps48, List.size_toArray, List.length_cons, List.length_nil, Nat.reduceAdd, Nat.reduceSub, Array.replicate_succ, Array.replicate_zero, List.push_toArray, List.append_toArray, List.nil_append, List.cons_append]
  gi_wp2
  go_ret
  exact ⟨rfl, rfl⟩
end Go.Proofs.YtdapbpgooehibaaDoor
