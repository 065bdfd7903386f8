/- The rows right under one, one after the other, by the program's walk over a node's kids: for every body of a loop over them. Conditions: the nodes lie as the planted tree lays them, and a round keeps them. -/
import Derived.RangeFuncBox
import Derived.RangeFuncNested
import Derived.Maps.AppendAt
import Derived.Test.YtdapbpgooehibaaDoorTreeW
import Derived.RangeFuncFrom
import Derived.RangeFuncLeaves
import Derived.Shelf.Abstract
import Derived.WalkKit
import Derived.OwnWalkIn
import Derived.TacticsInMore
import Derived.LoopNIn
import Derived.LoopIn
import Derived.Test.YtdapbpgooehibaaDoorTreeQ
namespace Go.Proofs.YtdapbpgooehibaaDoor
open Go.RowKit Go.Shelf Go.Proofs.YtdapbpgooehibaaDoorW.PrintWords Go.Proofs.YtdapbpgooehibaaDoorW.PrintLast Go.Proofs.YtdapbpgooehibaaDoorW.PrintMore Go.Proofs.YtdapbpgooehibaaDoor.P
set_option linter.unusedVariables false
set_option linter.unusedSimpArgs false

attribute [local go_sem] Oper.semAt_some

/-- The nodes of a planted tree, all in blocks below a bound. -/
structure Nodes (n₀ : Nat) (W : World) (nb : Nat → Nat) (l : List S29) : Prop where
  low : ∀ i, i < l.length → nb i < n₀
  node : ∀ i, i < l.length → NodeAt (nb i) (idAt l i) (textAt l i) (ptr nb (Tree.par (depthAt l) i)) (ptr nb (Tree.kid1 (depthAt l) l.length i)) (ptr nb (Tree.sib (depthAt l) l.length i)) W
  inj : ∀ i j, i < l.length → j < l.length → nb i = nb j → i = j
theorem Planted.nodes {w : World} {fb lb : Nat} {nb : Nat → Nat} {l : List S29} (hp : Planted w fb lb nb l l.length) : Nodes w.heap.size w nb l :=
  ⟨fun i hi => hp.old.2.2 i hi, hp.node, hp.inj⟩
theorem Nodes.below {n₀ : Nat} {A B : World} {nb : Nat → Nat} {l : List S29} (h : Nodes n₀ A nb l) (hb : Below n₀ A B) : Nodes n₀ B nb l :=
  ⟨h.low, fun i hi => (hb.block (nb i) (h.low i hi)).trans (h.node i hi), h.inj⟩
/-- A row of kids, as the pointers of the nodes chain it. -/
def Chain (D : Nat → Int) (n : Nat) : Option Nat → List Nat → Prop
  | o, [] => o = none
  | o, j :: js => o = some j ∧ j < n ∧ Chain D n (Tree.sib D n j) js
theorem Chain.unique {D : Nat → Int} {n : Nat} : ∀ {o : Option Nat} {a b : List Nat}, Chain D n o a → Chain D n o b → a = b
  | _, [], [], _, _ => rfl
  | _, [], _ :: _, h, ⟨h2, _⟩ => by rw [h] at h2; cases h2
  | _, _ :: _, [], ⟨h2, _⟩, h => by rw [h] at h2; cases h2
  | _, x :: xs, y :: ys, ⟨h1, _, h2⟩, ⟨h3, _, h4⟩ => by
    rw [h1] at h3; cases h3
    rw [Chain.unique h2 h4]
theorem Chain.lt {D : Nat → Int} {n : Nat} {o : Option Nat} {a : List Nat} (h : Chain D n o a) : ∀ j, o = some j → j < n := by
  intro j e
  cases a with
  | nil => rw [show o = none from h] at e; cases e
  | cons x xs => obtain ⟨h1, h2, _⟩ := h; rw [h1] at e; cases e; exact h2
theorem chain_rest {D : Nat → Int} {n i : Nat} : ∀ (rest pre : List Nat), Tree.kidsOf D n i = pre ++ rest → Chain D n rest.head? rest
  | [], _, _ => rfl
  | j :: js, pre, h => by
    have hj : j ∈ Tree.kidsOf D n i := by rw [h]; simp
    refine ⟨rfl, (Tree.mem_kids.1 hj).1, ?_⟩
    rw [Tree.sib_head h]
    exact chain_rest js (pre ++ [j]) (by rw [h]; simp)
theorem chain_kids (D : Nat → Int) (n i : Nat) : Chain D n (Tree.kid1 D n i) (Tree.kidsOf D n i) := by
  rw [Tree.kid1_head]; exact chain_rest _ [] rfl
theorem ptr_inj {nb : Nat → Nat} {n : Nat} (h : ∀ i j, i < n → j < n → nb i = nb j → i = j) {o o' : Option Nat} (h1 : ∀ j, o = some j → j < n) (h2 : ∀ j, o' = some j → j < n) (e : ptr nb o = ptr nb o') : o = o' := by
  cases o with
  | none => cases o' with
    | none => rfl
    | some b => cases e
  | some a => cases o' with
    | none => cases e
    | some b =>
      simp only [ptr, Option.map_some, Option.some.injEq, Addr.mk.injEq, and_true] at e
      rw [h a b (h1 a rfl) (h2 b rfl) e]
open Classical in
/-- How many kids are still to come, read off a pointer. -/
noncomputable def leftK (D : Nat → Int) (n : Nat) (nb : Nat → Nat) (v : Value) : Nat :=
  if h : ∃ r : Option Nat × List Nat, v = .pointer (ptr nb r.1) ∧ Chain D n r.1 r.2 then (Classical.choose h).2.length else 0
theorem leftK_eq {D : Nat → Int} {n : Nat} {nb : Nat → Nat} (hi : ∀ i j, i < n → j < n → nb i = nb j → i = j) {o : Option Nat} {xs : List Nat} (h : Chain D n o xs) : leftK D n nb (.pointer (ptr nb o)) = xs.length := by
  have hex : ∃ r : Option Nat × List Nat, Value.pointer (ptr nb o) = .pointer (ptr nb r.1) ∧ Chain D n r.1 r.2 := ⟨(o, xs), rfl, h⟩
  unfold leftK
  rw [dif_pos hex]
  obtain ⟨e, hl⟩ := Classical.choose_spec hex
  have e' : ptr nb o = ptr nb (Classical.choose hex).1 := by simpa using e
  rw [← ptr_inj hi h.lt hl.lt e'] at hl
  rw [Chain.unique hl h]

/-- A kid of a row. -/
abbrev Kid (l : List S29) (i : Nat) := { x : Nat // x < l.length ∧ Tree.par (depthAt l) x = some i }
def kidVal (nb : Nat → Nat) {l : List S29} {i : Nat} (x : Kid l i) : Array Value := #[.pointer (some ⟨nb x.1, 0, none⟩)]
set_option maxRecDepth 100000 in
set_option maxHeartbeats 1000000 in
theorem kids1_in (F : Fence) (n : Nat) (hf : F.fn 92) (hro : F.round = none) (hn : 1 ≤ n) (lp Bn n₀ : Nat) (nb : Nat → Nat) (l : List S29) (i : Nat) (hi : i < l.length) (J Jx : List (Kid l i) → World → Prop)
    (hY : ∀ pre x W, J pre W → pre.length < (Tree.kidsOf (depthAt l) l.length i).length → YieldAt F (n - 1) Tryd.prog lp (kidVal nb x) W fun e W' =>
      (e = .returned (.bool true) ∧ J (pre ++ [x]) W' ∧ Below n₀ W W') ∨ (e = .returned (.bool false) ∧ Jx (pre ++ [x]) W'))
    (W : World) (hBn : W.cell? ⟨Bn, 0, none⟩ = some (.pointer (some ⟨nb i, 0, none⟩))) (hL : Nodes n₀ W nb l) (h0 : J [] W) :
    CallsIn F n Tryd.prog 92 #[.func (.yield lp) #[] #[], .pointer (some ⟨Bn, 0, none⟩)] W fun e W' => (∃ v, e = .returned v) ∧
      ((∃ ys : List (Kid l i), ys.map Subtype.val = Tree.kidsOf (depthAt l) l.length i ∧ J ys W') ∨ (∃ pre : List (Kid l i), pre.map Subtype.val <+: Tree.kidsOf (depthAt l) l.length i ∧ Jx pre W')) := by
  obtain ⟨q0, hq0⟩ : ∃ q0, q0 = ptr nb (Tree.kid1 (depthAt l) l.length i) := ⟨_, rfl⟩
  have hfirst : W.cell? ⟨nb i, 3, none⟩ = some (.pointer q0) := (blk_cell (hL.node i hi) 3).trans (by rw [hq0]; rfl)
  refine callsIn_of_wp Tryd.func92 rfl hf ?_ hro
  simp only [Tryd.ntmps92, List.size_toArray, List.length_cons, List.length_nil, Nat.reduceAdd, Nat.reduceSub, Array.replicate_succ, Array.replicate_zero, List.push_toArray, List.append_toArray, List.nil_append, List.cons_append]
  replace hq0 := Aside0.mk hq0
  gi_wp2
  gi_loopw [3] (fun p wr => ∃ (pre : List (Kid l i)) (rest : List Nat) (o : Option Nat), p = .pointer (ptr nb o) ∧ Aside0 (Tree.kidsOf (depthAt l) l.length i = pre.map Subtype.val ++ rest) ∧ Aside0 (Chain (depthAt l) l.length o rest) ∧ Aside0 (Nodes n₀ wr nb l) ∧ J pre wr)
    (fun p wr => leftK (depthAt l) l.length nb p)
  case atStart =>
    exact ⟨[], Tree.kidsOf (depthAt l) l.length i, Tree.kid1 (depthAt l) l.length i, by rw [hq0.out], ⟨rfl⟩, ⟨chain_kids _ _ _⟩, ⟨hL⟩, h0⟩
  case round =>
    obtain ⟨pre, rest, o, rfl, HX, HL, HN, hJs⟩ := hrel
    cases rest with
    | nil =>
      obtain rfl : o = none := HL.out
      dsimp only [ptr, Option.map]
      gi_wp2
      go_end0
      exact ⟨⟨_, rfl⟩, .inl ⟨pre, by simpa using HX.out.symm, hJs⟩⟩
    | cons x rest =>
      obtain ⟨rfl, hxl, hr⟩ := HL.out
      have hxp : Tree.par (depthAt l) x = some i := (Tree.mem_kids.1 (show x ∈ Tree.kidsOf (depthAt l) l.length i by rw [HX.out]; simp)).2
      obtain ⟨q, hqq⟩ : ∃ q, q = ptr nb (Tree.sib (depthAt l) l.length x) := ⟨_, rfl⟩
      replace hqq := Aside0.mk hqq
      have hlen : pre.length < (Tree.kidsOf (depthAt l) l.length i).length := by rw [HX.out]; simp
      obtain ⟨fn, tmps, assign, body, hy, hR⟩ := hY pre ⟨x, hxl, hxp⟩ wr hJs hlen
      dsimp only [kidVal] at hy
      replace hr := Aside0.mk hr
      replace hxp := Aside0.mk hxp
      clear hlen
      dsimp only [ptr, Option.map]
      gi_wp2
      refine hR.mono ?_
      rintro e W3 (⟨rfl, hJ3, hk3⟩ | ⟨rfl, hJx3⟩)
      · have hq3 : W3.cell? ⟨nb x, 4, none⟩ = some (.pointer q) := (blk_cell ((HN.out.below hk3).node x hxl) 4).trans (by rw [hqq.out]; rfl)
        replace hk3 := Aside0.mk hk3
        gi_wp2
        go_roundw
        case rel => exact ⟨pre ++ [⟨x, hxl, hxp.out⟩], rest, Tree.sib (depthAt l) l.length x, by rw [hqq.out]; cases Tree.sib (depthAt l) l.length x <;> rfl, ⟨by rw [HX.out]; simp⟩, ⟨hr.out⟩, ⟨HN.out.below hk3.out⟩, hJ3⟩
        case measure =>
          rw [hqq.out, leftK_eq HN.out.inj hr.out, show (some ⟨nb x, 0, none⟩ : Option Addr) = ptr nb (some x) from rfl, leftK_eq HN.out.inj HL.out]; simp
      · gi_wp2
        refine bodyPost_ret (results_none rfl _ _ _) rfl ?_
        exact ⟨⟨_, rfl⟩, .inr ⟨pre ++ [⟨x, hxl, hxp.out⟩], ⟨rest, by rw [HX.out]; simp⟩, hJx3⟩⟩

set_option maxHeartbeats 1000000 in
/-- The walk's maker: the node is boxed; the function value captures the box. -/
theorem kids_in (F : Fence) (n : Nat) (hf : F.fn 84) (hro : F.round = none) (p0 : Option Addr) (w : World) :
    CallsIn F n Tryd.prog 84 #[.pointer p0] w fun e w' => e = .returned (.func (.func 92) #[] #[.pointer (some ⟨w.heap.size, 0, none⟩)]) ∧ w' = w.alloc (.cells #[.pointer p0] 59) := by
  refine callsIn_of_wp Tryd.func84 rfl hf ?_ hro
  simp only [Tryd.ntmps84, List.size_toArray, List.length_cons, List.length_nil, Nat.reduceAdd, Nat.reduceSub, Array.replicate_succ, Array.replicate_zero, List.push_toArray, List.append_toArray, List.nil_append, List.cons_append]
  gi_wp2
  go_ret
  exact ⟨rfl, rfl⟩

/-- What the maker hands back goes through the kids in order, or stops where a round says so. -/
theorem kids_stops (F : Fence) (n : Nat) (hf : F.fn 92) (hro : F.round = none) (hn : 1 ≤ n) (Bn n₀ : Nat) (nb : Nat → Nat) (l : List S29) (i : Nat) (hi : i < l.length) (w : World) (hBn : Bn < w.heap.size) (hn₀ : n₀ ≤ w.heap.size)
    (hc : w.cell? ⟨Bn, 0, none⟩ = some (.pointer (some ⟨nb i, 0, none⟩))) (hL : Nodes n₀ w nb l) :
    SeqStopsK F n Tryd.prog 92 #[.pointer (some ⟨Bn, 0, none⟩)] (kidVal nb (l := l) (i := i)) (Below n₀) (fun ys => ys.map Subtype.val = Tree.kidsOf (depthAt l) l.length i) (fun pre => pre.map Subtype.val <+: Tree.kidsOf (depthAt l) l.length i) (Tree.kidsOf (depthAt l) l.length i).length w := fun lp J Jx W hW _ _ hY h0 =>
  kids1_in F n hf hro hn lp Bn n₀ nb l i hi J Jx hY W ((hW.cell (p := ⟨Bn, 0, none⟩) hBn).trans hc) (hL.below (hW.mono hn₀)) h0
end Go.Proofs.YtdapbpgooehibaaDoor
