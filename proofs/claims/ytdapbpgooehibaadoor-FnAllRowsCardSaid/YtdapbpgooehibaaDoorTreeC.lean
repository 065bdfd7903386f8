/- The program's tree of nodes by walks: a node put under another one, a node found. Each says what lies in memory behind the call, block by block. -/
import Derived.Test.YtdapbpgooehibaaDoorTreeM
import Derived.Test.YtdapbpgooehibaaDoorTreeOkC
namespace Go.Proofs.YtdapbpgooehibaaDoor
open Go.RowKit Go.Proofs.YtdapbpgooehibaaDoorW.PrintWords Go.Proofs.YtdapbpgooehibaaDoorW.PrintLast Go.Proofs.YtdapbpgooehibaaDoorW.PrintMore Go.Proofs.YtdapbpgooehibaaDoor.P
set_option linter.unusedVariables false
set_option linter.unusedSimpArgs false

/-- A node's block. -/
def NodeAt (g : Nat) (id : Int) (text : ByteArray) (up first next : Option Addr) (W : World) : Prop := W.heap[g]? = some (.cells #[.int .i64 id, .string text, .pointer up, .pointer first, .pointer next] 63 (0, 0))

set_option maxHeartbeats 2000000 in
set_option maxRecDepth 100000 in
theorem attach_first (gn gu : Nat) (id1 id2 : Int) (t1 t2 : ByteArray) (a1 b1 c1 a2 b2 c2 : Option Addr) (w : World) (hn : NodeAt gn id1 t1 a1 b1 c1 w) (hu : NodeAt gu id2 t2 a2 b2 c2 w) (hne : gn ≠ gu) :
    Calls Tryd.prog 66 #[.pointer (some ⟨gn, 0, none⟩), .pointer (some ⟨gu, 0, none⟩), .pointer none] w fun e w' => e = .returned (.tuple #[]) ∧ w' = (((w.setCell ⟨gn, 2, none⟩ (.pointer (some ⟨gu, 0, none⟩))).setCell ⟨gn, 4, none⟩ (.pointer b2)).setCell ⟨gu, 3, none⟩ (.pointer (some ⟨gn, 0, none⟩))) := by
  have HN := Aside0.mk hn
  have HU := Aside0.mk hu
  have HE := Aside0.mk hne
  clear hn hu hne
  obtain ⟨hz0, hz1, hz2, hz3, hz4, hy0, hy1, hy2, hy3, hy4⟩ := blk_facts5 HN.out
  go_enter Tryd.func66, Tryd.ntmps66
  go_upto_region 2 with (fail)
  have HN1 : Aside0 (NodeAt gn id1 t1 (some ⟨gu, 0, none⟩) b1 c1 (w.setCell ⟨gn, 2, none⟩ (.pointer (some ⟨gu, 0, none⟩)))) := ⟨blk_put HN.out 2 _ rfl⟩
  have HU1 : Aside0 (NodeAt gu id2 t2 a2 b2 c2 (w.setCell ⟨gn, 2, none⟩ (.pointer (some ⟨gu, 0, none⟩)))) := ⟨blk_far HU.out (Ne.symm HE.out) _⟩
  clear hz0 hz1 hz2 hz3 hz4 hy0 hy1 hy2 hy3 hy4
  obtain ⟨hz0, hz1, hz2, hz3, hz4, hy0, hy1, hy2, hy3, hy4⟩ := blk_facts5 HN1.out
  obtain ⟨iz0, iz1, iz2, iz3, iz4, iy0, iy1, iy2, iy3, iy4⟩ := blk_facts5 HU1.out
  go_upto_region 3 with (fail)
  have HU2 : Aside0 (NodeAt gu id2 t2 a2 b2 c2 ((w.setCell ⟨gn, 2, none⟩ (.pointer (some ⟨gu, 0, none⟩))).setCell ⟨gn, 4, none⟩ (.pointer b2))) := ⟨blk_far HU1.out (Ne.symm HE.out) _⟩
  clear hz0 hz1 hz2 hz3 hz4 hy0 hy1 hy2 hy3 hy4 iz0 iz1 iz2 iz3 iz4 iy0 iy1 iy2 iy3 iy4
  obtain ⟨iz0, iz1, iz2, iz3, iz4, iy0, iy1, iy2, iy3, iy4⟩ := blk_facts5 HU2.out
  go_wp2
  refine bodyPost_ret (results_none rfl _ _ _) rfl ?_
  exact ⟨rfl, rfl⟩

set_option maxHeartbeats 2000000 in
set_option maxRecDepth 100000 in
theorem attach_behind (gn gu ga : Nat) (id1 id2 : Int) (t1 t2 : ByteArray) (a1 b1 c1 a2 b2 c2 : Option Addr) (w : World) (hn : NodeAt gn id1 t1 a1 b1 c1 w) (ha : NodeAt ga id2 t2 a2 b2 c2 w) (hne : gn ≠ ga) :
    Calls Tryd.prog 66 #[.pointer (some ⟨gn, 0, none⟩), .pointer (some ⟨gu, 0, none⟩), .pointer (some ⟨ga, 0, none⟩)] w fun e w' => e = .returned (.tuple #[]) ∧ w' = (((w.setCell ⟨gn, 2, none⟩ (.pointer (some ⟨gu, 0, none⟩))).setCell ⟨gn, 4, none⟩ (.pointer c2)).setCell ⟨ga, 4, none⟩ (.pointer (some ⟨gn, 0, none⟩))) := by
  have HN := Aside0.mk hn
  have HU := Aside0.mk ha
  have HE := Aside0.mk hne
  clear hn ha hne
  obtain ⟨hz0, hz1, hz2, hz3, hz4, hy0, hy1, hy2, hy3, hy4⟩ := blk_facts5 HN.out
  go_enter Tryd.func66, Tryd.ntmps66
  go_upto_region 4 with (fail)
  have HN1 : Aside0 (NodeAt gn id1 t1 (some ⟨gu, 0, none⟩) b1 c1 (w.setCell ⟨gn, 2, none⟩ (.pointer (some ⟨gu, 0, none⟩)))) := ⟨blk_put HN.out 2 _ rfl⟩
  have HU1 : Aside0 (NodeAt ga id2 t2 a2 b2 c2 (w.setCell ⟨gn, 2, none⟩ (.pointer (some ⟨gu, 0, none⟩)))) := ⟨blk_far HU.out (Ne.symm HE.out) _⟩
  clear hz0 hz1 hz2 hz3 hz4 hy0 hy1 hy2 hy3 hy4
  obtain ⟨hz0, hz1, hz2, hz3, hz4, hy0, hy1, hy2, hy3, hy4⟩ := blk_facts5 HN1.out
  obtain ⟨iz0, iz1, iz2, iz3, iz4, iy0, iy1, iy2, iy3, iy4⟩ := blk_facts5 HU1.out
  go_upto_region 5 with (fail)
  have HU2 : Aside0 (NodeAt ga id2 t2 a2 b2 c2 ((w.setCell ⟨gn, 2, none⟩ (.pointer (some ⟨gu, 0, none⟩))).setCell ⟨gn, 4, none⟩ (.pointer c2))) := ⟨blk_far HU1.out (Ne.symm HE.out) _⟩
  clear hz0 hz1 hz2 hz3 hz4 hy0 hy1 hy2 hy3 hy4 iz0 iz1 iz2 iz3 iz4 iy0 iy1 iy2 iy3 iy4
  obtain ⟨iz0, iz1, iz2, iz3, iz4, iy0, iy1, iy2, iy3, iy4⟩ := blk_facts5 HU2.out
  go_wp2
  go_end0
  exact ⟨rfl, rfl⟩
/-- The number of a node; 0 of none. -/
theorem idOf_nil (w : World) : Calls Tryd.prog 38 #[.pointer none] w fun e w' => e = .returned (.int .i64 0) ∧ w' = w := by
  go_enter Tryd.func38, Tryd.ntmps38
  go_wp2
  go_ret
  exact ⟨rfl, rfl⟩
theorem idOf_node (g : Nat) (id : Int) (t : ByteArray) (a b c : Option Addr) (w : World) (h : NodeAt g id t a b c w) : Calls Tryd.prog 38 #[.pointer (some ⟨g, 0, none⟩)] w fun e w' => e = .returned (.int .i64 id) ∧ w' = w := by
  have H := Aside0.mk h
  obtain ⟨hz0, hz1, hz2, hz3, hz4, hy0, hy1, hy2, hy3, hy4⟩ := blk_facts5 H.out
  clear h
  go_enter Tryd.func38, Tryd.ntmps38
  go_wp2
  go_ret
  exact ⟨rfl, rfl⟩

/-- The address of a node. -/
def ptr (nb : Nat → Nat) : Option Nat → Option Addr := Option.map fun j => ⟨nb j, 0, none⟩
def upd {α : Type} (f : Nat → α) (i : Nat) (a : α) : Nat → α := fun j => if j = i then a else f j
theorem upd_same {α : Type} (f : Nat → α) (i : Nat) (a : α) : upd f i a i = a := by simp [upd]
theorem upd_ne {α : Type} (f : Nat → α) {i j : Nat} (a : α) (h : j ≠ i) : upd f i a j = f j := by simp [upd, h]
theorem ptr_upd {nb : Nat → Nat} {m g : Nat} {o : Option Nat} (h : ∀ j, o = some j → j < m) : ptr (upd nb m g) o = ptr nb o := by
  cases o with
  | none => rfl
  | some j => have := h j rfl; simp [ptr, upd]; omega
def cellsOf (nb : Nat → Nat) (n : Nat) (F : Nat → Option Nat) : Array Value := ((List.range n).map fun j => .pointer (ptr nb (F j))).toArray
theorem cellsOf_at {nb : Nat → Nat} {n : Nat} {F : Nat → Option Nat} {j : Nat} (h : j < n) : (cellsOf nb n F)[j]? = some (.pointer (ptr nb (F j))) := by
  simp [cellsOf, h]
theorem cellsOf_put {nb : Nat → Nat} {n : Nat} {F : Nat → Option Nat} {j : Nat} (h : j < n) (o : Option Nat) : (cellsOf nb n F).setIfInBounds j (.pointer (ptr nb o)) = cellsOf nb n (upd F j o) := by
  apply Array.ext_getElem?
  intro i
  by_cases hi : i < n
  · rw [cellsOf_at hi, Array.getElem?_setIfInBounds]
    by_cases e : j = i
    · subst e; simp [cellsOf, h, upd_same]
    · rw [if_neg e, cellsOf_at hi, upd_ne _ _ (Ne.symm e)]
  · rw [Array.getElem?_eq_none (by simp [cellsOf]; omega), Array.getElem?_eq_none (by simp [cellsOf]; omega)]
theorem cellsOf_cong {nb nb' : Nat → Nat} {n : Nat} {F G : Nat → Option Nat} (h : ∀ j, j < n → ptr nb (F j) = ptr nb' (G j)) : cellsOf nb n F = cellsOf nb' n G := by
  unfold cellsOf
  congr 1
  apply List.map_congr_left
  intro j hj
  rw [h j (List.mem_range.1 hj)]

/-- m nodes with numbers and texts, told by what each meets; the forest's block and the block of the last ones. -/
structure Blocks (W : World) (fb lb : Nat) (nb : Nat → Nat) (m : Nat) (id : Nat → Int) (tx : Nat → ByteArray) (P K S F L : Nat → Option Nat) : Prop where
  node : ∀ i, i < m → NodeAt (nb i) (id i) (tx i) (ptr nb (P i)) (ptr nb (K i)) (ptr nb (S i)) W
  forest : W.heap[fb]? = some (.cells (cellsOf nb 37 F) 102 (0, 0))
  last : W.heap[lb]? = some (.cells (cellsOf nb 19 L) 103 (0, 0))
  inj : ∀ i j, i < m → j < m → nb i = nb j → i = j
  nf : ∀ i, i < m → nb i ≠ fb
  nl : ∀ i, i < m → nb i ≠ lb
  fl : fb ≠ lb
  lt : ∀ i j, i < m → P i = some j ∨ K i = some j ∨ S i = some j → j < m
  ltF : ∀ i j, i < 37 → F i = some j → j < m
  ltL : ∀ i j, i < 19 → L i = some j → j < m
theorem Blocks.below {W W1 : World} {fb lb : Nat} {nb : Nat → Nat} {m : Nat} {id : Nat → Int} {tx : Nat → ByteArray} {P K S F L : Nat → Option Nat} (h : Blocks W fb lb nb m id tx P K S F L) (hb : Below W.heap.size W W1) : Blocks W1 fb lb nb m id tx P K S F L :=
  ⟨fun i hi => blk_below (h.node i hi) hb, blk_below h.forest hb, blk_below h.last hb, h.inj, h.nf, h.nl, h.fl, h.lt, h.ltF, h.ltL⟩
theorem Blocks.far {W : World} {fb lb : Nat} {nb : Nat → Nat} {m : Nat} {id : Nat → Int} {tx : Nat → ByteArray} {P K S F L : Nat → Option Nat} (h : Blocks W fb lb nb m id tx P K S F L) {p : Addr} (hp : ∀ i, i < m → nb i ≠ p.block) (hf : fb ≠ p.block) (hl : lb ≠ p.block) (u : Value) : Blocks (W.setCell p u) fb lb nb m id tx P K S F L :=
  ⟨fun i hi => blk_far (h.node i hi) (hp i hi) _, blk_far h.forest hf _, blk_far h.last hl _, h.inj, h.nf, h.nl, h.fl, h.lt, h.ltF, h.ltL⟩
theorem Blocks.drew {W : World} {fb lb : Nat} {nb : Nat → Nat} {m : Nat} {id : Nat → Int} {tx : Nat → ByteArray} {P K S F L : Nat → Option Nat} (h : Blocks W fb lb nb m id tx P K S F L) : Blocks W.drew fb lb nb m id tx P K S F L := ⟨h.node, h.forest, h.last, h.inj, h.nf, h.nl, h.fl, h.lt, h.ltF, h.ltL⟩
/-- All lies below what is new. -/
theorem Blocks.old {W : World} {fb lb : Nat} {nb : Nat → Nat} {m : Nat} {id : Nat → Int} {tx : Nat → ByteArray} {P K S F L : Nat → Option Nat} (h : Blocks W fb lb nb m id tx P K S F L) : fb < W.heap.size ∧ lb < W.heap.size ∧ ∀ i, i < m → nb i < W.heap.size :=
  ⟨blk_lt h.forest, blk_lt h.last, fun i hi => blk_lt (h.node i hi)⟩
theorem Blocks.boxed {wr w4 : World} {fb lb : Nat} {nb : Nat → Nat} {m : Nat} {id : Nat → Int} {tx : Nat → ByteArray} {P K S F L : Nat → Option Nat} (h : Blocks wr fb lb nb m id tx P K S F L) (hb : Below wr.heap.size wr w4) {gb : Nat} (hg : gb = wr.heap.size) (u0 u1 u2 : Value) :
    Blocks (((w4.setCell ⟨gb, 0, none⟩ u0).setCell ⟨gb, 1, none⟩ u1).setCell ⟨gb, 2, none⟩ u2) fb lb nb m id tx P K S F L := by
  obtain ⟨h1, h2, h3⟩ := h.old
  have h4 : ∀ i, i < m → nb i ≠ gb := fun i hi => by have := h3 i hi; omega
  exact (((h.below hb).far (p := ⟨gb, 0, none⟩) h4 (by show fb ≠ gb; omega) (by show lb ≠ gb; omega) _).far (p := ⟨gb, 1, none⟩) h4 (by show fb ≠ gb; omega) (by show lb ≠ gb; omega) _).far (p := ⟨gb, 2, none⟩) h4 (by show fb ≠ gb; omega) (by show lb ≠ gb; omega) _
/-- Told otherwise. -/
theorem Blocks.cong {W : World} {fb lb : Nat} {nb : Nat → Nat} {m : Nat} {id : Nat → Int} {tx : Nat → ByteArray} {P K S F L P' K' S' F' L' : Nat → Option Nat} (h : Blocks W fb lb nb m id tx P K S F L) (hP : ∀ i, i < m → P i = P' i) (hK : ∀ i, i < m → K i = K' i) (hS : ∀ i, i < m → S i = S' i) (hF : ∀ i, i < 37 → F i = F' i) (hL : ∀ i, i < 19 → L i = L' i) : Blocks W fb lb nb m id tx P' K' S' F' L' :=
  ⟨fun i hi => by rw [← hP i hi, ← hK i hi, ← hS i hi]; exact h.node i hi, by rw [cellsOf_cong (G := F) (nb' := nb) (fun j hj => by rw [hF j hj])]; exact h.forest, by rw [cellsOf_cong (G := L) (nb' := nb) (fun j hj => by rw [hL j hj])]; exact h.last, h.inj, h.nf, h.nl, h.fl, fun i j hi e => h.lt i j hi (by rw [hP i hi, hK i hi, hS i hi]; exact e), fun i j hi e => h.ltF i j hi (by rw [hF i hi]; exact e), fun i j hi e => h.ltL i j hi (by rw [hL i hi]; exact e)⟩
/-- A new node. -/
theorem Blocks.fresh {W : World} {fb lb : Nat} {nb : Nat → Nat} {m : Nat} {id : Nat → Int} {tx : Nat → ByteArray} {P K S F L : Nat → Option Nat} (h : Blocks W fb lb nb m id tx P K S F L) {g : Nat} (hg : NodeAt g (id m) (tx m) none none none W) (hn : ∀ i, i < m → nb i ≠ g) (hf : g ≠ fb) (hl : g ≠ lb) :
    Blocks W fb lb (upd nb m g) (m + 1) id tx (upd P m none) (upd K m none) (upd S m none) F L := by
  have same : ∀ i j, i < m + 1 → upd P m none i = some j ∨ upd K m none i = some j ∨ upd S m none i = some j → j < m := by
    intro i j hi e
    by_cases e1 : i = m
    · subst e1; simp [upd_same] at e
    · rw [upd_ne _ _ e1, upd_ne _ _ e1, upd_ne _ _ e1] at e; exact h.lt i j (by omega) e
  refine ⟨fun i hi => ?_, ?_, ?_, fun i j hi hj e => ?_, fun i hi => ?_, fun i hi => ?_, h.fl, fun i j hi e => by have := same i j hi e; omega, fun i j hi e => by have := h.ltF i j hi e; omega, fun i j hi e => by have := h.ltL i j hi e; omega⟩
  · rw [ptr_upd (fun j e => same i j hi (.inl e)), ptr_upd (fun j e => same i j hi (.inr (.inl e))), ptr_upd (fun j e => same i j hi (.inr (.inr e)))]
    by_cases e1 : i = m
    · subst e1; simp only [upd_same]; exact hg
    · rw [upd_ne _ _ e1, upd_ne _ _ e1, upd_ne _ _ e1, upd_ne _ _ e1]; exact h.node i (by omega)
  · rw [cellsOf_cong (G := F) (nb' := nb) (fun j hj => ptr_upd (fun q e => h.ltF j q hj e))]; exact h.forest
  · rw [cellsOf_cong (G := L) (nb' := nb) (fun j hj => ptr_upd (fun q e => h.ltL j q hj e))]; exact h.last
  · by_cases e1 : i = m <;> by_cases e2 : j = m
    · omega
    · subst e1; rw [upd_same, upd_ne _ _ e2] at e; exact absurd e.symm (hn j (by omega))
    · subst e2; rw [upd_same, upd_ne _ _ e1] at e; exact absurd e (hn i (by omega))
    · rw [upd_ne _ _ e1, upd_ne _ _ e2] at e; exact h.inj i j (by omega) (by omega) e
  · by_cases e1 : i = m
    · subst e1; rw [upd_same]; exact hf
    · rw [upd_ne _ _ e1]; exact h.nf i (by omega)
  · by_cases e1 : i = m
    · subst e1; rw [upd_same]; exact hl
    · rw [upd_ne _ _ e1]; exact h.nl i (by omega)
/-- A store into the forest. -/
theorem Blocks.putF {W : World} {fb lb : Nat} {nb : Nat → Nat} {m : Nat} {id : Nat → Int} {tx : Nat → ByteArray} {P K S F L : Nat → Option Nat} (h : Blocks W fb lb nb m id tx P K S F L) {j q : Nat} (hj : j < 37) (hq : q < m) :
    Blocks (W.setCell ⟨fb, j, none⟩ (.pointer (some ⟨nb q, 0, none⟩))) fb lb nb m id tx P K S (upd F j (some q)) L :=
  ⟨fun i hi => blk_far (h.node i hi) (h.nf i hi) _, blk_put h.forest j _ (cellsOf_put hj (some q)), blk_far h.last (Ne.symm h.fl) _, h.inj, h.nf, h.nl, h.fl, h.lt, fun i k hi e => by
    by_cases e1 : i = j
    · subst e1; rw [upd_same] at e; cases e; exact hq
    · rw [upd_ne _ _ e1] at e; exact h.ltF i k hi e, h.ltL⟩
theorem Blocks.putL {W : World} {fb lb : Nat} {nb : Nat → Nat} {m : Nat} {id : Nat → Int} {tx : Nat → ByteArray} {P K S F L : Nat → Option Nat} (h : Blocks W fb lb nb m id tx P K S F L) {j q : Nat} (hj : j < 19) (hq : q < m) :
    Blocks (W.setCell ⟨lb, j, none⟩ (.pointer (some ⟨nb q, 0, none⟩))) fb lb nb m id tx P K S F (upd L j (some q)) :=
  ⟨fun i hi => blk_far (h.node i hi) (h.nl i hi) _, blk_far h.forest h.fl _, blk_put h.last j _ (cellsOf_put hj (some q)), h.inj, h.nf, h.nl, h.fl, h.lt, h.ltF, fun i k hi e => by
    by_cases e1 : i = j
    · subst e1; rw [upd_same] at e; cases e; exact hq
    · rw [upd_ne _ _ e1] at e; exact h.ltL i k hi e⟩
/-- A store into a node: over which it stands, its first, its next. -/
theorem Blocks.putP {W : World} {fb lb : Nat} {nb : Nat → Nat} {m : Nat} {id : Nat → Int} {tx : Nat → ByteArray} {P K S F L : Nat → Option Nat} (h : Blocks W fb lb nb m id tx P K S F L) {n : Nat} (hn : n < m) {o : Option Nat} (ho : ∀ q, o = some q → q < m) :
    Blocks (W.setCell ⟨nb n, 2, none⟩ (.pointer (ptr nb o))) fb lb nb m id tx (upd P n o) K S F L := by
  refine ⟨fun i hi => ?_, blk_far h.forest (Ne.symm (h.nf n hn)) _, blk_far h.last (Ne.symm (h.nl n hn)) _, h.inj, h.nf, h.nl, h.fl, fun i j hi e => ?_, h.ltF, h.ltL⟩
  · by_cases e : i = n
    · subst e; rw [upd_same]; exact blk_put (h.node i hi) 2 _ rfl
    · rw [upd_ne _ _ e]; exact blk_far (h.node i hi) (fun e2 => e (h.inj i n hi hn e2)) _
  · by_cases e1 : i = n
    · subst e1; rw [upd_same] at e
      rcases e with e | e
      · exact ho j e
      · exact h.lt i j hi (.inr e)
    · rw [upd_ne _ _ e1] at e; exact h.lt i j hi e
theorem Blocks.putK {W : World} {fb lb : Nat} {nb : Nat → Nat} {m : Nat} {id : Nat → Int} {tx : Nat → ByteArray} {P K S F L : Nat → Option Nat} (h : Blocks W fb lb nb m id tx P K S F L) {n : Nat} (hn : n < m) {o : Option Nat} (ho : ∀ q, o = some q → q < m) :
    Blocks (W.setCell ⟨nb n, 3, none⟩ (.pointer (ptr nb o))) fb lb nb m id tx P (upd K n o) S F L := by
  refine ⟨fun i hi => ?_, blk_far h.forest (Ne.symm (h.nf n hn)) _, blk_far h.last (Ne.symm (h.nl n hn)) _, h.inj, h.nf, h.nl, h.fl, fun i j hi e => ?_, h.ltF, h.ltL⟩
  · by_cases e : i = n
    · subst e; rw [upd_same]; exact blk_put (h.node i hi) 3 _ rfl
    · rw [upd_ne _ _ e]; exact blk_far (h.node i hi) (fun e2 => e (h.inj i n hi hn e2)) _
  · by_cases e1 : i = n
    · subst e1; rw [upd_same] at e
      rcases e with e | e | e
      · exact h.lt i j hi (.inl e)
      · exact ho j e
      · exact h.lt i j hi (.inr (.inr e))
    · rw [upd_ne _ _ e1] at e; exact h.lt i j hi e
theorem Blocks.putS {W : World} {fb lb : Nat} {nb : Nat → Nat} {m : Nat} {id : Nat → Int} {tx : Nat → ByteArray} {P K S F L : Nat → Option Nat} (h : Blocks W fb lb nb m id tx P K S F L) {n : Nat} (hn : n < m) {o : Option Nat} (ho : ∀ q, o = some q → q < m) :
    Blocks (W.setCell ⟨nb n, 4, none⟩ (.pointer (ptr nb o))) fb lb nb m id tx P K (upd S n o) F L := by
  refine ⟨fun i hi => ?_, blk_far h.forest (Ne.symm (h.nf n hn)) _, blk_far h.last (Ne.symm (h.nl n hn)) _, h.inj, h.nf, h.nl, h.fl, fun i j hi e => ?_, h.ltF, h.ltL⟩
  · by_cases e : i = n
    · subst e; rw [upd_same]; exact blk_put (h.node i hi) 4 _ rfl
    · rw [upd_ne _ _ e]; exact blk_far (h.node i hi) (fun e2 => e (h.inj i n hi hn e2)) _
  · by_cases e1 : i = n
    · subst e1; rw [upd_same] at e
      rcases e with e | e | e
      · exact h.lt i j hi (.inl e)
      · exact h.lt i j hi (.inr (.inl e))
      · exact ho j e
    · rw [upd_ne _ _ e1] at e; exact h.lt i j hi e
end Go.Proofs.YtdapbpgooehibaaDoor
