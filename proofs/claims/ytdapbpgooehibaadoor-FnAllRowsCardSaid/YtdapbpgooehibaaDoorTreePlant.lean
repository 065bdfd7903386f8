/- The program's plant by a walk: of a valid outline it lays nodes that stand as the rows stand; of any other it hands back nil. Where the table lies as the program's text lays it. -/
import Derived.Test.YtdapbpgooehibaaDoorTreeC
import Derived.Test.YtdapbpgooehibaaDoorTreeV
import Derived.Deep.RegionHeld3
import Derived.LaidEqlPtr
namespace Go.Proofs.YtdapbpgooehibaaDoor
open Go.RowKit Go.Proofs.YtdapbpgooehibaaDoorW.PrintWords Go.Proofs.YtdapbpgooehibaaDoorW.PrintLast Go.Proofs.YtdapbpgooehibaaDoorW.PrintMore Go.Proofs.YtdapbpgooehibaaDoor.P
set_option linter.unusedVariables false
set_option linter.unusedSimpArgs false

/-- The tree of the first m rows. -/
def Planted (W : World) (fb lb : Nat) (nb : Nat → Nat) (l : List S29) (m : Nat) : Prop :=
  Blocks W fb lb nb m (idAt l) (textAt l) (Tree.par (depthAt l)) (Tree.kid1 (depthAt l) m) (Tree.sib (depthAt l) m) (fun j => placeOf l m (j : Int)) (fun d => Tree.lastAt (depthAt l) m (d : Int))

theorem plant_no (A0 : Option Addr) (c0 : Nat) (l0 : List S29) (w : World) (hr0 : Kd.C k29 w A0 l0.length l0) (hc0 : l0.length ≤ c0) (ht : TabOk w) (hv : tok l0 [] 0 (-1) = false) :
    Calls Tryd.prog 36 #[.slice A0 l0.length c0] w fun e w' => e = .returned (.tuple #[.pointer none, .bool false]) ∧ Below w.heap.size w w' := by
  have HR0 := Aside0.mk hr0
  have HT := Aside0.mk ht
  have HV := Aside0.mk hv
  have HC := Aside0.mk hc0
  clear hr0 ht hv hc0
  go_enter Tryd.func36, Tryd.ntmps36
  go_wp2_with (go_at_call 10; refine (treeOk_calls A0 c0 l0 _ HR0.out HC.out HT.out).mono ?_; rw [HV.out]; rintro e w1 ⟨rfl, hb⟩; have HB := Aside0.mk hb; clear hb)
  go_ret2
  exact ⟨rfl, HB.out⟩

theorem size_alloc (w : World) (o : Obj) : (w.alloc o).heap.size = w.heap.size + 1 := by
  simp [World.alloc_eq]
theorem fewRows {l : List S29} (h : tok l [] 0 (-1) = true) {i : Nat} (hi : i < l.length) : i < 37 := by
  have h1 := few 37 ((List.range (i + 1)).map (idAt l)) (by
    rw [List.nodup_iff_pairwise_ne, List.pairwise_map]
    refine List.Pairwise.imp_of_mem ?_ (List.nodup_iff_pairwise_ne.1 List.nodup_range)
    intro a b ha hb hab e
    exact hab (valid_id h (by have := List.mem_range.1 ha; omega) (by have := List.mem_range.1 hb; omega) e)) (fun x hx => by
    obtain ⟨j, hj, rfl⟩ := List.mem_map.1 hx
    exact (rowB_bounds (valid_row h (by have := List.mem_range.1 hj; omega))).1)
  simp at h1; omega
theorem planted_start {w1 : World} {fb lb : Nat} {l : List S29} (hf : fb = w1.heap.size) (hl : lb = w1.heap.size + 1) : Planted ((w1.alloc (.cells (cellsOf (fun _ => 0) 37 fun _ => none) 102 (0, 0))).alloc (.cells (cellsOf (fun _ => 0) 19 fun _ => none) 103 (0, 0))) fb lb (fun _ => 0) l 0 := by
  subst hf; subst hl
  have h1 := heap_alloc_new w1 (.cells (cellsOf (fun _ => 0) 37 fun _ => none) 102 (0, 0))
  have h2 := heap_alloc_new (w1.alloc (.cells (cellsOf (fun _ => 0) 37 fun _ => none) 102 (0, 0))) (.cells (cellsOf (fun _ => 0) 19 fun _ => none) 103 (0, 0))
  rw [size_alloc] at h2
  have e : ∀ j, placeOf l 0 j = none := fun j => rfl
  exact
    { node := fun i hi => absurd hi (by omega), forest := blk_alloc h1 _, last := h2, inj := fun i j hi => absurd hi (by omega), nf := fun i hi => absurd hi (by omega), nl := fun i hi => absurd hi (by omega), fl := by omega, lt := fun i j hi => absurd hi (by omega), ltF := fun i j _ e => (by cases e), ltL := fun i j _ e => (by cases e) }
/-- A new node behind the tree of m rows, met by none. -/
theorem Planted.fresh {W1 : World} {fb lb : Nat} {nb : Nat → Nat} {l : List S29} {m g : Nat} {id : Int} {tx : ByteArray} (hX : Planted W1 fb lb nb l m) (hg : g = W1.heap.size) (hid : idAt l m = id) (htx : textAt l m = tx) :
    Blocks (W1.alloc (.cells #[.int .i64 id, .string tx, .pointer none, .pointer none, .pointer none] 63 (0, 0))) fb lb (upd nb m g) (m + 1) (idAt l) (textAt l) (upd (Tree.par (depthAt l)) m none) (upd (Tree.kid1 (depthAt l) m) m none) (upd (Tree.sib (depthAt l) m) m none) (fun j => placeOf l m (j : Int)) (fun d => Tree.lastAt (depthAt l) m (d : Int)) := by
  subst hg; subst hid; subst htx
  obtain ⟨h1, h2, h3⟩ := Blocks.old hX
  exact (Blocks.below hX (below_alloc (Below.refl _ _) _)).fresh (heap_alloc_new W1 _) (fun i hi => by have := h3 i hi; omega) (by omega) (by omega)
theorem Planted.boxed {w wr w4 : World} {fb lb : Nat} {nb : Nat → Nat} {l : List S29} {m : Nat} {gb : Nat} (hB : Below w.heap.size w wr) (hX : Planted wr fb lb nb l m) (hb : Below wr.heap.size wr w4) {z0 z1 z2 : Value} (hbox : w4.heap[gb]? = some (.cells #[z0, z1, z2] 29 (0, 0))) (hg : gb = wr.heap.size) (id dp : Int) (tx : ByteArray) :
    RBox gb id dp tx (((w4.setCell ⟨gb, 0, none⟩ (.int .i64 id)).setCell ⟨gb, 1, none⟩ (.int .i64 dp)).setCell ⟨gb, 2, none⟩ (.string tx)) ∧ Planted (((w4.setCell ⟨gb, 0, none⟩ (.int .i64 id)).setCell ⟨gb, 1, none⟩ (.int .i64 dp)).setCell ⟨gb, 2, none⟩ (.string tx)) fb lb nb l m ∧ Below w.heap.size w (((w4.setCell ⟨gb, 0, none⟩ (.int .i64 id)).setCell ⟨gb, 1, none⟩ (.int .i64 dp)).setCell ⟨gb, 2, none⟩ (.string tx)) := by
  have hs := below_size hB
  exact ⟨blk_put (blk_put (blk_put hbox 0 _ rfl) 1 _ rfl) 2 _ rfl, Blocks.boxed hX hb hg _ _ _, below_set (below_set (below_set (below_step hB hb) (by omega)) (by omega)) (by omega)⟩

theorem nodeSize : (Tryd.prog.info? 63).map (·.size) = some 5 := by kernel_rfl
theorem neq_ptr_same (W : World) (a : Addr) : (binOp .neq 59 (.pointer (some a)) (.pointer (some a))).run Tryd.prog W = .ok (.bool false) W := by
  obtain ⟨j, hj, hjs⟩ := Option.map_eq_some_iff.1 nodeSize
  have h : ∀ d : Nat, (Op.equalIn (d + 1) 59 (.pointer (some a)) (.pointer (some a))).run Tryd.prog W = .ok true W := fun d => by
    simp [Op.equalIn, run_underlying Tryd.underlying59, sizeOf, typeInfo, hj, run_sameAddr_same]
  simp only [binOp]
  simp [Op.equal, Op.maxDepth, h 9999]
theorem neq_ptr_other (W : World) {a b : Addr} {ca cb : Array Value} {ta tb : TypeId} (hne : a ≠ b) (ha : W.heap[a.block]? = some (.cells ca ta (0, 0))) (hb : W.heap[b.block]? = some (.cells cb tb (0, 0))) : (binOp .neq 59 (.pointer (some a)) (.pointer (some b))).run Tryd.prog W = .ok (.bool true) W := by
  obtain ⟨j, hj, hjs⟩ := Option.map_eq_some_iff.1 nodeSize
  have h : ∀ d : Nat, (Op.equalIn (d + 1) 59 (.pointer (some a)) (.pointer (some b))).run Tryd.prog W = .ok false W := fun d => by
    simp [Op.equalIn, run_underlying Tryd.underlying59, sizeOf, typeInfo, hj, hjs, run_sameAddr_other W hne ha hb]
  simp only [binOp]
  simp [Op.equal, Op.maxDepth, h 9999]
theorem box_node {gb g : Nat} {a b c : Int} {s t : ByteArray} {x y z : Option Addr} {W : World} (h : RBox gb a b s W) (h' : NodeAt g c t x y z W) : gb ≠ g := blk_ne (t := 29) (t' := 63) h h' (by decide)
theorem first_blocks {W3 W5 : World} {fb lb : Nat} {nb : Nat → Nat} {m u g gu d : Nat} {N : Nat} {id : Nat → Int} {tx : Nat → ByteArray} {P K S F L : Nat → Option Nat} (h : Blocks W3 fb lb nb (m + 1) id tx (upd P m none) (upd K m none) (upd S m none) F L) (hm : m < N) (hu : u < m) (hg : g = nb m) (hgu : gu = nb u)
    (hW : (((W3.setCell ⟨g, 2, none⟩ (.pointer (some ⟨gu, 0, none⟩))).setCell ⟨g, 4, none⟩ (.pointer (ptr nb (K u)))).setCell ⟨gu, 3, none⟩ (.pointer (some ⟨g, 0, none⟩))) = W5) (hd : d < 19) (hk : K u = none) :
    Blocks W5 fb lb nb (m + 1) id tx (upd P m (some u)) (fun j => if j = u then some m else if j = m then none else K j) (fun j => if j = m then none else S j) F L := by
  subst hg; subst hgu; subst hW
  have h1 := ((h.putP (n := m) (by omega) (o := some u) (fun q e => by cases e; omega)).putS (n := m) (by omega) (o := K u) (fun q e => by rw [hk] at e; cases e)).putK (n := u) (by omega) (o := some m) (fun q e => by cases e; omega)
  refine h1.cong (fun j _ => ?_) (fun j _ => rfl) (fun j _ => ?_) (fun _ _ => rfl) (fun _ _ => rfl)
  · by_cases e : j = m
    · rw [e, upd_same, upd_same]
    · rw [upd_ne _ _ e, upd_ne _ _ e, upd_ne _ _ e]
  · by_cases e : j = m
    · rw [e, upd_same, hk, if_pos rfl]
    · rw [upd_ne _ _ e, upd_ne _ _ e, if_neg e]
theorem behind_blocks {W3 W5 : World} {fb lb : Nat} {nb : Nat → Nat} {m u a g gu ga : Nat} {id : Nat → Int} {tx : Nat → ByteArray} {P K S F L : Nat → Option Nat} (h : Blocks W3 fb lb nb (m + 1) id tx (upd P m none) (upd K m none) (upd S m none) F L) (hu : u < m) (ha : a < m) (hg : g = nb m) (hgu : gu = nb u) (hga : ga = nb a)
    (hW : (((W3.setCell ⟨g, 2, none⟩ (.pointer (some ⟨gu, 0, none⟩))).setCell ⟨g, 4, none⟩ (.pointer (ptr nb (S a)))).setCell ⟨ga, 4, none⟩ (.pointer (some ⟨g, 0, none⟩))) = W5) (hk : S a = none) :
    Blocks W5 fb lb nb (m + 1) id tx (upd P m (some u)) (fun j => if j = m then none else K j) (fun j => if j = a then some m else if j = m then none else S j) F L := by
  subst hg; subst hgu; subst hga; subst hW
  have h1 := ((h.putP (n := m) (by omega) (o := some u) (fun q e => by cases e; omega)).putS (n := m) (by omega) (o := S a) (fun q e => by rw [hk] at e; cases e)).putS (n := a) (by omega) (o := some m) (fun q e => by cases e; omega)
  refine h1.cong (fun j _ => ?_) (fun j _ => rfl) (fun j _ => ?_) (fun _ _ => rfl) (fun _ _ => rfl)
  · by_cases e : j = m
    · rw [e, upd_same, upd_same]
    · rw [upd_ne _ _ e, upd_ne _ _ e, upd_ne _ _ e]
  · by_cases e2 : j = a
    · rw [e2, upd_same, if_pos rfl]
    · rw [upd_ne _ _ e2, if_neg e2]
      by_cases e : j = m
      · rw [e, upd_same, hk, if_pos rfl]
      · rw [upd_ne _ _ e, upd_ne _ _ e, if_neg e]
/-- The tree with one row more, once the new node stands and is laid among the last ones. -/
theorem planted_close {W5 : World} {fb lb : Nat} {nb : Nat → Nat} {l : List S29} {m n d g : Nat} (hv : tok l [] 0 (-1) = true) (hm : m < l.length) (hn : idAt l m = (n : Int)) (hd : depthAt l m = (d : Int)) (hd19 : d < 19) (hg : g = nb m) {P K S : Nat → Option Nat}
    (h : Blocks W5 fb lb nb (m + 1) (idAt l) (textAt l) P K S (upd (fun j => placeOf l m (j : Int)) n (some m)) (fun e => Tree.lastAt (depthAt l) m (e : Int)))
    (hP : ∀ j, j < m + 1 → P j = Tree.par (depthAt l) j) (hK : ∀ j, j < m + 1 → K j = Tree.kid1 (depthAt l) (m + 1) j) (hS : ∀ j, j < m + 1 → S j = Tree.sib (depthAt l) (m + 1) j) :
    Planted (W5.setCell ⟨lb, d, none⟩ (.pointer (some ⟨g, 0, none⟩))) fb lb nb l (m + 1) := by
  subst hg
  exact (Blocks.putL h hd19 (show m < m + 1 by omega)).cong hP hK hS (fun j _ => F_next hv hm hn j) (fun j _ => L_next hd j)

set_option maxHeartbeats 4000000 in
set_option maxRecDepth 100000 in
theorem plant_yes (A0 : Option Addr) (c0 : Nat) (l0 : List S29) (w : World) (hr0 : Kd.C k29 w A0 l0.length l0) (hc0 : l0.length ≤ c0) (ht : TabOk w) (hv : tok l0 [] 0 (-1) = true) :
    Calls Tryd.prog 36 #[.slice A0 l0.length c0] w fun e w' => ∃ fb lb nb, e = .returned (.tuple #[.pointer (some ⟨fb, 0, none⟩), .bool true]) ∧ Below w.heap.size w w' ∧ Planted w' fb lb nb l0 l0.length := by
  have HR0 := Aside0.mk hr0
  have HT := Aside0.mk ht
  have HV := Aside0.mk hv
  have HC := Aside0.mk hc0
  clear hr0 ht hv hc0
  have hu47 := Tryd.underlying29
  go_enter Tryd.func36, Tryd.ntmps36
  go_wp2_with (go_at_call 10; refine (treeOk_calls A0 c0 l0 _ HR0.out HC.out HT.out).mono ?_; rw [HV.out]; rintro e w1 ⟨rfl, hb⟩; have HB := Aside0.mk hb; clear hb)
  obtain ⟨fb, hfb⟩ : ∃ fb, fb = w1.heap.size := ⟨_, rfl⟩
  rw [← hfb]
  obtain ⟨lb, hlb⟩ : ∃ lb, lb = fb + 1 := ⟨_, rfl⟩
  rw [← hlb]
  replace hfb := Aside0.mk hfb
  replace hlb := Aside0.mk hlb
  go_loopg [18] (l0.length + 1) (fun kq v18 w' => ∃ (i : Nat) (nb : Nat → Nat), v18 = .int .i64 (i : Int) ∧ Aside0 (i ≤ l0.length) ∧ Aside0 (kq = l0.length - i + 1) ∧ Aside0 (Planted w' fb lb nb l0 i) ∧ Aside0 (Below w.heap.size w w') ∧ Aside0 (w.heap.size ≤ fb ∧ w.heap.size ≤ lb ∧ ∀ j, j < i → w.heap.size ≤ nb j))
  case atStart => exact ⟨0, fun _ => 0, rfl, ⟨Nat.zero_le _⟩, ⟨rfl⟩, ⟨planted_start hfb.out (by rw [hlb.out, hfb.out])⟩, ⟨below_alloc (below_alloc HB.out _) _⟩, ⟨by have := below_size HB.out; have := hfb.out; have := hlb.out; exact ⟨by omega, by omega, fun j hj => absurd hj (by omega)⟩⟩⟩
  case round =>
    clear HB
    obtain ⟨i, nb, rfl, HI, HQ, HX, HB, HM⟩ := hrel
    by_cases hi : i < l0.length
    · have c1 : decide ((i : Int) < (l0.length : Int)) = true := decide_eq_true (by omega)
      obtain ⟨ad, e1, h0, h1, h2⟩ := at_T29 HR0.out (i : Int) (by omega) (by omega)
      cases e1
      replace h0 := pw_cell_below HB.out h0
      replace h1 := pw_cell_below HB.out h1
      replace h2 := pw_cell_below HB.out h2
      have hx : rd_T29 l0 (i : Int) = ⟨idAt l0 i, depthAt l0 i, textAt l0 i⟩ := by simp [rd_T29, idAt, depthAt, textAt, rowAt, hi]
      rw [hx] at h0 h1 h2
      dsimp only at h0 h1 h2
      simp only [Int.toNat_natCast] at h0 h1 h2
      have hb := valid_row HV.out hi
      obtain ⟨⟨b1, b2⟩, b3, b4⟩ := rowB_bounds hb
      obtain ⟨n, hn⟩ := Int.eq_ofNat_of_zero_le b1
      obtain ⟨d, hd⟩ := Int.eq_ofNat_of_zero_le b3
      rw [hn] at h0
      rw [hd] at h1
      have hn37 : n < 37 := by omega
      have hd19 : d < 19 := by omega
      replace hn := Aside0.mk hn
      replace hd := Aside0.mk hd
      clear hb b1 b2 b3 b4 hx
      have p1 : (0 ≤ (i : Int)) = True := eq_true (by omega)
      have p2 : ((i : Int) < (l0.length : Int)) = True := eq_true (by omega)
      generalize htx : textAt l0 i = tx at h2
      replace htx := Aside0.mk htx
      go_upto_region 8 with (((with_reducible refine gate_dst (N := 7) rfl ?_); refine box_event ?hg (N := 7) ?hd (cs := #[.int .i64 0, .int .i64 0, .string ⟨#[]⟩]) (t := 29) ?hr ?_; (case hd => rfl); (case hg => rfl); (case hr => first | (go_simp; done) | (go_simp; rfl)); intro gb hg w4 hbox hbl; have n1 := Aside0.mk (Planted.boxed HB.out HX.out hbl hbox hg n d tx); obtain ⟨hz0, hz1, hz2, hy0, hy1, hy2⟩ := blk_facts3 hbox; have n2 := Aside0.mk (show wr.heap.size = gb from hg.symm); clear hbl hbox hg))
      obtain ⟨W1, hW1⟩ : ∃ W1, W1 = (((w4.setCell ⟨gb, 0, none⟩ (.int .i64 n)).setCell ⟨gb, 1, none⟩ (.int .i64 d)).setCell ⟨gb, 2, none⟩ (.string tx)) := ⟨_, rfl⟩
      rw [← hW1] at n1 ⊢
      obtain ⟨HK1, HX1, HB1⟩ := n1.out
      replace HK1 := Aside0.mk HK1
      replace HX1 := Aside0.mk HX1
      replace HB1 := Aside0.mk HB1
      clear hz0 hz1 hz2 hy0 hy1 hy2 n1 hW1 HB h0 h1 h2
      obtain ⟨hz0, hz1, hz2, hy0, hy1, hy2⟩ := blk_facts3 HK1.out
      go_upto_region 9 with (fail)
      obtain ⟨g, hg⟩ : ∃ g, g = W1.heap.size := ⟨_, rfl⟩
      have n3 := Aside0.mk (Planted.fresh HX1.out hg hn.out htx.out)
      have n4 := Aside0.mk (show RBox gb n d tx (W1.alloc (.cells #[.int .i64 n, .string tx, .pointer none, .pointer none, .pointer none] 63 (0, 0))) from blk_alloc HK1.out _)
      have n5 := Aside0.mk (show Below w.heap.size w (W1.alloc (.cells #[.int .i64 n, .string tx, .pointer none, .pointer none, .pointer none] 63 (0, 0))) from below_alloc HB1.out _)
      have n6 := Aside0.mk (show w.heap.size ≤ g by rw [hg]; exact below_size HB1.out)
      rw [← hg]
      obtain ⟨W2, hW2⟩ : ∃ W2, W2 = W1.alloc (.cells #[.int .i64 n, .string tx, .pointer none, .pointer none, .pointer none] 63 (0, 0)) := ⟨_, rfl⟩
      rw [← hW2] at n3 n4 n5 ⊢
      clear hz0 hz1 hz2 hy0 hy1 hy2 hW2 hg HK1 HX1 HB1
      obtain ⟨hz0, hz1, hz2, hy0, hy1, hy2⟩ := blk_facts3 n4.out
      have hc : W2.cell? ⟨fb, n, none⟩ = some _ := (blk_cell n3.out.forest n).trans (cellsOf_at hn37)
      have hf := blk_frozen n3.out.forest n
      have q1 : (0 : Int) ≤ (n : Int) := by omega
      have q2 : (n : Int) < 37 := by omega
      have hfg := Aside0.mk (show gb ≠ fb by have := (Blocks.old HX.out).1; have := n2.out; omega)
      have hlg := Aside0.mk (show gb ≠ lb by have := (Blocks.old HX.out).2.1; have := n2.out; omega)
      have k1 := Aside0.mk (show (W2.setCell ⟨fb, n, none⟩ (.pointer (some ⟨g, 0, none⟩))).cell? ⟨gb, 0, none⟩ = some (.int .i64 n) from (blk_cell (blk_far n4.out hfg.out _) 0).trans rfl)
      go_region_held3 (fun w' => w'.cell? ⟨gb, 0, none⟩ = some (.int .i64 n)) (first | exact k1.out | go_keep) (fail)
      obtain ⟨W3, hW3⟩ : ∃ W3, W3 = (W2.setCell ⟨fb, n, none⟩ (.pointer (some ⟨g, 0, none⟩))).drew := ⟨_, rfl⟩
      have m3 := Aside0.mk (show Blocks W3 fb lb (upd nb i g) (i + 1) (idAt l0) (textAt l0) (upd (Tree.par (depthAt l0)) i none) (upd (Tree.kid1 (depthAt l0) i) i none) (upd (Tree.sib (depthAt l0) i) i none) (upd (fun j => placeOf l0 i (j : Int)) n (some i)) (fun d => Tree.lastAt (depthAt l0) i (d : Int)) by
        have h := Blocks.putF n3.out hn37 (show i < i + 1 by omega)
        rw [upd_same] at h
        rw [hW3]; exact h.drew)
      have m4 := Aside0.mk (show RBox gb n d tx W3 by rw [hW3]; exact blk_drew (blk_far n4.out hfg.out _))
      have m5 := Aside0.mk (show Below w.heap.size w W3 by rw [hW3]; exact below_drew1 (below_set n5.out HM.out.1))
      rw [← hW3]
      clear hz0 hz1 hz2 hy0 hy1 hy2 hc hf k1 hW3 n3 n4 n5
      obtain ⟨hz0, hz1, hz2, hy0, hy1, hy2⟩ := blk_facts3 m4.out
      have hw3 : IntKind.i64.wrap ((i : Int) + 1) = ((i + 1 : Nat) : Int) := wrap_id (by have := fewRows HV.out hi; omega)
      have q3 : (0 : Int) ≤ (d : Int) := by omega
      have q4 : (d : Int) < 19 := by omega
      by_cases hd0 : d = 0
      · subst hd0
        have c3 : decide (0 < ((0 : Nat) : Int)) = false := by decide
        have hc : W3.cell? ⟨lb, 0, none⟩ = some _ := (blk_cell m3.out.last 0).trans (cellsOf_at hd19)
        have hf := blk_frozen m3.out.last 0
        go_wp2
        go_roundg (l0.length - (i + 1) + 1)
        case measure => have := HQ.out; omega
        case rel =>
          exact ⟨i + 1, upd nb i g, by simp, ⟨by omega⟩, ⟨rfl⟩, ⟨by
            have h := Blocks.putL m3.out hd19 (show i < i + 1 by omega)
            rw [upd_same] at h
            have hp : Tree.par (depthAt l0) i = none := (Tree.par_zero (valid_steps HV.out) hi).2 (by rw [hd.out]; rfl)
            exact h.cong (fun j hj => by
              by_cases e : j = i
              · rw [e, upd_same, hp]
              · rw [upd_ne _ _ e]) (fun j hj => K_root hp hj) (fun j hj => S_root hp hj) (fun j hj => F_next HV.out hi hn.out j) (fun j hj => L_next hd.out j)⟩, ⟨below_set m5.out HM.out.2.1⟩, ⟨HM.out.1, HM.out.2.1, fun j hj => by
            by_cases e : j = i
            · rw [e, upd_same]; exact n6.out
            · rw [upd_ne _ _ e]; exact HM.out.2.2 j (by omega)⟩⟩
      · have hdp : Tree.par (depthAt l0) i ≠ none := fun h => by
          have := (Tree.par_zero (valid_steps HV.out) hi).1 h; rw [hd.out] at this; omega
        obtain ⟨u, hu⟩ : ∃ u, Tree.par (depthAt l0) i = some u := Option.ne_none_iff_exists'.1 hdp
        have hul := Tree.par_lt hu
        have hlu : Tree.lastAt (depthAt l0) i ((d - 1 : Nat) : Int) = some u := by
          have h := Tree.par_lastAt (valid_steps HV.out) hi hu
          rw [hd.out] at h
          rw [show ((d - 1 : Nat) : Int) = (d : Int) - 1 by omega]; exact h
        have c3 : decide (0 < (d : Int)) = true := decide_eq_true (by omega)
        have c4 : decide (0 < d) = true := decide_eq_true (by omega)
        have hwd : IntKind.i64.wrap ((d : Int) - 1) = ((d - 1 : Nat) : Int) := (wrap_id (by omega)).trans (by omega)
        have q5 : (0 : Int) ≤ ((d - 1 : Nat) : Int) := by omega
        have q6 : ((d - 1 : Nat) : Int) < 19 := by omega
        obtain ⟨gu, hgu⟩ : ∃ gu, gu = upd nb i g u := ⟨_, rfl⟩
        have hc : W3.cell? ⟨lb, d - 1, none⟩ = some (.pointer (some ⟨gu, 0, none⟩)) := (blk_cell m3.out.last (d - 1)).trans ((cellsOf_at (by omega)).trans (by rw [hlu, hgu]; rfl))
        have hn1 := Aside0.mk (show NodeAt g n tx none none none W3 by
          have h := m3.out.node i (by omega)
          rw [upd_same, upd_same, upd_same, upd_same, hn.out, htx.out] at h; exact h)
        have hn2 := Aside0.mk (show NodeAt gu (idAt l0 u) (textAt l0 u) (ptr (upd nb i g) (Tree.par (depthAt l0) u)) (ptr (upd nb i g) (Tree.kid1 (depthAt l0) i u)) (ptr (upd nb i g) (Tree.sib (depthAt l0) i u)) W3 by
          have h := m3.out.node u (by omega)
          rw [upd_ne (Tree.par (depthAt l0)) _ (by omega), upd_ne (Tree.kid1 (depthAt l0) i) _ (by omega), upd_ne (Tree.sib (depthAt l0) i) _ (by omega), ← hgu] at h; exact h)
        have hne : g ≠ gu := fun e => by
          have h := m3.out.inj i u (by omega) (by omega) (by rw [upd_same, ← hgu]; exact e); omega
        replace hgu := Aside0.mk hgu
        replace hu := Aside0.mk hu
        replace hlu := Aside0.mk hlu
        replace hne := Aside0.mk hne
        have hd1 := Aside0.mk hd0
        clear hdp hd0
        cases hl : Tree.lastAt (depthAt l0) i (d : Int) with
        | none =>
          replace hl := Aside0.mk hl
          have hc2 : W3.cell? ⟨lb, d, none⟩ = some (.pointer none) := (blk_cell m3.out.last d).trans ((cellsOf_at hd19).trans (by rw [hl.out]; rfl))
          go_upto_region 16 with (go_at_call 66; refine (attach_first g gu _ _ _ _ _ _ _ _ _ _ _ hn1.out hn2.out hne.out).mono ?_; rintro e w5 ⟨rfl, hw5⟩)
          have hnk : ∀ j, j < i → Tree.par (depthAt l0) j ≠ some u := Tree.no_kid (valid_steps HV.out) hi hu.out (fun a ha => by rw [hd.out] at ha; rw [show Tree.lastAt (depthAt l0) i (d : Int) = none from hl.out] at ha; cases ha)
          have hk0 : Tree.kid1 (depthAt l0) i u = none := Tree.firstB_none.2 fun k hk => by simpa using hnk k hk
          replace hk0 := Aside0.mk hk0
          replace hnk := Aside0.mk hnk
          replace hw5 := Aside0.mk hw5
          have m6 := Aside0.mk (first_blocks m3.out hi hul (show g = upd nb i g i by rw [upd_same]) hgu.out hw5.out.symm hd19 hk0.out)
          have hgu2 : w.heap.size ≤ gu := by rw [hgu.out, upd_ne _ _ (by omega)]; exact HM.out.2.2 u hul
          rw [← hw5.out]
          have hg1 : gb ≠ g := box_node m4.out hn1.out
          have hg2 : gb ≠ gu := box_node m4.out hn2.out
          clear hz0 hz1 hz2 hy0 hy1 hy2 hc hc2
          have m7 := Aside0.mk (show Below w.heap.size w w5 by rw [hw5.out]; exact below_set (below_set (below_set m5.out n6.out) n6.out) hgu2)
          have m9 := Aside0.mk (show RBox gb n d tx w5 by rw [hw5.out]; exact blk_far (blk_far (blk_far m4.out hg1 _) hg1 _) hg2 _)
          obtain ⟨hz0, hz1, hz2, hy0, hy1, hy2⟩ := blk_facts3 m9.out
          have hc : w5.cell? ⟨lb, d, none⟩ = some _ := (blk_cell m6.out.last d).trans (cellsOf_at hd19)
          have hf := blk_frozen m6.out.last d
          have m8 := Aside0.mk (planted_close HV.out hi hn.out hd.out hd19 (show g = upd nb i g i by rw [upd_same]) m6.out (fun j hj => by
            by_cases e : j = i
            · rw [e, upd_same, hu.out]
            · rw [upd_ne _ _ e]) (fun j hj => K_first hu.out hnk.out hj) (fun j hj => S_first hu.out hnk.out hj))
          clear hw5
          go_wp2
          go_roundg (l0.length - (i + 1) + 1)
          case measure => have := HQ.out; omega
          case rel =>
            exact ⟨i + 1, upd nb i g, by simp, ⟨by omega⟩, ⟨rfl⟩, ⟨m8.out⟩, ⟨below_set m7.out HM.out.2.1⟩, ⟨HM.out.1, HM.out.2.1, fun j hj => by
              by_cases e : j = i
              · rw [e, upd_same]; exact n6.out
              · rw [upd_ne _ _ e]; exact HM.out.2.2 j (by omega)⟩⟩
        | some a =>
          obtain ⟨ha1, ha2, _⟩ := Tree.lastB_some.1 hl
          have had : depthAt l0 a = (d : Int) := by simpa using ha2
          have hap : Tree.par (depthAt l0) a ≠ none := fun h => by
            have := (Tree.par_zero (valid_steps HV.out) (by omega)).1 h; rw [had] at this; have := hd1.out; omega
          obtain ⟨p, hp⟩ : ∃ p, Tree.par (depthAt l0) a = some p := Option.ne_none_iff_exists'.1 hap
          have hpl := Tree.par_lt hp
          obtain ⟨ga, hga⟩ : ∃ ga, ga = upd nb i g a := ⟨_, rfl⟩
          have hc2 : W3.cell? ⟨lb, d, none⟩ = some (.pointer (some ⟨ga, 0, none⟩)) := (blk_cell m3.out.last d).trans ((cellsOf_at hd19).trans (by rw [hl, hga]; rfl))
          have hn3 := Aside0.mk (show NodeAt ga (idAt l0 a) (textAt l0 a) (ptr (upd nb i g) (some p)) (ptr (upd nb i g) (Tree.kid1 (depthAt l0) i a)) (ptr (upd nb i g) (Tree.sib (depthAt l0) i a)) W3 by
            have h := m3.out.node a (by omega)
            rw [upd_ne (Tree.par (depthAt l0)) _ (by omega), upd_ne (Tree.kid1 (depthAt l0) i) _ (by omega), upd_ne (Tree.sib (depthAt l0) i) _ (by omega), ← hga, hp] at h; exact h)
          have hne3 := Aside0.mk (show g ≠ ga from fun e => by
            have h := m3.out.inj i a (by omega) (by omega) (by rw [upd_same, ← hga]; exact e); omega)
          have hc5 : W3.cell? ⟨ga, 2, none⟩ = some (.pointer (ptr (upd nb i g) (some p))) := (blk_cell hn3.out 2).trans rfl
          replace hga := Aside0.mk hga
          replace hl := Aside0.mk hl
          replace hp := Aside0.mk hp
          clear ha2 had hap
          by_cases hpu : p = u
          · subst hpu
            have hc4 : W3.cell? ⟨ga, 2, none⟩ = some (.pointer (some ⟨gu, 0, none⟩)) := hc5.trans (by rw [hgu.out]; rfl)
            clear hc5
            have hq := neq_ptr_same W3 ⟨gu, 0, none⟩
            go_upto_region 16 with (go_at_call 66; refine (attach_behind g gu ga _ _ _ _ _ _ _ _ _ _ _ hn1.out hn3.out hne3.out).mono ?_; rintro e w5 ⟨rfl, hw5⟩)
            have hs0 : Tree.sib (depthAt l0) i a = none := Tree.lastAt_sib (valid_steps HV.out) hi hu.out (by rw [hd.out]; exact hl.out) hp.out
            replace hs0 := Aside0.mk hs0
            replace hw5 := Aside0.mk hw5
            have m6 := Aside0.mk (behind_blocks m3.out hul ha1 (show g = upd nb i g i by rw [upd_same]) hgu.out hga.out hw5.out.symm hs0.out)
            have hgu2 : w.heap.size ≤ ga := by rw [hga.out, upd_ne _ _ (by omega)]; exact HM.out.2.2 a ha1
            rw [← hw5.out]
            have hg1 : gb ≠ g := box_node m4.out hn1.out
            have hg2 : gb ≠ ga := box_node m4.out hn3.out
            clear hz0 hz1 hz2 hy0 hy1 hy2 hc hc2 hc4 hq
            have m7 := Aside0.mk (show Below w.heap.size w w5 by rw [hw5.out]; exact below_set (below_set (below_set m5.out n6.out) n6.out) hgu2)
            have m9 := Aside0.mk (show RBox gb n d tx w5 by rw [hw5.out]; exact blk_far (blk_far (blk_far m4.out hg1 _) hg1 _) hg2 _)
            obtain ⟨hz0, hz1, hz2, hy0, hy1, hy2⟩ := blk_facts3 m9.out
            have hc : w5.cell? ⟨lb, d, none⟩ = some _ := (blk_cell m6.out.last d).trans (cellsOf_at hd19)
            have hf := blk_frozen m6.out.last d
            have m8 := Aside0.mk (planted_close HV.out hi hn.out hd.out hd19 (show g = upd nb i g i by rw [upd_same]) m6.out (fun j hj => by
              by_cases e : j = i
              · rw [e, upd_same, hu.out]
              · rw [upd_ne _ _ e]) (fun j hj => K_behind hu.out ha1 hp.out hj) (fun j hj => S_behind (valid_steps HV.out) hi hu.out (by rw [hd.out]; exact hl.out) hp.out hj))
            clear hw5
            go_wp2
            go_roundg (l0.length - (i + 1) + 1)
            case measure => have := HQ.out; omega
            case rel =>
              exact ⟨i + 1, upd nb i g, by simp, ⟨by omega⟩, ⟨rfl⟩, ⟨m8.out⟩, ⟨below_set m7.out HM.out.2.1⟩, ⟨HM.out.1, HM.out.2.1, fun j hj => by
                by_cases e : j = i
                · rw [e, upd_same]; exact n6.out
                · rw [upd_ne _ _ e]; exact HM.out.2.2 j (by omega)⟩⟩
          · obtain ⟨gp, hgp⟩ : ∃ gp, gp = upd nb i g p := ⟨_, rfl⟩
            have hc4 : W3.cell? ⟨ga, 2, none⟩ = some (.pointer (some ⟨gp, 0, none⟩)) := hc5.trans (by rw [hgp]; rfl)
            have f0 : gp ≠ gu := fun e => hpu (m3.out.inj p u (by omega) (by omega) (by rw [← hgp, ← hgu.out]; exact e))
            have f1 : (gp == gu) = false := beq_eq_false_iff_ne.2 f0
            have f2 : decide (gp = gu) = false := decide_eq_false f0
            have f3 : (gp = gu) = False := eq_false f0
            replace hpu := Aside0.mk hpu
            have hq := neq_ptr_other W3 (show (⟨gp, 0, none⟩ : Addr) ≠ ⟨gu, 0, none⟩ from fun e => f0 (congrArg Addr.block e)) (ca := _) (ta := 63) (show W3.heap[gp]? = some _ by have h := m3.out.node p (by omega); rw [← hgp] at h; exact h) (cb := _) (tb := 63) (show W3.heap[gu]? = some _ from hn2.out)
            clear hc5 hgp f0
            go_upto_region 16 with (go_at_call 66; refine (attach_first g gu _ _ _ _ _ _ _ _ _ _ _ hn1.out hn2.out hne.out).mono ?_; rintro e w5 ⟨rfl, hw5⟩)
            have hnk : ∀ j, j < i → Tree.par (depthAt l0) j ≠ some u := Tree.no_kid (valid_steps HV.out) hi hu.out (fun b hb => by rw [hd.out, hl.out] at hb; cases hb; rw [hp.out]; exact fun e => hpu.out (Option.some.inj e))
            have hk0 : Tree.kid1 (depthAt l0) i u = none := Tree.firstB_none.2 fun k hk => by simpa using hnk k hk
            replace hk0 := Aside0.mk hk0
            replace hnk := Aside0.mk hnk
            replace hw5 := Aside0.mk hw5
            have m6 := Aside0.mk (first_blocks m3.out hi hul (show g = upd nb i g i by rw [upd_same]) hgu.out hw5.out.symm hd19 hk0.out)
            have hgu2 : w.heap.size ≤ gu := by rw [hgu.out, upd_ne _ _ (by omega)]; exact HM.out.2.2 u hul
            rw [← hw5.out]
            have hg1 : gb ≠ g := box_node m4.out hn1.out
            have hg2 : gb ≠ gu := box_node m4.out hn2.out
            clear hz0 hz1 hz2 hy0 hy1 hy2 hc hc2 hc4 f1 f2 f3 hq
            have m7 := Aside0.mk (show Below w.heap.size w w5 by rw [hw5.out]; exact below_set (below_set (below_set m5.out n6.out) n6.out) hgu2)
            have m9 := Aside0.mk (show RBox gb n d tx w5 by rw [hw5.out]; exact blk_far (blk_far (blk_far m4.out hg1 _) hg1 _) hg2 _)
            obtain ⟨hz0, hz1, hz2, hy0, hy1, hy2⟩ := blk_facts3 m9.out
            have hc : w5.cell? ⟨lb, d, none⟩ = some _ := (blk_cell m6.out.last d).trans (cellsOf_at hd19)
            have hf := blk_frozen m6.out.last d
            have m8 := Aside0.mk (planted_close HV.out hi hn.out hd.out hd19 (show g = upd nb i g i by rw [upd_same]) m6.out (fun j hj => by
              by_cases e : j = i
              · rw [e, upd_same, hu.out]
              · rw [upd_ne _ _ e]) (fun j hj => K_first hu.out hnk.out hj) (fun j hj => S_first hu.out hnk.out hj))
            clear hw5
            go_wp2
            go_roundg (l0.length - (i + 1) + 1)
            case measure => have := HQ.out; omega
            case rel =>
              exact ⟨i + 1, upd nb i g, by simp, ⟨by omega⟩, ⟨rfl⟩, ⟨m8.out⟩, ⟨below_set m7.out HM.out.2.1⟩, ⟨HM.out.1, HM.out.2.1, fun j hj => by
                by_cases e : j = i
                · rw [e, upd_same]; exact n6.out
                · rw [upd_ne _ _ e]; exact HM.out.2.2 j (by omega)⟩⟩
    · have c1 : decide ((i : Int) < (l0.length : Int)) = false := decide_eq_false (by omega)
      have hil : i = l0.length := by have := HI.out; omega
      subst hil
      go_wp2
      go_ret2
      exact ⟨fb, lb, nb, rfl, HB.out, HX.out⟩
end Go.Proofs.YtdapbpgooehibaaDoor
