/- The program's commands on a row, by walks: under the row right ahead, behind the one over it, thrown away. Where the table lies as the program's text lays it. -/
import Derived.Test.YtaajcbbbmpdcnaaDoorTreeI
import Derived.Deep.RegionHeld3
import Derived.Deep.RegionWith
import Derived.Test.YtaajcbbbmpdcnaaDoorV2
namespace Go.Proofs.YtaajcbbbmpdcnaaDoor
open Go.RowKit Go.Shelf Go.Proofs.YtaajcbbbmpdcnaaDoorW.PrintWords Go.Proofs.YtaajcbbbmpdcnaaDoorW.PrintLast Go.Proofs.YtaajcbbbmpdcnaaDoorW.PrintMore Go.Proofs.YtaajcbbbmpdcnaaDoor.P
set_option linter.unusedVariables false
set_option linter.unusedSimpArgs false

theorem idOf_cell (g : Nat) (id : Int) (w : World) (h : w.cell? ⟨g, 0, none⟩ = some (.int .i64 id)) : Calls Tryd.prog 73 #[.pointer (some ⟨g, 0, none⟩)] w fun e w' => e = .returned (.int .i64 id) ∧ w' = w := by
  go_enter Tryd.func73, Tryd.ntmps73
  go_wp2
  go_ret
  exact ⟨rfl, rfl⟩
/-- The change that moves a row, as a value. -/
def moveV (id up at_ : Int) : Value := .agg #[.int .i64 3, .int .i64 id, .int .i64 up, .int .i64 at_, .string ⟨#[]⟩]
set_option maxHeartbeats 2000000 in
set_option maxRecDepth 100000 in
theorem moveTo_node (gn gu ga : Nat) (a b c : Int) (w : World) (hn : w.cell? ⟨gn, 0, none⟩ = some (.int .i64 a)) (hu : w.cell? ⟨gu, 0, none⟩ = some (.int .i64 b)) (ha : w.cell? ⟨ga, 0, none⟩ = some (.int .i64 c)) :
    Calls Tryd.prog 109 #[.pointer (some ⟨gn, 0, none⟩), .pointer (some ⟨gu, 0, none⟩), .pointer (some ⟨ga, 0, none⟩)] w fun e w' => e = .returned (moveV a b c) ∧ Below w.heap.size w w' := by
  have x1 := World.new_ne w _ hn
  have x2 := World.new_ne w _ hu
  have x3 := World.new_ne w _ ha
  go_enter Tryd.func109, Tryd.ntmps109
  go_upto_region 1 with (fail)
  have hu40 := Tryd.underlying40
  go_region_held3 (fun w' => w'.cell? ⟨gn, 0, none⟩ = some (.int .i64 a) ∧ w'.cell? ⟨gu, 0, none⟩ = some (.int .i64 b) ∧ w'.cell? ⟨ga, 0, none⟩ = some (.int .i64 c)) (go_keep) (first | (go_at_call 73; refine (idOf_cell ga c _ ?_).mono ?_; (simp [*]); rintro e w' ⟨rfl, rfl⟩))
  go_wp2
  refine bodyPost_ret (results_cell_row rfl _ _ w.heap.size 40 #[.int .i64 3, .int .i64 a, .int .i64 b, .int .i64 c, .string (⟨#[]⟩ : ByteArray)] (0, 0) _ rfl (heap_alloc_new w _) Tryd.underlying40 rfl (by kernel_rfl)) rfl ?_
  exact ⟨rfl, below_drew1 (below_alloc (Below.refl _ _) _)⟩
set_option maxHeartbeats 2000000 in
set_option maxRecDepth 100000 in
theorem moveTo_nil (gn gu : Nat) (a b : Int) (w : World) (hn : w.cell? ⟨gn, 0, none⟩ = some (.int .i64 a)) (hu : w.cell? ⟨gu, 0, none⟩ = some (.int .i64 b)) :
    Calls Tryd.prog 109 #[.pointer (some ⟨gn, 0, none⟩), .pointer (some ⟨gu, 0, none⟩), .pointer none] w fun e w' => e = .returned (moveV a b 0) ∧ Below w.heap.size w w' := by
  have x1 := World.new_ne w _ hn
  have x2 := World.new_ne w _ hu
  go_enter Tryd.func109, Tryd.ntmps109
  go_upto_region 1 with (fail)
  have hu40 := Tryd.underlying40
  go_region_held3 (fun w' => w'.cell? ⟨gn, 0, none⟩ = some (.int .i64 a) ∧ w'.cell? ⟨gu, 0, none⟩ = some (.int .i64 b)) (go_keep) (first | (go_at_call 73; refine (idOf_nil _).mono ?_; rintro e w' ⟨rfl, rfl⟩))
  go_wp2
  refine bodyPost_ret (results_cell_row rfl _ _ w.heap.size 40 #[.int .i64 3, .int .i64 a, .int .i64 b, .int .i64 0, .string (⟨#[]⟩ : ByteArray)] (0, 0) _ rfl (heap_alloc_new w _) Tryd.underlying40 rfl (by kernel_rfl)) rfl ?_
  exact ⟨rfl, below_drew1 (below_alloc (Below.refl _ _) _)⟩
/-- A command's answer. -/
abbrev Key := Int × Int × Int × Int × ByteArray × Bool
def noOp : Key := (0, 0, 0, 0, ⟨#[]⟩, false)
def moveOp (id up at_ : Int) : Key := (3, id, up, at_, ⟨#[]⟩, true)
def keyV (r : Key) : Value := .tuple #[.agg #[.int .i64 r.1, .int .i64 r.2.1, .int .i64 r.2.2.1, .int .i64 r.2.2.2.1, .string r.2.2.2.2.1], .bool r.2.2.2.2.2]
def lastId (l : List S47) : Option Nat → Int
  | none => 0
  | some k => idAt l k
theorem Nodes.grow {w W : World} {nb : Nat → Nat} {l : List S47} (h : Nodes w.heap.size w nb l) (hb : Below w.heap.size w W) : Nodes W.heap.size W nb l :=
  ⟨fun i hi => Nat.lt_of_lt_of_le (h.low i hi) (below_size hb), (h.below hb).node, h.inj⟩
theorem Nodes.id {n₀ : Nat} {W : World} {nb : Nat → Nat} {l : List S47} (h : Nodes n₀ W nb l) {i : Nat} (hi : i < l.length) : W.cell? ⟨nb i, 0, none⟩ = some (.int .i64 (idAt l i)) := (blk_cell (h.node i hi) 0).trans rfl
theorem Nodes.up {n₀ : Nat} {W : World} {nb : Nat → Nat} {l : List S47} (h : Nodes n₀ W nb l) {i u : Nat} (hi : i < l.length) (hp : Tree.par (depthAt l) i = some u) : W.cell? ⟨nb i, 2, none⟩ = some (.pointer (some ⟨nb u, 0, none⟩)) := (blk_cell (h.node i hi) 2).trans (by rw [hp]; rfl)
/-- Under the row right ahead, as its last. -/
def inAt (l : List S47) (i : Nat) : Key :=
  match Tree.prev (depthAt l) i with
  | none => noOp
  | some a => moveOp (idAt l i) (idAt l a) (lastId l (Tree.kidsOf (depthAt l) l.length a).getLast?)
set_option maxHeartbeats 2000000 in
set_option maxRecDepth 100000 in
theorem key1_none {l : List S47} {w : World} {nb : Nat → Nat} (hL : Nodes w.heap.size w nb l) (f : Option Addr) (i u : Nat) (hi : i < l.length) (hp : Tree.par (depthAt l) i = some u) (hv : Tree.prev (depthAt l) i = none) :
    Calls Tryd.prog 108 #[.pointer f, .pointer (some ⟨nb i, 0, none⟩)] w fun e w' => e = .returned (keyV noOp) ∧ Below w.heap.size w w' := by
  have HL := Aside0.mk hL
  have HP := Aside0.mk hp
  have HV := Aside0.mk hv
  clear hL hp hv
  go_enter Tryd.func108, Tryd.ntmps108
  go_wp2_with (go_at_call 75; refine (ahead_calls (HL.out.grow (below_alloc (Below.refl _ _) _)) i u hi HP.out).mono ?_; rw [HV.out]; rintro e w1 ⟨rfl, hb⟩; have hbk : Aside0 (OpBox w.heap.size 0 0 0 0 (⟨#[]⟩ : ByteArray) w1) := ⟨blk_below (heap_alloc_new w _) hb⟩; obtain ⟨hz0, hz1, hz2, hz3, hz4, hy0, hy1, hy2, hy3, hy4⟩ := blk_facts5 hbk.out; have HB : Aside0 (Below w.heap.size w w1) := ⟨below_then (below_alloc (Below.refl _ _) _) (below_size (below_alloc (Below.refl _ _) _)) hb⟩; clear hb; dsimp only [ptr, Option.map])
  refine bodyPost_ret (results_ct rfl _ _ w.heap.size 40 #[.int .i64 0, .int .i64 0, .int .i64 0, .int .i64 0, .string (⟨#[]⟩ : ByteArray)] (0, 0) _ rfl (blk_put (blk_put (blk_put (blk_put (blk_put hbk.out 0 _ rfl) 1 _ rfl) 2 _ rfl) 3 _ rfl) 4 _ rfl) Tryd.underlying40 rfl (by kernel_rfl)) rfl ?_
  exact ⟨rfl, below_set (below_set (below_set (below_set (below_set HB.out (Nat.le_refl _)) (Nat.le_refl _)) (Nat.le_refl _)) (Nat.le_refl _)) (Nat.le_refl _)⟩
set_option maxHeartbeats 2000000 in
set_option maxRecDepth 100000 in
theorem key1_some {l : List S47} {w : World} {nb : Nat → Nat} (hL : Nodes w.heap.size w nb l) (f : Option Addr) (i u a : Nat) (hi : i < l.length) (hp : Tree.par (depthAt l) i = some u) (hv : Tree.prev (depthAt l) i = some a) (o : Option Nat) (ho : (Tree.kidsOf (depthAt l) l.length a).getLast? = o) :
    Calls Tryd.prog 108 #[.pointer f, .pointer (some ⟨nb i, 0, none⟩)] w fun e w' => e = .returned (keyV (moveOp (idAt l i) (idAt l a) (lastId l o))) ∧ Below w.heap.size w w' := by
  have ha : a < l.length := by have := (Tree.prev_some.1 hv).1; omega
  have hol : ∀ k, o = some k → k < l.length := fun k e => (Tree.mem_kids.1 (List.mem_of_getLast? (ho.trans e))).1
  have HL := Aside0.mk hL
  have HP := Aside0.mk hp
  have HV := Aside0.mk hv
  have HO := Aside0.mk ho
  have HOL := Aside0.mk hol
  clear hL hp hv ho hol
  cases o with
  | none =>
    go_enter Tryd.func108, Tryd.ntmps108
    go_wp2_with (first | (go_at_call 75; refine (ahead_calls (HL.out.grow (below_alloc (Below.refl _ _) _)) i u hi HP.out).mono ?_; rw [HV.out]; rintro e w1 ⟨rfl, hb⟩; have hbk : Aside0 (OpBox w.heap.size 0 0 0 0 (⟨#[]⟩ : ByteArray) w1) := ⟨blk_below (heap_alloc_new w _) hb⟩; have HB : Aside0 (Below w.heap.size w w1) := ⟨below_then (below_alloc (Below.refl _ _) _) (below_size (below_alloc (Below.refl _ _) _)) hb⟩; clear hb; dsimp only [ptr, Option.map]) | (go_at_call 110; refine (lastKid_calls (HL.out.grow HB.out) a ha).mono ?_; rw [HO.out]; rintro e w2 ⟨rfl, hb⟩; have hbk2 : Aside0 (OpBox w.heap.size 0 0 0 0 (⟨#[]⟩ : ByteArray) w2) := ⟨blk_below hbk.out hb⟩; have HB2 : Aside0 (Below w.heap.size w w2) := ⟨below_then HB.out (below_size HB.out) hb⟩; clear hb hbk HB; dsimp only [ptr, Option.map]) | (go_at_call 109; refine (moveTo_nil (nb i) (nb a) _ _ _ ((HL.out.grow HB2.out).id hi) ((HL.out.grow HB2.out).id ha)).mono ?_; rintro e w3 ⟨rfl, hb⟩; have hbk3 : Aside0 (OpBox w.heap.size 0 0 0 0 (⟨#[]⟩ : ByteArray) w3) := ⟨blk_below hbk2.out hb⟩; obtain ⟨hz0, hz1, hz2, hz3, hz4, hy0, hy1, hy2, hy3, hy4⟩ := blk_facts5 hbk3.out; have HB3 : Aside0 (Below w.heap.size w w3) := ⟨below_then HB2.out (below_size HB2.out) hb⟩; clear hb hbk2 HB2; dsimp only [moveV]))
    refine bodyPost_ret (results_ct rfl _ _ w.heap.size 40 #[.int .i64 3, .int .i64 (idAt l i), .int .i64 (idAt l a), .int .i64 0, .string (⟨#[]⟩ : ByteArray)] (0, 0) _ rfl (blk_put (blk_put (blk_put (blk_put (blk_put hbk3.out 0 _ rfl) 1 _ rfl) 2 _ rfl) 3 _ rfl) 4 _ rfl) Tryd.underlying40 rfl (by kernel_rfl)) rfl ?_
    exact ⟨rfl, below_set (below_set (below_set (below_set (below_set HB3.out (Nat.le_refl _)) (Nat.le_refl _)) (Nat.le_refl _)) (Nat.le_refl _)) (Nat.le_refl _)⟩
  | some k =>
    have hk := HOL.out k rfl
    go_enter Tryd.func108, Tryd.ntmps108
    go_wp2_with (first | (go_at_call 75; refine (ahead_calls (HL.out.grow (below_alloc (Below.refl _ _) _)) i u hi HP.out).mono ?_; rw [HV.out]; rintro e w1 ⟨rfl, hb⟩; have hbk : Aside0 (OpBox w.heap.size 0 0 0 0 (⟨#[]⟩ : ByteArray) w1) := ⟨blk_below (heap_alloc_new w _) hb⟩; have HB : Aside0 (Below w.heap.size w w1) := ⟨below_then (below_alloc (Below.refl _ _) _) (below_size (below_alloc (Below.refl _ _) _)) hb⟩; clear hb; dsimp only [ptr, Option.map]) | (go_at_call 110; refine (lastKid_calls (HL.out.grow HB.out) a ha).mono ?_; rw [HO.out]; rintro e w2 ⟨rfl, hb⟩; have hbk2 : Aside0 (OpBox w.heap.size 0 0 0 0 (⟨#[]⟩ : ByteArray) w2) := ⟨blk_below hbk.out hb⟩; have HB2 : Aside0 (Below w.heap.size w w2) := ⟨below_then HB.out (below_size HB.out) hb⟩; clear hb hbk HB; dsimp only [ptr, Option.map]) | (go_at_call 109; refine (moveTo_node (nb i) (nb a) (nb k) _ _ _ _ ((HL.out.grow HB2.out).id hi) ((HL.out.grow HB2.out).id ha) ((HL.out.grow HB2.out).id hk)).mono ?_; rintro e w3 ⟨rfl, hb⟩; have hbk3 : Aside0 (OpBox w.heap.size 0 0 0 0 (⟨#[]⟩ : ByteArray) w3) := ⟨blk_below hbk2.out hb⟩; obtain ⟨hz0, hz1, hz2, hz3, hz4, hy0, hy1, hy2, hy3, hy4⟩ := blk_facts5 hbk3.out; have HB3 : Aside0 (Below w.heap.size w w3) := ⟨below_then HB2.out (below_size HB2.out) hb⟩; clear hb hbk2 HB2; dsimp only [moveV]))
    refine bodyPost_ret (results_ct rfl _ _ w.heap.size 40 #[.int .i64 3, .int .i64 (idAt l i), .int .i64 (idAt l a), .int .i64 (idAt l k), .string (⟨#[]⟩ : ByteArray)] (0, 0) _ rfl (blk_put (blk_put (blk_put (blk_put (blk_put hbk3.out 0 _ rfl) 1 _ rfl) 2 _ rfl) 3 _ rfl) 4 _ rfl) Tryd.underlying40 rfl (by kernel_rfl)) rfl ?_
    exact ⟨rfl, below_set (below_set (below_set (below_set (below_set HB3.out (Nat.le_refl _)) (Nat.le_refl _)) (Nat.le_refl _)) (Nat.le_refl _)) (Nat.le_refl _)⟩
theorem key1_calls {l : List S47} {w : World} {nb : Nat → Nat} (hL : Nodes w.heap.size w nb l) (f : Option Addr) (i u : Nat) (hi : i < l.length) (hp : Tree.par (depthAt l) i = some u) :
    Calls Tryd.prog 108 #[.pointer f, .pointer (some ⟨nb i, 0, none⟩)] w fun e w' => e = .returned (keyV (inAt l i)) ∧ Below w.heap.size w w' := by
  unfold inAt
  cases hv : Tree.prev (depthAt l) i with
  | none => exact key1_none hL f i u hi hp hv
  | some a => exact key1_some hL f i u a hi hp hv _ rfl
/-- Behind the one over it. -/
def outAt (l : List S47) (i : Nat) : Key :=
  match Tree.par (depthAt l) i with
  | none => noOp
  | some u => if rootB (idAt l u) = true then noOp else (match Tree.par (depthAt l) u with
    | none => noOp
    | some v => moveOp (idAt l i) (idAt l v) (idAt l u))
theorem Nodes.tab {w W : World} (ht : TabOk w) (hb : Below w.heap.size w W) : TabOk W := ht.below hb
set_option maxHeartbeats 2000000 in
set_option maxRecDepth 100000 in
theorem key2_root {l : List S47} {w : World} {nb : Nat → Nat} (hL : Nodes w.heap.size w nb l) (ht : TabOk w) (f : Option Addr) (i u : Nat) (hi : i < l.length) (hp : Tree.par (depthAt l) i = some u) (hr : rootB (idAt l u) = true) :
    Calls Tryd.prog 111 #[.pointer f, .pointer (some ⟨nb i, 0, none⟩)] w fun e w' => e = .returned (keyV noOp) ∧ Below w.heap.size w w' := by
  have hul : u < l.length := by have := Tree.par_lt hp; omega
  have h0 : Below w.heap.size w (w.alloc (.cells #[.int .i64 0, .int .i64 0, .int .i64 0, .int .i64 0, .string (⟨#[]⟩ : ByteArray)] 40)) := below_alloc (Below.refl _ _) _
  have c1 := (hL.below h0).up hi hp
  have c2 := (hL.below h0).id hul
  have HT := Aside0.mk ht
  have HR := Aside0.mk hr
  have H0 := Aside0.mk h0
  clear hL hp hr ht h0
  go_enter Tryd.func111, Tryd.ntmps111
  go_wp2_with (go_at_call 65; refine (isRoot_b _ _ (HT.out.below H0.out)).mono ?_; rw [HR.out]; rintro e w1 ⟨rfl, hb⟩; have hbk : Aside0 (OpBox w.heap.size 0 0 0 0 (⟨#[]⟩ : ByteArray) w1) := ⟨blk_below (heap_alloc_new w _) hb⟩; obtain ⟨hz0, hz1, hz2, hz3, hz4, hy0, hy1, hy2, hy3, hy4⟩ := blk_facts5 hbk.out; have HB : Aside0 (Below w.heap.size w w1) := ⟨below_then H0.out (below_size H0.out) hb⟩; clear hb)
  refine bodyPost_ret (results_ct rfl _ _ w.heap.size 40 #[.int .i64 0, .int .i64 0, .int .i64 0, .int .i64 0, .string (⟨#[]⟩ : ByteArray)] (0, 0) _ rfl (blk_put (blk_put (blk_put (blk_put (blk_put hbk.out 0 _ rfl) 1 _ rfl) 2 _ rfl) 3 _ rfl) 4 _ rfl) Tryd.underlying40 rfl (by kernel_rfl)) rfl ?_
  exact ⟨rfl, below_set (below_set (below_set (below_set (below_set HB.out (Nat.le_refl _)) (Nat.le_refl _)) (Nat.le_refl _)) (Nat.le_refl _)) (Nat.le_refl _)⟩
set_option maxHeartbeats 4000000 in
set_option maxRecDepth 100000 in
theorem key2_deep {l : List S47} {w : World} {nb : Nat → Nat} (hL : Nodes w.heap.size w nb l) (ht : TabOk w) (f : Option Addr) (i u v : Nat) (hi : i < l.length) (hp : Tree.par (depthAt l) i = some u) (hr : rootB (idAt l u) = false) (hq : Tree.par (depthAt l) u = some v) :
    Calls Tryd.prog 111 #[.pointer f, .pointer (some ⟨nb i, 0, none⟩)] w fun e w' => e = .returned (keyV (moveOp (idAt l i) (idAt l v) (idAt l u))) ∧ Below w.heap.size w w' := by
  have hul : u < l.length := by have := Tree.par_lt hp; omega
  have hvl : v < l.length := by have := Tree.par_lt hq; omega
  have h0 : Below w.heap.size w (w.alloc (.cells #[.int .i64 0, .int .i64 0, .int .i64 0, .int .i64 0, .string (⟨#[]⟩ : ByteArray)] 40)) := below_alloc (Below.refl _ _) _
  have c1 := (hL.below h0).up hi hp
  have c2 := (hL.below h0).id hul
  have HL := Aside0.mk hL
  have HP := Aside0.mk hp
  have HQ := Aside0.mk hq
  have HT := Aside0.mk ht
  have HR := Aside0.mk hr
  have H0 := Aside0.mk h0
  clear hL hp hr ht h0 hq
  go_enter Tryd.func111, Tryd.ntmps111
  go_upto_region 3 with (go_at_call 65; refine (isRoot_b _ _ (HT.out.below H0.out)).mono ?_; rw [HR.out]; rintro e w1 ⟨rfl, hb⟩; have hbk : Aside0 (OpBox w.heap.size 0 0 0 0 (⟨#[]⟩ : ByteArray) w1) := ⟨blk_below (heap_alloc_new w _) hb⟩; have HB : Aside0 (Below w.heap.size w w1) := ⟨below_then H0.out (below_size H0.out) hb⟩; clear hb)
  clear c1 c2
  have N1 := HL.out.below HB.out
  have k1 : w1.drew.cell? ⟨nb i, 0, none⟩ = some (.int .i64 (idAt l i)) := N1.id hi
  have k2 : w1.drew.cell? ⟨nb v, 0, none⟩ = some (.int .i64 (idAt l v)) := N1.id hvl
  have k3 : w1.drew.cell? ⟨nb u, 0, none⟩ = some (.int .i64 (idAt l u)) := N1.id hul
  have s1 : w1.drew.cell? ⟨nb i, 2, none⟩ = some (.pointer (some ⟨nb u, 0, none⟩)) := N1.up hi HP.out
  have s2 : w1.drew.cell? ⟨nb u, 2, none⟩ = some (.pointer (some ⟨nb v, 0, none⟩)) := N1.up hul HQ.out
  have K1 := Aside0.mk k1
  have K2 := Aside0.mk k2
  have K3 := Aside0.mk k3
  clear N1 k1 k2 k3
  have hu40 := Tryd.underlying40
  go_region_with (go_at_call 109; refine (moveTo_node (nb i) (nb v) (nb u) _ _ _ _ K1.out K2.out K3.out).mono ?_; rintro e w3 ⟨rfl, hb⟩; have hbk3 : Aside0 (OpBox w.heap.size 0 0 0 0 (⟨#[]⟩ : ByteArray) w3) := ⟨blk_below (blk_drew hbk.out) hb⟩; obtain ⟨hz0, hz1, hz2, hz3, hz4, hy0, hy1, hy2, hy3, hy4⟩ := blk_facts5 hbk3.out; have HB3 : Aside0 (Below w.heap.size w w3) := ⟨below_then (below_drew1 HB.out) (below_size (below_drew1 HB.out)) hb⟩; clear hb; dsimp only [moveV])
  all_goals go_wp2
  all_goals refine bodyPost_ret (results_ct rfl _ _ w.heap.size 40 #[.int .i64 3, .int .i64 (idAt l i), .int .i64 (idAt l v), .int .i64 (idAt l u), .string (⟨#[]⟩ : ByteArray)] (0, 0) _ rfl (blk_put (blk_put (blk_put (blk_put (blk_put hbk3.out 0 _ rfl) 1 _ rfl) 2 _ rfl) 3 _ rfl) 4 _ rfl) Tryd.underlying40 rfl (by kernel_rfl)) rfl ?_
  all_goals exact ⟨rfl, below_set (below_set (below_set (below_set (below_set HB3.out (Nat.le_refl _)) (Nat.le_refl _)) (Nat.le_refl _)) (Nat.le_refl _)) (Nat.le_refl _)⟩
/-- A row that is no root has one over it. -/
theorem made_par {l : List S47} (hv : tok l [] 0 (-1) = true) {i : Nat} (hi : i < l.length) (h : rootB (idAt l i) = false) : ∃ u, Tree.par (depthAt l) i = some u := by
  cases hp : Tree.par (depthAt l) i with
  | some u => exact ⟨u, rfl⟩
  | none =>
    have h1 := valid_row hv hi
    have h2 := (Tree.par_zero (valid_steps hv) hi).1 hp
    unfold rowB at h1
    rw [h] at h1
    simp [h2] at h1
theorem key2_calls {l : List S47} {w : World} {nb : Nat → Nat} (hv : tok l [] 0 (-1) = true) (hL : Nodes w.heap.size w nb l) (ht : TabOk w) (f : Option Addr) (i u : Nat) (hi : i < l.length) (hp : Tree.par (depthAt l) i = some u) :
    Calls Tryd.prog 111 #[.pointer f, .pointer (some ⟨nb i, 0, none⟩)] w fun e w' => e = .returned (keyV (outAt l i)) ∧ Below w.heap.size w w' := by
  have hul : u < l.length := by have := Tree.par_lt hp; omega
  unfold outAt
  rw [hp]
  dsimp only
  cases hr : rootB (idAt l u) with
  | true => exact key2_root hL ht f i u hi hp hr
  | false =>
    obtain ⟨v, hq⟩ := made_par hv hul hr
    rw [hq]
    exact key2_deep hL ht f i u v hi hp hr hq
end Go.Proofs.YtaajcbbbmpdcnaaDoor
