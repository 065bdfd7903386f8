/- The program's tree of nodes by walks: a node put under another one, a node found. Each says what lies in memory behind the call, block by block. -/
import Derived.Test.YtaajcbbbmpdcnaaDoorTreeM
import Derived.Test.YtaajcbbbmpdcnaaDoorTreeOkC
namespace Go.Proofs.YtaajcbbbmpdcnaaDoor
open Go.RowKit Go.Proofs.YtaajcbbbmpdcnaaDoorW.PrintWords Go.Proofs.YtaajcbbbmpdcnaaDoorW.PrintLast Go.Proofs.YtaajcbbbmpdcnaaDoorW.PrintMore Go.Proofs.YtaajcbbbmpdcnaaDoor.P
set_option linter.unusedVariables false
set_option linter.unusedSimpArgs false

/-- A node's block. -/
def NodeAt (g : Nat) (id : Int) (text : ByteArray) (up first next : Option Addr) (W : World) : Prop := W.heap[g]? = some (.cells #[.int .i64 id, .string text, .pointer up, .pointer first, .pointer next] 79 (0, 0))

set_option maxHeartbeats 2000000 in
set_option maxRecDepth 100000 in
theorem attach_first (gn gu : Nat) (id1 id2 : Int) (t1 t2 : ByteArray) (a1 b1 c1 a2 b2 c2 : Option Addr) (w : World) (hn : NodeAt gn id1 t1 a1 b1 c1 w) (hu : NodeAt gu id2 t2 a2 b2 c2 w) (hne : gn ≠ gu) :
    Calls Tryd.prog 97 #[.pointer (some ⟨gn, 0, none⟩), .pointer (some ⟨gu, 0, none⟩), .pointer none] w fun e w' => e = .returned (.tuple #[]) ∧ w' = (((w.setCell ⟨gn, 2, none⟩ (.pointer (some ⟨gu, 0, none⟩))).setCell ⟨gn, 4, none⟩ (.pointer b2)).setCell ⟨gu, 3, none⟩ (.pointer (some ⟨gn, 0, none⟩))) := by
  have HN := Aside0.mk hn
  have HU := Aside0.mk hu
  have HE := Aside0.mk hne
  clear hn hu hne
  obtain ⟨hz0, hz1, hz2, hz3, hz4, hy0, hy1, hy2, hy3, hy4⟩ := blk_facts5 HN.out
  go_enter Tryd.func97, Tryd.ntmps97
  go_upto_region 2 with (fail)
  have HN1 : Aside0 (NodeAt gn id1 t1 (some ⟨gu, 0, none⟩) b1 c1 (w.setCell ⟨gn, 2, none⟩ (.pointer (some ⟨gu, 0, none⟩)))) := ⟨blk_put HN.out 2 _ rfl⟩
  have HU1 : Aside0 (NodeAt gu id2 t2 a2 b2 c2 (w.setCell ⟨gn, 2, none⟩ (.pointer (some ⟨gu, 0, none⟩)))) := ⟨blk_far HU.out (Ne.symm HE.out) _⟩
  clear hz0 hz1 hz2 hz3 hz4 hy0 hy1 hy2 hy3 hy4
  obtain ⟨hz0, hz1, hz2, hz3, hz4, hy0, hy1, hy2, hy3, hy4⟩ := blk_facts5 HN1.out
  obtain ⟨iz0, iz1, iz2, iz3, iz4, iy0, iy1, iy2, iy3, iy4⟩ := blk_facts5 HU1.out
  go_upto_region 3 with (fail)
  have HU2 : Aside0 (NodeAt gu id2 t2 a2 b2 c2 ((w.setCell ⟨gn, 2, none⟩ (.pointer (some ⟨gu, 0, none⟩))).setCell ⟨gn, 4, none⟩ (.pointer b2))) := ⟨blk_far HU1.out (Ne.symm HE.out) _⟩
  clear hz0 hz1 hz2 hz3 hz4 hy0 hy1 hy2 hy3 hy4 iz0 iz1 iz2 iz3 iz4 iy0 iy1 iy2 iy3 iy4
  obtain ⟨iz0, iz1, iz2, iz3, iz4, iy0, iy1, iy2, iy3, iy4⟩ := blk_facts5 HU2.out
  go_wp2
  refine bodyPost_ret (results_none rfl _ _ _) rfl ?_
  exact ⟨rfl, rfl⟩

set_option maxHeartbeats 2000000 in
set_option maxRecDepth 100000 in
theorem attach_behind (gn gu ga : Nat) (id1 id2 : Int) (t1 t2 : ByteArray) (a1 b1 c1 a2 b2 c2 : Option Addr) (w : World) (hn : NodeAt gn id1 t1 a1 b1 c1 w) (ha : NodeAt ga id2 t2 a2 b2 c2 w) (hne : gn ≠ ga) :
    Calls Tryd.prog 97 #[.pointer (some ⟨gn, 0, none⟩), .pointer (some ⟨gu, 0, none⟩), .pointer (some ⟨ga, 0, none⟩)] w fun e w' => e = .returned (.tuple #[]) ∧ w' = (((w.setCell ⟨gn, 2, none⟩ (.pointer (some ⟨gu, 0, none⟩))).setCell ⟨gn, 4, none⟩ (.pointer c2)).setCell ⟨ga, 4, none⟩ (.pointer (some ⟨gn, 0, none⟩))) := by
  have HN := Aside0.mk hn
  have HU := Aside0.mk ha
  have HE := Aside0.mk hne
  clear hn ha hne
  obtain ⟨hz0, hz1, hz2, hz3, hz4, hy0, hy1, hy2, hy3, hy4⟩ := blk_facts5 HN.out
  go_enter Tryd.func97, Tryd.ntmps97
  go_upto_region 4 with (fail)
  have HN1 : Aside0 (NodeAt gn id1 t1 (some ⟨gu, 0, none⟩) b1 c1 (w.setCell ⟨gn, 2, none⟩ (.pointer (some ⟨gu, 0, none⟩)))) := ⟨blk_put HN.out 2 _ rfl⟩
  have HU1 : Aside0 (NodeAt ga id2 t2 a2 b2 c2 (w.setCell ⟨gn, 2, none⟩ (.pointer (some ⟨gu, 0, none⟩)))) := ⟨blk_far HU.out (Ne.symm HE.out) _⟩
  clear hz0 hz1 hz2 hz3 hz4 hy0 hy1 hy2 hy3 hy4
  obtain ⟨hz0, hz1, hz2, hz3, hz4, hy0, hy1, hy2, hy3, hy4⟩ := blk_facts5 HN1.out
  obtain ⟨iz0, iz1, iz2, iz3, iz4, iy0, iy1, iy2, iy3, iy4⟩ := blk_facts5 HU1.out
  go_upto_region 5 with (fail)
  have HU2 : Aside0 (NodeAt ga id2 t2 a2 b2 c2 ((w.setCell ⟨gn, 2, none⟩ (.pointer (some ⟨gu, 0, none⟩))).setCell ⟨gn, 4, none⟩ (.pointer c2))) := ⟨blk_far HU1.out (Ne.symm HE.out) _⟩
  clear hz0 hz1 hz2 hz3 hz4 hy0 hy1 hy2 hy3 hy4 iz0 iz1 iz2 iz3 iz4 iy0 iy1 iy2 iy3 iy4
  obtain ⟨iz0, iz1, iz2, iz3, iz4, iy0, iy1, iy2, iy3, iy4⟩ := blk_facts5 HU2.out
  go_wp2
  go_end0
  exact ⟨rfl, rfl⟩
/-- The number of a node; 0 of none. -/
theorem idOf_nil (w : World) : Calls Tryd.prog 73 #[.pointer none] w fun e w' => e = .returned (.int .i64 0) ∧ w' = w := by
  go_enter Tryd.func73, Tryd.ntmps73
  go_wp2
  go_ret
  exact ⟨rfl, rfl⟩
theorem idOf_node (g : Nat) (id : Int) (t : ByteArray) (a b c : Option Addr) (w : World) (h : NodeAt g id t a b c w) : Calls Tryd.prog 73 #[.pointer (some ⟨g, 0, none⟩)] w fun e w' => e = .returned (.int .i64 id) ∧ w' = w := by
  have H := Aside0.mk h
  obtain ⟨hz0, hz1, hz2, hz3, hz4, hy0, hy1, hy2, hy3, hy4⟩ := blk_facts5 H.out
  clear h
  go_enter Tryd.func73, Tryd.ntmps73
  go_wp2
  go_ret
  exact ⟨rfl, rfl⟩
end Go.Proofs.YtaajcbbbmpdcnaaDoor
