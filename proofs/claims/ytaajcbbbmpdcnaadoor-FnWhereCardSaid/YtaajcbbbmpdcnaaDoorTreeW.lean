/- Whether a row stands under another one, by walks over the planted tree. Where the table lies as the program's text lays it. -/
import Derived.Test.YtaajcbbbmpdcnaaDoorTreeQ
namespace Go.Proofs.YtaajcbbbmpdcnaaDoor
open Go.RowKit Go.Proofs.YtaajcbbbmpdcnaaDoorW.PrintWords Go.Proofs.YtaajcbbbmpdcnaaDoorW.PrintLast Go.Proofs.YtaajcbbbmpdcnaaDoorW.PrintMore Go.Proofs.YtaajcbbbmpdcnaaDoor.P
set_option linter.unusedVariables false
set_option linter.unusedSimpArgs false
theorem eql_ptr_same (W : World) (a : Addr) : (binOp .eql 74 (.pointer (some a)) (.pointer (some a))).run Tryd.prog W = .ok (.bool true) W := by
 obtain ⟨j, hj, hjs⟩ := Option.map_eq_some_iff.1 nodeSize
 exact run_eql_ptr_same W a Tryd.underlying74 hj
theorem eql_ptr_other (W : World) {a b : Addr} {ca cb : Array Value} {ta tb : TypeId} (hne : a ≠ b) (ha : W.heap[a.block]? = some (.cells ca ta (0, 0))) (hb : W.heap[b.block]? = some (.cells cb tb (0, 0))) : (binOp .eql 74 (.pointer (some a)) (.pointer (some b))).run Tryd.prog W = .ok (.bool false) W := by
 obtain ⟨j, hj, hjs⟩ := Option.map_eq_some_iff.1 nodeSize
 exact run_eql_ptr_other W Tryd.underlying74 hj (by rw [hjs]; decide) hne ha hb
set_option maxHeartbeats 2000000 in
set_option maxRecDepth 100000 in
theorem within_r {l : List S47} {w : World} {fb lb : Nat} {nb : Nat → Nat} (hp : Planted w fb lb nb l l.length) (i u : Nat) (hi : i < l.length) (hu : u < l.length) (r : Bool) (h0 : Tree.metB (depthAt l) u (i + 2) (some i) = r) :
  Calls Tryd.prog 70 #[.pointer (some ⟨nb i, 0, none⟩), .pointer (some ⟨nb u, 0, none⟩)] w fun e w' => e = .returned (.bool r) ∧ w' = w := by
 have HP := Aside0.mk hp
 have HU := Aside0.mk hu
 have H0 := Aside0.mk h0
 clear hp hu h0
 go_enter Tryd.func70, Tryd.ntmps70
 go_wp2
 go_loopg [0] (i + 2) (fun kq v0 w' => ∃ (o : Option Nat), v0 = .pointer (ptr nb o) ∧ w' = w ∧ Aside0 (Tree.metB (depthAt l) u kq o = r) ∧ Aside0 (∀ j, o = some j → j < l.length ∧ j + 1 < kq) ∧ Aside0 (1 ≤ kq))
 case atStart => exact ⟨some i, rfl, rfl, H0, ⟨fun j e => by cases e; omega⟩, ⟨by omega⟩⟩
 case round =>
  obtain ⟨o, rfl, rfl, HA, HO, HK⟩ := hrel
  cases gk with
  | zero => exact absurd HK.out (by omega)
  | succ k =>
   cases o with
   | none =>
    have hr := HA.out
    simp only [Tree.metB] at hr
    replace hr := Aside0.mk hr
    go_wp2
    go_ret
    exact ⟨by rw [← hr.out]; rfl, rfl⟩
   | some j =>
    obtain ⟨hj1, hj2⟩ := HO.out j rfl
    have hr := HA.out
    simp only [Tree.metB] at hr
    by_cases e : j = u
    ·subst e
     rw [if_pos rfl] at hr
     replace hr := Aside0.mk hr
     have hq := eql_ptr_same wr ⟨nb j, 0, none⟩
     dsimp only [ptr, Option.map]
     go_wp2
     go_ret
     exact ⟨by rw [← hr.out]; rfl, rfl⟩
    ·rw [if_neg e] at hr
     replace hr := Aside0.mk hr
     have hne : nb j ≠ nb u := fun h => e (HP.out.inj j u hj1 HU.out h)
     have hq := eql_ptr_other wr (show (⟨nb j, 0, none⟩ : Addr) ≠ ⟨nb u, 0, none⟩ from fun h => hne (congrArg Addr.block h)) (HP.out.node j hj1) (HP.out.node u HU.out)
     obtain ⟨q, hqq⟩ : ∃ q, q = ptr nb (Tree.par (depthAt l) j) := ⟨_, rfl⟩
     have hc : wr.cell? ⟨nb j, 2, none⟩ = some (.pointer q) := (blk_cell (HP.out.node j hj1) 2).trans (by rw [hqq]; rfl)
     replace hqq := Aside0.mk hqq
     replace hne := Aside0.mk hne
     dsimp only [ptr, Option.map]
     go_wp2
     go_roundg k
     case measure => omega
     case rel => exact ⟨Tree.par (depthAt l) j, by rw [hqq.out], rfl, hr, ⟨fun q e2 => by have := Tree.par_lt e2; omega⟩, ⟨by omega⟩⟩
def treeUnder (l : List S47) (id under : Int) : Bool :=
 if tok l [] 0 (-1) = true then (match placeOf l l.length id, placeOf l l.length under with
  | some i, some u => Tree.metB (depthAt l) u (i + 2) (some i)
  | _, _ => false) else false
end Go.Proofs.YtaajcbbbmpdcnaaDoor
