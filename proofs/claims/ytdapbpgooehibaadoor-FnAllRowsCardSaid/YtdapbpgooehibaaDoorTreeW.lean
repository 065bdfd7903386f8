/- Whether a row stands under another one, by walks over the planted tree. Where the table lies as the program's text lays it. -/
import Derived.Test.YtdapbpgooehibaaDoorTreeQ
namespace Go.Proofs.YtdapbpgooehibaaDoor
open Go.RowKit Go.Proofs.YtdapbpgooehibaaDoorW.PrintWords Go.Proofs.YtdapbpgooehibaaDoorW.PrintLast Go.Proofs.YtdapbpgooehibaaDoorW.PrintMore Go.Proofs.YtdapbpgooehibaaDoor.P
set_option linter.unusedVariables false
set_option linter.unusedSimpArgs false

theorem eql_ptr_same (W : World) (a : Addr) : (binOp .eql 59 (.pointer (some a)) (.pointer (some a))).run Tryd.prog W = .ok (.bool true) W := by
  obtain ⟨j, hj, hjs⟩ := Option.map_eq_some_iff.1 nodeSize
  exact run_eql_ptr_same W a Tryd.underlying59 hj
theorem eql_ptr_other (W : World) {a b : Addr} {ca cb : Array Value} {ta tb : TypeId} (hne : a ≠ b) (ha : W.heap[a.block]? = some (.cells ca ta (0, 0))) (hb : W.heap[b.block]? = some (.cells cb tb (0, 0))) : (binOp .eql 59 (.pointer (some a)) (.pointer (some b))).run Tryd.prog W = .ok (.bool false) W := by
  obtain ⟨j, hj, hjs⟩ := Option.map_eq_some_iff.1 nodeSize
  exact run_eql_ptr_other W Tryd.underlying59 hj (by rw [hjs]; decide) hne ha hb

set_option maxHeartbeats 2000000 in
set_option maxRecDepth 100000 in
theorem within_r {l : List S29} {w : World} {fb lb : Nat} {nb : Nat → Nat} (hp : Planted w fb lb nb l l.length) (i u : Nat) (hi : i < l.length) (hu : u < l.length) (r : Bool) (h0 : Tree.metB (depthAt l) u (i + 2) (some i) = r) :
    Calls Tryd.prog 55 #[.pointer (some ⟨nb i, 0, none⟩), .pointer (some ⟨nb u, 0, none⟩)] w fun e w' => e = .returned (.bool r) ∧ w' = w := by
  have HP := Aside0.mk hp
  have HU := Aside0.mk hu
  have H0 := Aside0.mk h0
  clear hp hu h0
  go_enter Tryd.func55, Tryd.ntmps55
  go_wp2
  go_loopg [0] (i + 2) (fun kq v0 w' => ∃ (o : Option Nat), v0 = .pointer (ptr nb o) ∧ w' = w ∧ Aside0 (Tree.metB (depthAt l) u kq o = r) ∧ Aside0 (∀ j, o = some j → j < l.length ∧ j + 1 < kq) ∧ Aside0 (1 ≤ kq))
  case atStart => exact ⟨some i, rfl, rfl, H0, ⟨fun j e => by cases e; omega⟩, ⟨by omega⟩⟩
  case round =>
    obtain ⟨o, rfl, rfl, HA, HO, HK⟩ := hrel
    cases gk with
    | zero => exact absurd HK.out (by omega)
    | succ k =>
      cases o with
      | none =>
        have hr := HA.out
        simp only [Tree.metB] at hr
        replace hr := Aside0.mk hr
        go_wp2
        go_ret
        exact ⟨by rw [← hr.out]; rfl, rfl⟩
      | some j =>
        obtain ⟨hj1, hj2⟩ := HO.out j rfl
        have hr := HA.out
        simp only [Tree.metB] at hr
        by_cases e : j = u
        · subst e
          rw [if_pos rfl] at hr
          replace hr := Aside0.mk hr
          have hq := eql_ptr_same wr ⟨nb j, 0, none⟩
          dsimp only [ptr, Option.map]
          go_wp2
          go_ret
          exact ⟨by rw [← hr.out]; rfl, rfl⟩
        · rw [if_neg e] at hr
          replace hr := Aside0.mk hr
          have hne : nb j ≠ nb u := fun h => e (HP.out.inj j u hj1 HU.out h)
          have hq := eql_ptr_other wr (show (⟨nb j, 0, none⟩ : Addr) ≠ ⟨nb u, 0, none⟩ from fun h => hne (congrArg Addr.block h)) (HP.out.node j hj1) (HP.out.node u HU.out)
          obtain ⟨q, hqq⟩ : ∃ q, q = ptr nb (Tree.par (depthAt l) j) := ⟨_, rfl⟩
          have hc : wr.cell? ⟨nb j, 2, none⟩ = some (.pointer q) := (blk_cell (HP.out.node j hj1) 2).trans (by rw [hqq]; rfl)
          replace hqq := Aside0.mk hqq
          replace hne := Aside0.mk hne
          dsimp only [ptr, Option.map]
          go_wp2
          go_roundg k
          case measure => omega
          case rel => exact ⟨Tree.par (depthAt l) j, by rw [hqq.out], rfl, hr, ⟨fun q e2 => by have := Tree.par_lt e2; omega⟩, ⟨by omega⟩⟩
theorem within_calls {l : List S29} {w : World} {fb lb : Nat} {nb : Nat → Nat} (hp : Planted w fb lb nb l l.length) (i u : Nat) (hi : i < l.length) (hu : u < l.length) :
    Calls Tryd.prog 55 #[.pointer (some ⟨nb i, 0, none⟩), .pointer (some ⟨nb u, 0, none⟩)] w fun e w' => e = .returned (.bool (Tree.metB (depthAt l) u (i + 2) (some i))) ∧ w' = w := within_r hp i u hi hu _ rfl
/-- Whether a row stands under another one, or is it. -/
def treeUnder (l : List S29) (id under : Int) : Bool :=
  if tok l [] 0 (-1) = true then (match placeOf l l.length id, placeOf l l.length under with
    | some i, some u => Tree.metB (depthAt l) u (i + 2) (some i)
    | _, _ => false) else false
set_option maxHeartbeats 2000000 in
set_option maxRecDepth 100000 in
theorem treeUnder_calls (A0 : Option Addr) (c0 : Nat) (l0 : List S29) (id under : Int) (w : World) (hr0 : Kd.C k29 w A0 l0.length l0) (hc0 : l0.length ≤ c0) (ht : TabOk w) :
    Calls Tryd.prog 28 #[.slice A0 l0.length c0, .int .i64 id, .int .i64 under] w fun e w' => e = .returned (.bool (treeUnder l0 id under)) ∧ Below w.heap.size w w' := by
  have HR0 := Aside0.mk hr0
  have HT := Aside0.mk ht
  have HC := Aside0.mk hc0
  clear hr0 ht hc0
  by_cases hv : tok l0 [] 0 (-1) = true
  · have HV := Aside0.mk hv
    have e0 : treeUnder l0 id under = (match placeOf l0 l0.length id, placeOf l0 l0.length under with
      | some i, some u => Tree.metB (depthAt l0) u (i + 2) (some i)
      | _, _ => false) := by unfold treeUnder; rw [if_pos hv]
    clear hv
    cases hpl : placeOf l0 l0.length id with
    | none =>
      have e1 : treeUnder l0 id under = false := by rw [e0, hpl]
      rw [e1]
      have hp1 := Aside0.mk hpl
      clear e0 e1 hpl
      cases hpu : placeOf l0 l0.length under with
      | none =>
        have hp2 := Aside0.mk hpu
        clear hpu
        go_enter Tryd.func28, Tryd.ntmps28
        go_wp2_with (first | (go_at_call 36; refine (plant_yes A0 c0 l0 _ HR0.out HC.out HT.out HV.out).mono ?_; rintro e w1 ⟨fb, lb, nb, rfl, hb, hp⟩; have HB := Aside0.mk hb; have HP := Aside0.mk hp; clear hb hp) | (go_at_call 37; refine (find_calls HV.out HP.out _).mono ?_; (first | rw [hp1.out] | rw [hp2.out]); rintro e w2 ⟨rfl, rfl⟩; dsimp only [ptr, Option.map]))
        go_ret
        exact ⟨rfl, HB.out⟩
      | some u =>
        have hp2 := Aside0.mk hpu
        clear hpu
        go_enter Tryd.func28, Tryd.ntmps28
        go_wp2_with (first | (go_at_call 36; refine (plant_yes A0 c0 l0 _ HR0.out HC.out HT.out HV.out).mono ?_; rintro e w1 ⟨fb, lb, nb, rfl, hb, hp⟩; have HB := Aside0.mk hb; have HP := Aside0.mk hp; clear hb hp) | (go_at_call 37; refine (find_calls HV.out HP.out _).mono ?_; (first | rw [hp1.out] | rw [hp2.out]); rintro e w2 ⟨rfl, rfl⟩; dsimp only [ptr, Option.map]))
        go_ret
        exact ⟨rfl, HB.out⟩
    | some i =>
      have hil : i < l0.length := (Tree.firstB_some.1 hpl).1
      cases hpu : placeOf l0 l0.length under with
      | none =>
        have e1 : treeUnder l0 id under = false := by rw [e0, hpl, hpu]
        rw [e1]
        have hp1 := Aside0.mk hpl
        have hp2 := Aside0.mk hpu
        clear e0 e1 hpl hpu
        go_enter Tryd.func28, Tryd.ntmps28
        go_wp2_with (first | (go_at_call 36; refine (plant_yes A0 c0 l0 _ HR0.out HC.out HT.out HV.out).mono ?_; rintro e w1 ⟨fb, lb, nb, rfl, hb, hp⟩; have HB := Aside0.mk hb; have HP := Aside0.mk hp; clear hb hp) | (go_at_call 37; refine (find_calls HV.out HP.out _).mono ?_; (first | rw [hp1.out] | rw [hp2.out]); rintro e w2 ⟨rfl, rfl⟩; dsimp only [ptr, Option.map]))
        go_ret
        exact ⟨rfl, HB.out⟩
      | some u =>
        have hul : u < l0.length := (Tree.firstB_some.1 hpu).1
        have e1 : treeUnder l0 id under = Tree.metB (depthAt l0) u (i + 2) (some i) := by rw [e0, hpl, hpu]
        rw [e1]
        have hp1 := Aside0.mk hpl
        have hp2 := Aside0.mk hpu
        generalize hm : Tree.metB (depthAt l0) u (i + 2) (some i) = r
        replace hm := Aside0.mk hm
        clear e0 e1 hpl hpu
        go_enter Tryd.func28, Tryd.ntmps28
        go_wp2_with (first | (go_at_call 36; refine (plant_yes A0 c0 l0 _ HR0.out HC.out HT.out HV.out).mono ?_; rintro e w1 ⟨fb, lb, nb, rfl, hb, hp⟩; have HB := Aside0.mk hb; have HP := Aside0.mk hp; clear hb hp) | (go_at_call 37; refine (find_calls HV.out HP.out _).mono ?_; (first | rw [hp1.out] | rw [hp2.out]); rintro e w2 ⟨rfl, rfl⟩; dsimp only [ptr, Option.map]) | (go_at_call 55; refine (within_r HP.out i u hil hul r hm.out).mono ?_; rintro e w2 ⟨rfl, rfl⟩))
        go_ret
        exact ⟨by cases r <;> rfl, HB.out⟩
  · have hv2 : tok l0 [] 0 (-1) = false := by simpa using hv
    have e0 : treeUnder l0 id under = false := by unfold treeUnder; rw [if_neg hv]
    rw [e0]
    have HV := Aside0.mk hv2
    clear hv hv2 e0
    go_enter Tryd.func28, Tryd.ntmps28
    go_wp2_with (go_at_call 36; refine (plant_no A0 c0 l0 _ HR0.out HC.out HT.out HV.out).mono ?_; rintro e w1 ⟨rfl, hb⟩; have HB := Aside0.mk hb; clear hb)
    go_ret
    exact ⟨rfl, HB.out⟩
end Go.Proofs.YtdapbpgooehibaaDoor
