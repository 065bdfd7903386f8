/- Questions to the planted tree by walks: which node a number has, over which row one stands. Where the table lies as the program's text lays it. -/
import Derived.Test.YtdapbpgooehibaaDoorTreePlant
namespace Go.Proofs.YtdapbpgooehibaaDoor
open Go.RowKit Go.Proofs.YtdapbpgooehibaaDoorW.PrintWords Go.Proofs.YtdapbpgooehibaaDoorW.PrintLast Go.Proofs.YtdapbpgooehibaaDoorW.PrintMore Go.Proofs.YtdapbpgooehibaaDoor.P
set_option linter.unusedVariables false
set_option linter.unusedSimpArgs false

theorem find_low (fb : Nat) (id : Int) (w : World) (h : id < 0) : Calls Tryd.prog 37 #[.pointer (some ⟨fb, 0, none⟩), .int .i64 id] w fun e w' => e = .returned (.pointer none) ∧ w' = w := by
  have h1 : decide (id < 0) = true := decide_eq_true h
  go_enter Tryd.func37, Tryd.ntmps37
  go_wp2
  go_ret
  exact ⟨rfl, rfl⟩
theorem find_high (fb : Nat) (id : Int) (w : World) (h : 37 ≤ id) : Calls Tryd.prog 37 #[.pointer (some ⟨fb, 0, none⟩), .int .i64 id] w fun e w' => e = .returned (.pointer none) ∧ w' = w := by
  have h1 : decide (id < 0) = false := decide_eq_false (by omega)
  have h2 : decide (37 ≤ id) = true := decide_eq_true h
  go_enter Tryd.func37, Tryd.ntmps37
  go_wp2
  go_ret
  exact ⟨rfl, rfl⟩
theorem find_mid (fb n : Nat) (v : Option Addr) (w : World) (h : n < 37) (hc : w.cell? ⟨fb, n, none⟩ = some (.pointer v)) : Calls Tryd.prog 37 #[.pointer (some ⟨fb, 0, none⟩), .int .i64 (n : Int)] w fun e w' => e = .returned (.pointer v) ∧ w' = w := by
  have h1 : decide ((n : Int) < 0) = false := decide_eq_false (by omega)
  have h2 : decide (37 ≤ (n : Int)) = false := decide_eq_false (by omega)
  have q1 : (0 : Int) ≤ (n : Int) := by omega
  have q2 : (n : Int) < 37 := by omega
  go_enter Tryd.func37, Tryd.ntmps37
  go_wp2
  go_ret
  exact ⟨rfl, rfl⟩
theorem placeOf_out {l : List S29} (hv : tok l [] 0 (-1) = true) {id : Int} (h : id < 0 ∨ 37 ≤ id) : placeOf l l.length id = none := by
  unfold placeOf
  rw [Tree.firstB_none]
  intro k hk
  have := (rowB_bounds (valid_row hv hk)).1
  simp; omega
/-- The node of a number. -/
theorem find_calls {l : List S29} (hv : tok l [] 0 (-1) = true) {w : World} {fb lb : Nat} {nb : Nat → Nat} (hp : Planted w fb lb nb l l.length) (id : Int) : Calls Tryd.prog 37 #[.pointer (some ⟨fb, 0, none⟩), .int .i64 id] w fun e w' => e = .returned (.pointer (ptr nb (placeOf l l.length id))) ∧ w' = w := by
  by_cases h1 : id < 0
  · rw [placeOf_out hv (.inl h1)]; exact find_low fb id w h1
  · by_cases h2 : 37 ≤ id
    · rw [placeOf_out hv (.inr h2)]; exact find_high fb id w h2
    · obtain ⟨n, rfl⟩ := Int.eq_ofNat_of_zero_le (Int.not_lt.1 h1)
      exact find_mid fb n _ w (by omega) ((blk_cell hp.forest n).trans (cellsOf_at (by omega)))

/-- Over which row one stands, and whether it is there. -/
def treeUp (l : List S29) (id : Int) : Int × Bool :=
  if tok l [] 0 (-1) = true then (match placeOf l l.length id with
    | none => (0, false)
    | some i => (match Tree.par (depthAt l) i with
      | none => (0, true)
      | some u => (idAt l u, true))) else (0, false)
set_option maxHeartbeats 1000000 in
theorem treeUp_calls (A0 : Option Addr) (c0 : Nat) (l0 : List S29) (id : Int) (w : World) (hr0 : Kd.C k29 w A0 l0.length l0) (hc0 : l0.length ≤ c0) (ht : TabOk w) :
    Calls Tryd.prog 12 #[.slice A0 l0.length c0, .int .i64 id] w fun e w' => e = .returned (.tuple #[.int .i64 (treeUp l0 id).1, .bool (treeUp l0 id).2]) ∧ Below w.heap.size w w' := by
  have HR0 := Aside0.mk hr0
  have HT := Aside0.mk ht
  have HC := Aside0.mk hc0
  clear hr0 ht hc0
  by_cases hv : tok l0 [] 0 (-1) = true
  · have HV := Aside0.mk hv
    have e0 : treeUp l0 id = (match placeOf l0 l0.length id with
      | none => (0, false)
      | some i => (match Tree.par (depthAt l0) i with
        | none => (0, true)
        | some u => (idAt l0 u, true))) := by unfold treeUp; rw [if_pos hv]
    clear hv
    cases hpl : placeOf l0 l0.length id with
    | none =>
      rw [hpl] at e0
      rw [e0]
      replace hpl := Aside0.mk hpl
      clear e0
      go_enter Tryd.func12, Tryd.ntmps12
      go_wp2_with (first | (go_at_call 36; refine (plant_yes A0 c0 l0 _ HR0.out HC.out HT.out HV.out).mono ?_; rintro e w1 ⟨fb, lb, nb, rfl, hb, hp⟩; have HB := Aside0.mk hb; have HP := Aside0.mk hp; clear hb hp) | (go_at_call 37; refine (find_calls HV.out HP.out id).mono ?_; rw [hpl.out]; rintro e w2 ⟨rfl, rfl⟩; dsimp only [ptr, Option.map]))
      go_ret2
      exact ⟨rfl, HB.out⟩
    | some i =>
      have hil : i < l0.length := (Tree.firstB_some.1 hpl).1
      rw [hpl] at e0
      replace hpl := Aside0.mk hpl
      cases hpa : Tree.par (depthAt l0) i with
      | none =>
        simp only [hpa] at e0
        rw [e0]
        replace hpa := Aside0.mk hpa
        clear e0
        go_enter Tryd.func12, Tryd.ntmps12
        go_wp2_with (first | (go_at_call 36; refine (plant_yes A0 c0 l0 _ HR0.out HC.out HT.out HV.out).mono ?_; rintro e w1 ⟨fb, lb, nb, rfl, hb, hp⟩; have HB := Aside0.mk hb; have HP := Aside0.mk hp; clear hb hp) | (go_at_call 37; refine (find_calls HV.out HP.out id).mono ?_; rw [hpl.out]; rintro e w2 ⟨rfl, rfl⟩; dsimp only [ptr, Option.map]; have hc := (blk_cell (HP.out.node i hil) 2).trans (show _ = some (Value.pointer none) by rw [hpa.out]; rfl)) | (go_at_call 38; refine (idOf_nil _).mono ?_; rintro e w2 ⟨rfl, rfl⟩))
        go_ret2
        exact ⟨rfl, HB.out⟩
      | some u =>
        have hul := Tree.par_lt hpa
        simp only [hpa] at e0
        rw [e0]
        replace hpa := Aside0.mk hpa
        clear e0
        go_enter Tryd.func12, Tryd.ntmps12
        go_wp2_with (first | (go_at_call 36; refine (plant_yes A0 c0 l0 _ HR0.out HC.out HT.out HV.out).mono ?_; rintro e w1 ⟨fb, lb, nb, rfl, hb, hp⟩; have HB := Aside0.mk hb; have HP := Aside0.mk hp; clear hb hp) | (go_at_call 37; refine (find_calls HV.out HP.out id).mono ?_; rw [hpl.out]; rintro e w2 ⟨rfl, rfl⟩; dsimp only [ptr, Option.map]; have hc := (blk_cell (HP.out.node i hil) 2).trans (show _ = some (Value.pointer (some ⟨nb u, 0, none⟩)) by rw [hpa.out]; rfl)) | (go_at_call 38; refine (idOf_node (nb u) _ _ _ _ _ _ (HP.out.node u (by omega))).mono ?_; rintro e w2 ⟨rfl, rfl⟩))
        go_ret2
        exact ⟨rfl, HB.out⟩
  · have hv2 : tok l0 [] 0 (-1) = false := by simpa using hv
    have e0 : treeUp l0 id = (0, false) := by unfold treeUp; rw [if_neg hv]
    rw [e0]
    have HV := Aside0.mk hv2
    clear hv hv2 e0
    go_enter Tryd.func12, Tryd.ntmps12
    go_wp2_with (go_at_call 36; refine (plant_no A0 c0 l0 _ HR0.out HC.out HT.out HV.out).mono ?_; rintro e w1 ⟨rfl, hb⟩; have HB := Aside0.mk hb; clear hb)
    go_ret2
    exact ⟨rfl, HB.out⟩
end Go.Proofs.YtdapbpgooehibaaDoor
