/- Questions to the planted tree by walks: which node a number has, over which row one stands. Where the table lies as the program's text lays it. -/
import Derived.Test.YtaajcbbbmpdcnaaDoorTreePlant
namespace Go.Proofs.YtaajcbbbmpdcnaaDoor
open Go.RowKit Go.Proofs.YtaajcbbbmpdcnaaDoorW.PrintWords Go.Proofs.YtaajcbbbmpdcnaaDoorW.PrintLast Go.Proofs.YtaajcbbbmpdcnaaDoorW.PrintMore Go.Proofs.YtaajcbbbmpdcnaaDoor.P
set_option linter.unusedVariables false
set_option linter.unusedSimpArgs false
theorem find_low (fb : Nat) (id : Int) (w : World) (h : id < 0) : Calls Tryd.prog 69 #[.pointer (some ⟨fb, 0, none⟩), .int .i64 id] w fun e w' => e = .returned (.pointer none) ∧ w' = w := by
 have h1 : decide (id < 0) = true := decide_eq_true h
 go_enter Tryd.func69, Tryd.ntmps69
 go_wp2
 go_ret
 exact ⟨rfl, rfl⟩
theorem find_high (fb : Nat) (id : Int) (w : World) (h : 37 ≤ id) : Calls Tryd.prog 69 #[.pointer (some ⟨fb, 0, none⟩), .int .i64 id] w fun e w' => e = .returned (.pointer none) ∧ w' = w := by
 have h1 : decide (id < 0) = false := decide_eq_false (by omega)
 have h2 : decide (37 ≤ id) = true := decide_eq_true h
 go_enter Tryd.func69, Tryd.ntmps69
 go_wp2
 go_ret
 exact ⟨rfl, rfl⟩
theorem find_mid (fb n : Nat) (v : Option Addr) (w : World) (h : n < 37) (hc : w.cell? ⟨fb, n, none⟩ = some (.pointer v)) : Calls Tryd.prog 69 #[.pointer (some ⟨fb, 0, none⟩), .int .i64 (n : Int)] w fun e w' => e = .returned (.pointer v) ∧ w' = w := by
 have h1 : decide ((n : Int) < 0) = false := decide_eq_false (by omega)
 have h2 : decide (37 ≤ (n : Int)) = false := decide_eq_false (by omega)
 have q1 : (0 : Int) ≤ (n : Int) := by omega
 have q2 : (n : Int) < 37 := by omega
 go_enter Tryd.func69, Tryd.ntmps69
 go_wp2
 go_ret
 exact ⟨rfl, rfl⟩
theorem placeOf_out {l : List S47} (hv : tok l [] 0 (-1) = true) {id : Int} (h : id < 0 ∨ 37 ≤ id) : placeOf l l.length id = none := by
 unfold placeOf
 rw [Tree.firstB_none]
 intro k hk
 have := (rowB_bounds (valid_row hv hk)).1
 simp; omega
theorem find_calls {l : List S47} (hv : tok l [] 0 (-1) = true) {w : World} {fb lb : Nat} {nb : Nat → Nat} (hp : Planted w fb lb nb l l.length) (id : Int) : Calls Tryd.prog 69 #[.pointer (some ⟨fb, 0, none⟩), .int .i64 id] w fun e w' => e = .returned (.pointer (ptr nb (placeOf l l.length id))) ∧ w' = w := by
 by_cases h1 : id < 0
 ·rw [placeOf_out hv (.inl h1)]; exact find_low fb id w h1
 ·by_cases h2 : 37 ≤ id
  ·rw [placeOf_out hv (.inr h2)]; exact find_high fb id w h2
  ·obtain ⟨n, rfl⟩ := Int.eq_ofNat_of_zero_le (Int.not_lt.1 h1)
   exact find_mid fb n _ w (by omega) ((blk_cell hp.forest n).trans (cellsOf_at (by omega)))
def treeUp (l : List S47) (id : Int) : Int × Bool :=
 if tok l [] 0 (-1) = true then (match placeOf l l.length id with
  | none => (0, false)
  | some i => (match Tree.par (depthAt l) i with
   | none => (0, true)
   | some u => (idAt l u, true))) else (0, false)
end Go.Proofs.YtaajcbbbmpdcnaaDoor
