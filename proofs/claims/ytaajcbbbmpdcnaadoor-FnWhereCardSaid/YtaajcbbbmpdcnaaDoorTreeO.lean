/- Under which row and behind which one a change puts a row, by the program's walks. Where the table lies as the program's text lays it. -/
import Derived.Test.YtaajcbbbmpdcnaaDoorTreeN
import Derived.Test.YtaajcbbbmpdcnaaDoorTreeW
namespace Go.Proofs.YtaajcbbbmpdcnaaDoor
open Go.RowKit Go.Shelf Go.Proofs.YtaajcbbbmpdcnaaDoorW.PrintWords Go.Proofs.YtaajcbbbmpdcnaaDoorW.PrintLast Go.Proofs.YtaajcbbbmpdcnaaDoorW.PrintMore Go.Proofs.YtaajcbbbmpdcnaaDoor.P
set_option linter.unusedVariables false
set_option linter.unusedSimpArgs false
theorem within_nil (g : Nat) (w : World) : Calls Tryd.prog 70 #[.pointer none, .pointer (some ⟨g, 0, none⟩)] w fun e w' => e = .returned (.bool false) ∧ w' = w := by
 go_enter Tryd.func70, Tryd.ntmps70
 go_wp2
 go_loopg [0] 1 (fun kq v0 w' => v0 = .pointer none ∧ w' = w ∧ Aside0 (1 ≤ kq))
 case atStart => exact ⟨rfl, rfl, ⟨Nat.le_refl _⟩⟩
 case round =>
  obtain ⟨rfl, rfl, HK⟩ := hrel
  go_wp2
  go_ret
  exact ⟨rfl, rfl⟩
def nearAt (l : List S47) (f3 : Nat) (id up at_ : Int) : Nat × Option Nat :=
 match placeOf l l.length up with
 | none => (f3, none)
 | some u => (match placeOf l l.length at_ with
  | none => (u, none)
  | some a => if Tree.par (depthAt l) a = some u ∧ idAt l a ≠ id then (u, some a) else (u, none))
theorem neq_nil (W : World) (a : Addr) : (binOp .neq 74 (.pointer none) (.pointer (some a))).run Tryd.prog W = .ok (.bool true) W := by
 obtain ⟨j, hj, hjs⟩ := Option.map_eq_some_iff.1 nodeSize
 have h : ∀ d : Nat, (Op.equalIn (d + 1) 74 (.pointer none) (.pointer (some a))).run Tryd.prog W = .ok false W := fun d => by
  simp [Op.equalIn, run_underlying Tryd.underlying74, sizeOf, typeInfo, hj]
 simp only [binOp]
 simp [Op.equal, Op.maxDepth, h 9999]
set_option maxHeartbeats 2000000 in
set_option maxRecDepth 100000 in
theorem near_none {l : List S47} {w : World} {fb lb : Nat} {nb : Nat → Nat} (hv : tok l [] 0 (-1) = true) (hx : Planted w fb lb nb l l.length) (id up at_ : Int) (f3 : Nat) (h3 : placeOf l l.length 3 = some f3) (hu : placeOf l l.length up = none) :
  Calls Tryd.prog 106 #[.pointer (some ⟨fb, 0, none⟩), .int .i64 id, .int .i64 up, .int .i64 at_] w fun e w' => e = .returned (.tuple #[.pointer (some ⟨nb f3, 0, none⟩), .pointer none]) ∧ w' = w := by
 have HU := Aside0.mk hu
 clear hu
 have HV := Aside0.mk hv
 have HX := Aside0.mk hx
 have H3 := Aside0.mk h3
 clear hv hx h3
 go_enter Tryd.func106, Tryd.ntmps106
 go_wp2_with (go_at_call 69; refine (find_calls HV.out HX.out _).mono ?_; (first | rw [HU.out] | rw [H3.out]); rintro e w3 ⟨rfl, rfl⟩; dsimp only [ptr, Option.map])
 go_ret2
 exact ⟨rfl, rfl⟩
set_option maxHeartbeats 2000000 in
set_option maxRecDepth 100000 in
theorem near_first {l : List S47} {w : World} {fb lb : Nat} {nb : Nat → Nat} (hv : tok l [] 0 (-1) = true) (hx : Planted w fb lb nb l l.length) (id up at_ : Int) (f3 : Nat) (h3 : placeOf l l.length 3 = some f3) (u : Nat) (hu : placeOf l l.length up = some u) (ha : placeOf l l.length at_ = none) :
  Calls Tryd.prog 106 #[.pointer (some ⟨fb, 0, none⟩), .int .i64 id, .int .i64 up, .int .i64 at_] w fun e w' => e = .returned (.tuple #[.pointer (some ⟨nb u, 0, none⟩), .pointer none]) ∧ w' = w := by
 have HU := Aside0.mk hu
 have HA := Aside0.mk ha
 clear hu ha
 have HV := Aside0.mk hv
 have HX := Aside0.mk hx
 have H3 := Aside0.mk h3
 clear hv hx h3
 go_enter Tryd.func106, Tryd.ntmps106
 go_wp2_with (go_at_call 69; refine (find_calls HV.out HX.out _).mono ?_; (first | rw [HU.out] | rw [HA.out]); rintro e w3 ⟨rfl, rfl⟩; dsimp only [ptr, Option.map])
 go_ret2
 exact ⟨rfl, rfl⟩
set_option maxHeartbeats 2000000 in
set_option maxRecDepth 100000 in
theorem near_root {l : List S47} {w : World} {fb lb : Nat} {nb : Nat → Nat} (hv : tok l [] 0 (-1) = true) (hx : Planted w fb lb nb l l.length) (id up at_ : Int) (f3 : Nat) (h3 : placeOf l l.length 3 = some f3) (u a : Nat) (hu : placeOf l l.length up = some u) (ha : placeOf l l.length at_ = some a) (hp : Tree.par (depthAt l) a = none) :
  Calls Tryd.prog 106 #[.pointer (some ⟨fb, 0, none⟩), .int .i64 id, .int .i64 up, .int .i64 at_] w fun e w' => e = .returned (.tuple #[.pointer (some ⟨nb u, 0, none⟩), .pointer none]) ∧ w' = w := by
 have hul : u < l.length := (Tree.firstB_some.1 hu).1
 have hal : a < l.length := (Tree.firstB_some.1 ha).1
 have HU := Aside0.mk hu
 have HA := Aside0.mk ha
 have hc : w.cell? ⟨nb a, 2, none⟩ = some (.pointer none) := (blk_cell (hx.node a hal) 2).trans (by rw [hp]; rfl)
 have hq := neq_nil w ⟨nb u, 0, none⟩
 clear hu ha hp
 have HV := Aside0.mk hv
 have HX := Aside0.mk hx
 have H3 := Aside0.mk h3
 clear hv hx h3
 go_enter Tryd.func106, Tryd.ntmps106
 go_wp2_with (go_at_call 69; refine (find_calls HV.out HX.out _).mono ?_; (first | rw [HU.out] | rw [HA.out]); rintro e w3 ⟨rfl, rfl⟩; dsimp only [ptr, Option.map])
 go_ret2
 exact ⟨rfl, rfl⟩
set_option maxHeartbeats 2000000 in
set_option maxRecDepth 100000 in
theorem near_else {l : List S47} {w : World} {fb lb : Nat} {nb : Nat → Nat} (hv : tok l [] 0 (-1) = true) (hx : Planted w fb lb nb l l.length) (id up at_ : Int) (f3 : Nat) (h3 : placeOf l l.length 3 = some f3) (u a p : Nat) (hu : placeOf l l.length up = some u) (ha : placeOf l l.length at_ = some a) (hp : Tree.par (depthAt l) a = some p) (hne : p ≠ u) :
  Calls Tryd.prog 106 #[.pointer (some ⟨fb, 0, none⟩), .int .i64 id, .int .i64 up, .int .i64 at_] w fun e w' => e = .returned (.tuple #[.pointer (some ⟨nb u, 0, none⟩), .pointer none]) ∧ w' = w := by
 have hul : u < l.length := (Tree.firstB_some.1 hu).1
 have hal : a < l.length := (Tree.firstB_some.1 ha).1
 have HU := Aside0.mk hu
 have HA := Aside0.mk ha
 have hpl : p < l.length := by have := Tree.par_lt hp; omega
 have hc : w.cell? ⟨nb a, 2, none⟩ = some (.pointer (some ⟨nb p, 0, none⟩)) := (blk_cell (hx.node a hal) 2).trans (by rw [hp]; rfl)
 have hq := neq_ptr_other w (show (⟨nb p, 0, none⟩ : Addr) ≠ ⟨nb u, 0, none⟩ from fun h => hne (hx.inj p u hpl hul (congrArg Addr.block h))) (hx.node p hpl) (hx.node u hul)
 have HN := Aside0.mk hne
 clear hu ha hp hne
 have HV := Aside0.mk hv
 have HX := Aside0.mk hx
 have H3 := Aside0.mk h3
 clear hv hx h3
 go_enter Tryd.func106, Tryd.ntmps106
 go_wp2_with (go_at_call 69; refine (find_calls HV.out HX.out _).mono ?_; (first | rw [HU.out] | rw [HA.out]); rintro e w3 ⟨rfl, rfl⟩; dsimp only [ptr, Option.map])
 go_ret2
 exact ⟨rfl, rfl⟩
set_option maxHeartbeats 2000000 in
set_option maxRecDepth 100000 in
theorem near_self {l : List S47} {w : World} {fb lb : Nat} {nb : Nat → Nat} (hv : tok l [] 0 (-1) = true) (hx : Planted w fb lb nb l l.length) (id up at_ : Int) (f3 : Nat) (h3 : placeOf l l.length 3 = some f3) (u a : Nat) (hu : placeOf l l.length up = some u) (ha : placeOf l l.length at_ = some a) (hp : Tree.par (depthAt l) a = some u) (he : idAt l a = id) :
  Calls Tryd.prog 106 #[.pointer (some ⟨fb, 0, none⟩), .int .i64 id, .int .i64 up, .int .i64 at_] w fun e w' => e = .returned (.tuple #[.pointer (some ⟨nb u, 0, none⟩), .pointer none]) ∧ w' = w := by
 have hul : u < l.length := (Tree.firstB_some.1 hu).1
 have hal : a < l.length := (Tree.firstB_some.1 ha).1
 have HU := Aside0.mk hu
 have HA := Aside0.mk ha
 have hc : w.cell? ⟨nb a, 2, none⟩ = some (.pointer (some ⟨nb u, 0, none⟩)) := (blk_cell (hx.node a hal) 2).trans (by rw [hp]; rfl)
 have hc0 : w.cell? ⟨nb a, 0, none⟩ = some (.int .i64 id) := (blk_cell (hx.node a hal) 0).trans (by rw [he]; rfl)
 have hq := neq_ptr_same w ⟨nb u, 0, none⟩
 clear hu ha hp he
 have HV := Aside0.mk hv
 have HX := Aside0.mk hx
 have H3 := Aside0.mk h3
 clear hv hx h3
 go_enter Tryd.func106, Tryd.ntmps106
 go_wp2_with (go_at_call 69; refine (find_calls HV.out HX.out _).mono ?_; (first | rw [HU.out] | rw [HA.out]); rintro e w3 ⟨rfl, rfl⟩; dsimp only [ptr, Option.map])
 go_ret2
 exact ⟨rfl, rfl⟩
set_option maxHeartbeats 2000000 in
set_option maxRecDepth 100000 in
theorem near_there {l : List S47} {w : World} {fb lb : Nat} {nb : Nat → Nat} (hv : tok l [] 0 (-1) = true) (hx : Planted w fb lb nb l l.length) (id up at_ : Int) (f3 : Nat) (h3 : placeOf l l.length 3 = some f3) (u a : Nat) (hu : placeOf l l.length up = some u) (ha : placeOf l l.length at_ = some a) (hp : Tree.par (depthAt l) a = some u) (q : Int) (hqi : idAt l a = q) (he : (q == id) = false) :
  Calls Tryd.prog 106 #[.pointer (some ⟨fb, 0, none⟩), .int .i64 id, .int .i64 up, .int .i64 at_] w fun e w' => e = .returned (.tuple #[.pointer (some ⟨nb u, 0, none⟩), .pointer (some ⟨nb a, 0, none⟩)]) ∧ w' = w := by
 have hul : u < l.length := (Tree.firstB_some.1 hu).1
 have hal : a < l.length := (Tree.firstB_some.1 ha).1
 have HU := Aside0.mk hu
 have HA := Aside0.mk ha
 have hc : w.cell? ⟨nb a, 2, none⟩ = some (.pointer (some ⟨nb u, 0, none⟩)) := (blk_cell (hx.node a hal) 2).trans (by rw [hp]; rfl)
 have hc0 : w.cell? ⟨nb a, 0, none⟩ = some (.int .i64 q) := (blk_cell (hx.node a hal) 0).trans (by rw [hqi]; rfl)
 have hq := neq_ptr_same w ⟨nb u, 0, none⟩
 clear hu ha hp hqi
 have HV := Aside0.mk hv
 have HX := Aside0.mk hx
 have H3 := Aside0.mk h3
 clear hv hx h3
 go_enter Tryd.func106, Tryd.ntmps106
 go_wp2_with (go_at_call 69; refine (find_calls HV.out HX.out _).mono ?_; (first | rw [HU.out] | rw [HA.out]); rintro e w3 ⟨rfl, rfl⟩; dsimp only [ptr, Option.map])
 go_ret2
 exact ⟨rfl, rfl⟩
theorem near_calls {l : List S47} {w : World} {fb lb : Nat} {nb : Nat → Nat} (hv : tok l [] 0 (-1) = true) (hx : Planted w fb lb nb l l.length) (id up at_ : Int) (f3 : Nat) (h3 : placeOf l l.length 3 = some f3) :
  Calls Tryd.prog 106 #[.pointer (some ⟨fb, 0, none⟩), .int .i64 id, .int .i64 up, .int .i64 at_] w fun e w' => e = .returned (.tuple #[.pointer (some ⟨nb (nearAt l f3 id up at_).1, 0, none⟩), .pointer (ptr nb (nearAt l f3 id up at_).2)]) ∧ w' = w := by
 unfold nearAt
 cases hu : placeOf l l.length up with
 | none => exact near_none hv hx id up at_ f3 h3 hu
 | some u =>
  dsimp only
  cases ha : placeOf l l.length at_ with
  | none => exact near_first hv hx id up at_ f3 h3 u hu ha
  | some a =>
   dsimp only
   cases hp : Tree.par (depthAt l) a with
   | none => rw [if_neg (by rintro ⟨h, _⟩; cases h)]; exact near_root hv hx id up at_ f3 h3 u a hu ha hp
   | some p =>
    by_cases hne : p = u
    ·subst hne
     by_cases he : idAt l a = id
     ·rw [if_neg (by rintro ⟨_, h⟩; exact h he)]; exact near_self hv hx id up at_ f3 h3 p a hu ha hp he
     ·rw [if_pos ⟨rfl, he⟩]; exact near_there hv hx id up at_ f3 h3 p a hu ha hp _ rfl (beq_eq_false_iff_ne.2 he)
    ·rw [if_neg (by rintro ⟨h, _⟩; exact hne (Option.some.inj h))]; exact near_else hv hx id up at_ f3 h3 u a p hu ha hp hne
end Go.Proofs.YtaajcbbbmpdcnaaDoor
