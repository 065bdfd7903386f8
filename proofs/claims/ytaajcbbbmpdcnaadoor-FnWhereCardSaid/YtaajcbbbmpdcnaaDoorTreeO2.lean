/- Under which row and behind which one a change puts its row: the program's walk over the three kinds of change. Where the table lies as the program's text lays it. -/
import Derived.Test.YtaajcbbbmpdcnaaDoorTreeO
import Derived.Test.YtaajcbbbmpdcnaaDoorOpC
namespace Go.Proofs.YtaajcbbbmpdcnaaDoor
open Go.RowKit Go.Shelf Go.Proofs.YtaajcbbbmpdcnaaDoorW.PrintWords Go.Proofs.YtaajcbbbmpdcnaaDoorW.PrintLast Go.Proofs.YtaajcbbbmpdcnaaDoorW.PrintMore Go.Proofs.YtaajcbbbmpdcnaaDoor.P
set_option linter.unusedVariables false
set_option linter.unusedSimpArgs false
def isStruct (u : Option TypeDesc) : Bool := match u with
 | some (.struct ..) => true
 | _ => false
theorem assert_same {T : TypeId} (h : isStruct (Tryd.prog.underlying T) = true) (v : Value) (xT : TypeId) (w : World) : (Instr.typeAssert (.iface T v) xT T true).run Tryd.prog w = .ok (.tuple #[v, .bool true]) w := by
 cases hu : Tryd.prog.underlying T with
 | none => rw [hu] at h; cases h
 | some u =>
  cases u <;> first | (rw [hu] at h; cases h; done) | simp [Instr.typeAssert, run_underlying hu]
theorem assert_other {T U : TypeId} {z : Value} (h : isStruct (Tryd.prog.underlying T) = true) (hz : (Tryd.prog.info? T).map (·.zero) = some (some z)) (hne : U ≠ T) (v : Value) (xT : TypeId) (w : World) : (Instr.typeAssert (.iface U v) xT T true).run Tryd.prog w = .ok (.tuple #[z, .bool false]) w := by
 obtain ⟨j, hj, hz'⟩ := Option.map_eq_some_iff.1 hz
 cases hu : Tryd.prog.underlying T with
 | none => rw [hu] at h; cases h
 | some u =>
  cases u <;> first | (rw [hu] at h; cases h; done) | simp [Instr.typeAssert, run_underlying hu, hne, zeroValue, typeInfo, hj, hz']
theorem make_rec : isStruct (Tryd.prog.underlying 118) = true := by kernel_rfl
theorem move_rec : isStruct (Tryd.prog.underlying 123) = true := by kernel_rfl
theorem make_zero : (Tryd.prog.info? 118).map (·.zero) = some (some (.agg #[.int .i64 0, .int .i64 0, .int .i64 0, .string ⟨#[]⟩])) := by kernel_rfl
theorem move_zero : (Tryd.prog.info? 123).map (·.zero) = some (some (.agg #[.int .i64 0, .int .i64 0, .int .i64 0])) := by kernel_rfl
def whereAt (l : List S47) (f3 : Nat) (kind id up at_ : Int) : Option (Nat × Option Nat) :=
 if kind = 1 then (match placeOf l l.length id with
  | some _ => none
  | none => some (nearAt l f3 id up at_))
 else if kind = 3 then (match placeOf l l.length id with
  | none => none
  | some i => if (match placeOf l l.length up with
    | none => false
    | some u => Tree.metB (depthAt l) i (u + 2) (some u)) = true then none else some (nearAt l f3 id up at_))
 else none
def whereV (nb : Nat → Nat) : Option (Nat × Option Nat) → Value
 | none => .tuple #[.pointer none, .pointer none, .bool false]
 | some (u, a) => .tuple #[.pointer (some ⟨nb u, 0, none⟩), .pointer (ptr nb a), .bool true]
set_option maxHeartbeats 2000000 in
set_option maxRecDepth 100000 in
theorem where_text (id : Int) (text : ByteArray) (f : Option Addr) (w : World) : Calls Tryd.prog 89 #[.pointer f, .iface 121 (.agg #[.int .i64 id, .string text])] w fun e w' => e = .returned (.tuple #[.pointer none, .pointer none, .bool false]) ∧ w' = w := by
 have h1 := assert_other (U := 121) make_rec make_zero (by decide) (.agg #[.int .i64 id, .string text])
 have h2 := assert_other (U := 121) move_rec move_zero (by decide) (.agg #[.int .i64 id, .string text])
 go_enter Tryd.func89, Tryd.ntmps89
 go_wp2
 go_ret3
 exact ⟨rfl, rfl⟩
set_option maxHeartbeats 4000000 in
set_option maxRecDepth 100000 in
theorem where_make {l : List S47} {w : World} {fb lb : Nat} {nb : Nat → Nat} (hv : tok l [] 0 (-1) = true) (hx : Planted w fb lb nb l l.length) (id up at_ : Int) (text : ByteArray) (f3 : Nat) (h3 : placeOf l l.length 3 = some f3) :
  Calls Tryd.prog 89 #[.pointer (some ⟨fb, 0, none⟩), .iface 118 (.agg #[.int .i64 id, .int .i64 up, .int .i64 at_, .string text])] w fun e w' => e = .returned (whereV nb (whereAt l f3 1 id up at_)) ∧ Below w.heap.size w w' := by
 have h1 := assert_same make_rec (.agg #[.int .i64 id, .int .i64 up, .int .i64 at_, .string text])
 unfold whereAt
 rw [if_pos rfl]
 have HV := Aside0.mk hv
 have HX := Aside0.mk (hx.under (below_alloc (Below.refl _ _) (.cells #[.int .i64 id, .int .i64 up, .int .i64 at_, .string text] 118)))
 have H3 := Aside0.mk h3
 clear hv hx h3
 cases hp : placeOf l l.length id with
 | some i =>
  have HP := Aside0.mk hp
  clear hp
  dsimp only [whereV]
  go_enter Tryd.func89, Tryd.ntmps89
  go_wp2_with (go_at_call 69; refine (find_calls HV.out HX.out _).mono ?_; rw [HP.out]; rintro e w3 ⟨rfl, rfl⟩; dsimp only [ptr, Option.map])
  go_ret3
  exact ⟨rfl, below_alloc (Below.refl _ _) _⟩
 | none =>
  have HP := Aside0.mk hp
  clear hp
  dsimp only [whereV]
  go_enter Tryd.func89, Tryd.ntmps89
  go_wp2_with (first | (go_at_call 69; refine (find_calls HV.out HX.out _).mono ?_; rw [HP.out]; rintro e w3 ⟨rfl, rfl⟩; dsimp only [ptr, Option.map]) | (go_at_call 106; refine (near_calls HV.out HX.out id up at_ f3 H3.out).mono ?_; rintro e w4 ⟨rfl, rfl⟩))
  go_ret3
  exact ⟨rfl, below_alloc (Below.refl _ _) _⟩
set_option maxHeartbeats 4000000 in
set_option maxRecDepth 100000 in
theorem where_move {l : List S47} {w : World} {fb lb : Nat} {nb : Nat → Nat} (hv : tok l [] 0 (-1) = true) (hx : Planted w fb lb nb l l.length) (id up at_ : Int) (f3 : Nat) (h3 : placeOf l l.length 3 = some f3) :
  Calls Tryd.prog 89 #[.pointer (some ⟨fb, 0, none⟩), .iface 123 (.agg #[.int .i64 id, .int .i64 up, .int .i64 at_])] w fun e w' => e = .returned (whereV nb (whereAt l f3 3 id up at_)) ∧ Below w.heap.size w w' := by
 have h1 := assert_other (U := 123) make_rec make_zero (by decide) (.agg #[.int .i64 id, .int .i64 up, .int .i64 at_])
 have h2 := assert_same move_rec (.agg #[.int .i64 id, .int .i64 up, .int .i64 at_])
 unfold whereAt
 rw [if_neg (by decide), if_pos rfl]
 have HV := Aside0.mk hv
 have HX := Aside0.mk (hx.under (below_alloc (Below.refl _ _) (.cells #[.int .i64 id, .int .i64 up, .int .i64 at_] 123)))
 have H3 := Aside0.mk h3
 clear hv hx h3
 cases hp : placeOf l l.length id with
 | none =>
  have HP := Aside0.mk hp
  clear hp
  dsimp only [whereV]
  go_enter Tryd.func89, Tryd.ntmps89
  go_wp2_with (go_at_call 69; refine (find_calls HV.out HX.out _).mono ?_; rw [HP.out]; rintro e w3 ⟨rfl, rfl⟩; dsimp only [ptr, Option.map])
  go_ret3
  exact ⟨rfl, below_alloc (Below.refl _ _) _⟩
 | some i =>
  have hi : i < l.length := (Tree.firstB_some.1 hp).1
  have HI := Aside0.mk hi
  have HP := Aside0.mk hp
  clear hp hi
  dsimp only
  cases hu : placeOf l l.length up with
  | none =>
   have HU := Aside0.mk hu
   clear hu
   dsimp only
   rw [if_neg (by decide)]
   dsimp only [whereV]
   go_enter Tryd.func89, Tryd.ntmps89
   go_wp2_with (first | (go_at_call 69; refine (find_calls HV.out HX.out _).mono ?_; (first | rw [HP.out] | rw [HU.out]); rintro e w3 ⟨rfl, rfl⟩; dsimp only [ptr, Option.map]) | (go_at_call 70; refine (within_nil (nb i) _).mono ?_; rintro e w4 ⟨rfl, rfl⟩) | (go_at_call 106; refine (near_calls HV.out HX.out id up at_ f3 H3.out).mono ?_; rintro e w4 ⟨rfl, rfl⟩))
   go_ret3
   exact ⟨rfl, below_alloc (Below.refl _ _) _⟩
  | some u =>
   have hul : u < l.length := (Tree.firstB_some.1 hu).1
   have HL := Aside0.mk hul
   have HU := Aside0.mk hu
   clear hu hul
   dsimp only
   by_cases hr : Tree.metB (depthAt l) i (u + 2) (some u) = true
   ·rw [if_pos hr]
    have HR := Aside0.mk hr
    clear hr
    dsimp only [whereV]
    go_enter Tryd.func89, Tryd.ntmps89
    go_wp2_with (first | (go_at_call 69; refine (find_calls HV.out HX.out _).mono ?_; (first | rw [HP.out] | rw [HU.out]); rintro e w3 ⟨rfl, rfl⟩; dsimp only [ptr, Option.map]) | (go_at_call 70; refine (within_r HX.out u i HL.out HI.out true HR.out).mono ?_; rintro e w4 ⟨rfl, rfl⟩) | (go_at_call 106; refine (near_calls HV.out HX.out id up at_ f3 H3.out).mono ?_; rintro e w4 ⟨rfl, rfl⟩))
    go_ret3
    exact ⟨rfl, below_alloc (Below.refl _ _) _⟩
   ·rw [if_neg hr]
    have HR : Aside0 (Tree.metB (depthAt l) i (u + 2) (some u) = false) := ⟨by simpa using hr⟩
    clear hr
    dsimp only [whereV]
    go_enter Tryd.func89, Tryd.ntmps89
    go_wp2_with (first | (go_at_call 69; refine (find_calls HV.out HX.out _).mono ?_; (first | rw [HP.out] | rw [HU.out]); rintro e w3 ⟨rfl, rfl⟩; dsimp only [ptr, Option.map]) | (go_at_call 70; refine (within_r HX.out u i HL.out HI.out false HR.out).mono ?_; rintro e w4 ⟨rfl, rfl⟩) | (go_at_call 106; refine (near_calls HV.out HX.out id up at_ f3 H3.out).mono ?_; rintro e w4 ⟨rfl, rfl⟩))
    go_ret3
    exact ⟨rfl, below_alloc (Below.refl _ _) _⟩
theorem where_calls {l : List S47} {w : World} {fb lb : Nat} {nb : Nat → Nat} (hv : tok l [] 0 (-1) = true) (hx : Planted w fb lb nb l l.length) (kind id up at_ : Int) (text : ByteArray) (f3 : Nat) (h3 : placeOf l l.length 3 = some f3) (ho : opB kind id up at_ text = true) :
  Calls Tryd.prog 89 #[.pointer (some ⟨fb, 0, none⟩), chV kind id up at_ text] w fun e w' => e = .returned (whereV nb (whereAt l f3 kind id up at_)) ∧ Below w.heap.size w w' := by
 unfold opB at ho
 unfold chV
 by_cases hm : madeB id = true
 ·rw [if_pos hm] at ho ⊢
  by_cases k1 : kind = 1
  ·subst k1; rw [if_pos rfl]; exact where_make hv hx id up at_ text f3 h3
  ·rw [if_neg k1] at ho ⊢
   by_cases k2 : kind = 2
   ·subst k2; rw [if_pos rfl]
    refine (where_text id text _ w).mono ?_
    rintro e w1 ⟨rfl, rfl⟩
    exact ⟨rfl, Below.refl _ _⟩
   ·rw [if_neg k2] at ho ⊢
    by_cases k3 : kind = 3
    ·subst k3; rw [if_pos rfl]; exact where_move hv hx id up at_ f3 h3
    ·rw [if_neg k3] at ho; cases ho
 ·rw [if_neg hm] at ho; cases ho
end Go.Proofs.YtaajcbbbmpdcnaaDoor
