/- The program's OpWhere, by walks. Where the table lies as the program's text lays it. -/
import Derived.Test.YtaajcbbbmpdcnaaDoorTreeO2
namespace Go.Proofs.YtaajcbbbmpdcnaaDoor
open Go.RowKit Go.Shelf Go.Proofs.YtaajcbbbmpdcnaaDoorW.PrintWords Go.Proofs.YtaajcbbbmpdcnaaDoorW.PrintLast Go.Proofs.YtaajcbbbmpdcnaaDoorW.PrintMore Go.Proofs.YtaajcbbbmpdcnaaDoor.P
set_option linter.unusedVariables false
set_option linter.unusedSimpArgs false
def idO (l : List S47) : Option Nat → Int
 | none => 0
 | some a => idAt l a
theorem idOf_ptr {l : List S47} {w : World} {n₀ : Nat} {nb : Nat → Nat} (hL : Nodes n₀ w nb l) (o : Option Nat) (ho : ∀ a, o = some a → a < l.length) : Calls Tryd.prog 73 #[.pointer (ptr nb o)] w fun e w' => e = .returned (.int .i64 (idO l o)) ∧ w' = w := by
 cases o with
 | none => exact idOf_nil w
 | some a => exact idOf_cell (nb a) _ w (hL.id (ho a rfl))
theorem nearAt_lt {l : List S47} {f3 : Nat} (h3 : f3 < l.length) (id up at_ : Int) : (nearAt l f3 id up at_).1 < l.length ∧ ∀ a, (nearAt l f3 id up at_).2 = some a → a < l.length := by
 unfold nearAt
 cases hu : placeOf l l.length up with
 | none => exact ⟨h3, fun a h => by cases h⟩
 | some u =>
  have hul : u < l.length := (Tree.firstB_some.1 hu).1
  dsimp only
  cases ha : placeOf l l.length at_ with
  | none => exact ⟨hul, fun a h => by cases h⟩
  | some a =>
   have hal : a < l.length := (Tree.firstB_some.1 ha).1
   dsimp only
   by_cases h : Tree.par (depthAt l) a = some u ∧ idAt l a ≠ id
   ·rw [if_pos h]; exact ⟨hul, fun b hb => by cases hb; exact hal⟩
   ·rw [if_neg h]; exact ⟨hul, fun b hb => by cases hb⟩
theorem whereAt_lt {l : List S47} {f3 : Nat} (h3 : f3 < l.length) (kind id up at_ : Int) (u : Nat) (a : Option Nat) (h : whereAt l f3 kind id up at_ = some (u, a)) : u < l.length ∧ ∀ b, a = some b → b < l.length := by
 have hn := nearAt_lt h3 id up at_
 unfold whereAt at h
 generalize nearAt l f3 id up at_ = q at h hn
 have key : q = (u, a) := by
  by_cases k1 : kind = 1
  ·rw [if_pos k1] at h
   cases hp : placeOf l l.length id with
   | none => rw [hp] at h; exact Option.some.inj h
   | some i => rw [hp] at h; cases h
  ·rw [if_neg k1] at h
   by_cases k3 : kind = 3
   ·rw [if_pos k3] at h
    cases hp : placeOf l l.length id with
    | none => rw [hp] at h; cases h
    | some i =>
     rw [hp] at h
     dsimp only at h
     cases hu : placeOf l l.length up with
     | none => rw [hu] at h; exact Option.some.inj h
     | some v =>
      rw [hu] at h
      dsimp only at h
      by_cases hb : Tree.metB (depthAt l) i (v + 2) (some v) = true
      ·rw [if_pos hb] at h; cases h
      ·rw [if_neg hb] at h; exact Option.some.inj h
   ·rw [if_neg k3] at h; cases h
 rw [key] at hn
 exact hn
def opWhere (l : List S47) (kind id up at_ : Int) (text : ByteArray) : Int × Int × Bool :=
 if tok l [] 0 (-1) = true then (if opB kind id up at_ text = true then (match whereAt l ((placeOf l l.length 3).getD 0) kind id up at_ with
  | none => (0, 0, false)
  | some (u, a) => (idAt l u, idO l a, true)) else (0, 0, false)) else (0, 0, false)
def numsV (r : Int × Int × Bool) : Value := .tuple #[.int .i64 r.1, .int .i64 r.2.1, .bool r.2.2]
set_option maxHeartbeats 4000000 in
set_option maxRecDepth 100000 in
theorem opWhere_bad (A0 : Option Addr) (c0 : Nat) (l0 : List S47) (kind id up at_ : Int) (text : ByteArray) (w : World) (hr0 : Kd.C k47 w A0 l0.length l0) (hc0 : l0.length ≤ c0) (ht : TabOk w) (hv : tok l0 [] 0 (-1) = false) (b : Bool) (ho : opB kind id up at_ text = b) :
  Calls Tryd.prog 56 #[.slice A0 l0.length c0, .agg #[.int .i64 kind, .int .i64 id, .int .i64 up, .int .i64 at_, .string text]] w fun e w' => e = .returned (numsV (0, 0, false)) ∧ Below w.heap.size w w' := by
 have HR0 := Aside0.mk hr0
 have HT := Aside0.mk ht
 have HC := Aside0.mk hc0
 have HV := Aside0.mk hv
 have HO := Aside0.mk ho
 clear hr0 ht hc0 hv ho
 cases b <;>
 ·go_enter Tryd.func56, Tryd.ntmps56
  go_wp2_with (first | (go_at_call 88; refine (changeOf_calls kind id up at_ text _ (HT.out.below (below_alloc (Below.refl _ _) _))).mono ?_; rw [HO.out]; rintro e w1 ⟨rfl, hb⟩; have HB1 := Aside0.mk (show Below w.heap.size w w1 from below_then (below_alloc (Below.refl _ _) _) (below_size (below_alloc (Below.refl _ _) _)) hb); clear hb) | (go_at_call 68; refine (plant_no A0 c0 l0 _ (Kd.C_below HR0.out HB1.out) HC.out (HT.out.below HB1.out) HV.out).mono ?_; rintro e w2 ⟨rfl, hb⟩; have HB2 := Aside0.mk (show Below w.heap.size w w2 from below_then HB1.out (below_size HB1.out) hb); clear hb))
  go_ret3
  exact ⟨rfl, HB2.out⟩
set_option maxHeartbeats 4000000 in
set_option maxRecDepth 100000 in
theorem opWhere_none (A0 : Option Addr) (c0 : Nat) (l0 : List S47) (kind id up at_ : Int) (text : ByteArray) (w : World) (hr0 : Kd.C k47 w A0 l0.length l0) (hc0 : l0.length ≤ c0) (ht : TabOk w) (hv : tok l0 [] 0 (-1) = true) (ho : opB kind id up at_ text = false) :
  Calls Tryd.prog 56 #[.slice A0 l0.length c0, .agg #[.int .i64 kind, .int .i64 id, .int .i64 up, .int .i64 at_, .string text]] w fun e w' => e = .returned (numsV (0, 0, false)) ∧ Below w.heap.size w w' := by
 have HR0 := Aside0.mk hr0
 have HT := Aside0.mk ht
 have HC := Aside0.mk hc0
 have HV := Aside0.mk hv
 have HO := Aside0.mk ho
 clear hr0 ht hc0 hv ho
 go_enter Tryd.func56, Tryd.ntmps56
 go_wp2_with (first | (go_at_call 88; refine (changeOf_calls kind id up at_ text _ (HT.out.below (below_alloc (Below.refl _ _) _))).mono ?_; rw [HO.out]; rintro e w1 ⟨rfl, hb⟩; have HB1 := Aside0.mk (show Below w.heap.size w w1 from below_then (below_alloc (Below.refl _ _) _) (below_size (below_alloc (Below.refl _ _) _)) hb); clear hb) | (go_at_call 68; refine (plant_yes A0 c0 l0 _ (Kd.C_below HR0.out HB1.out) HC.out (HT.out.below HB1.out) HV.out).mono ?_; rintro e w2 ⟨fb, lb, nb, rfl, hb, hp⟩; have HB2 := Aside0.mk (show Below w.heap.size w w2 from below_then HB1.out (below_size HB1.out) hb); clear hb hp))
 go_ret3
 exact ⟨rfl, HB2.out⟩
set_option maxHeartbeats 4000000 in
set_option maxRecDepth 100000 in
theorem opWhere_nowhere (A0 : Option Addr) (c0 : Nat) (l0 : List S47) (kind id up at_ : Int) (text : ByteArray) (w : World) (hr0 : Kd.C k47 w A0 l0.length l0) (hc0 : l0.length ≤ c0) (ht : TabOk w) (hv : tok l0 [] 0 (-1) = true) (ho : opB kind id up at_ text = true) (f3 : Nat) (h3 : placeOf l0 l0.length 3 = some f3) (hw : whereAt l0 f3 kind id up at_ = none) :
  Calls Tryd.prog 56 #[.slice A0 l0.length c0, .agg #[.int .i64 kind, .int .i64 id, .int .i64 up, .int .i64 at_, .string text]] w fun e w' => e = .returned (numsV (0, 0, false)) ∧ Below w.heap.size w w' := by
 have HR0 := Aside0.mk hr0
 have HT := Aside0.mk ht
 have HC := Aside0.mk hc0
 have HV := Aside0.mk hv
 have HO := Aside0.mk ho
 have H3 := Aside0.mk h3
 have HW := Aside0.mk hw
 clear hr0 ht hc0 hv ho h3 hw
 go_enter Tryd.func56, Tryd.ntmps56
 go_wp2_with (first | (go_at_call 88; refine (changeOf_calls kind id up at_ text _ (HT.out.below (below_alloc (Below.refl _ _) _))).mono ?_; rw [HO.out]; rintro e w1 ⟨rfl, hb⟩; have HB1 := Aside0.mk (show Below w.heap.size w w1 from below_then (below_alloc (Below.refl _ _) _) (below_size (below_alloc (Below.refl _ _) _)) hb); clear hb) | (go_at_call 68; refine (plant_yes A0 c0 l0 _ (Kd.C_below HR0.out HB1.out) HC.out (HT.out.below HB1.out) HV.out).mono ?_; rintro e w2 ⟨fb, lb, nb, rfl, hb, hp⟩; have HB2 := Aside0.mk (show Below w.heap.size w w2 from below_then HB1.out (below_size HB1.out) hb); have HP := Aside0.mk hp; clear hb hp) | (go_at_call 89; refine (where_calls HV.out HP.out kind id up at_ text f3 H3.out HO.out).mono ?_; rw [HW.out]; rintro e w3 ⟨rfl, hb⟩; have HB3 := Aside0.mk (show Below w.heap.size w w3 from below_then HB2.out (below_size HB2.out) hb); clear hb; dsimp only [whereV]))
 go_ret3
 exact ⟨rfl, HB3.out⟩
set_option maxHeartbeats 4000000 in
set_option maxRecDepth 100000 in
theorem opWhere_some (A0 : Option Addr) (c0 : Nat) (l0 : List S47) (kind id up at_ : Int) (text : ByteArray) (w : World) (hr0 : Kd.C k47 w A0 l0.length l0) (hc0 : l0.length ≤ c0) (ht : TabOk w) (hv : tok l0 [] 0 (-1) = true) (ho : opB kind id up at_ text = true) (f3 : Nat) (h3 : placeOf l0 l0.length 3 = some f3) (u : Nat) (a : Option Nat) (hw : whereAt l0 f3 kind id up at_ = some (u, a)) (hul : u < l0.length) (hal : ∀ b, a = some b → b < l0.length) :
  Calls Tryd.prog 56 #[.slice A0 l0.length c0, .agg #[.int .i64 kind, .int .i64 id, .int .i64 up, .int .i64 at_, .string text]] w fun e w' => e = .returned (numsV (idAt l0 u, idO l0 a, true)) ∧ Below w.heap.size w w' := by
 have HR0 := Aside0.mk hr0
 have HT := Aside0.mk ht
 have HC := Aside0.mk hc0
 have HV := Aside0.mk hv
 have HO := Aside0.mk ho
 have H3 := Aside0.mk h3
 have HW := Aside0.mk hw
 have HU := Aside0.mk hul
 have HA := Aside0.mk hal
 clear hr0 ht hc0 hv ho h3 hw hul hal
 go_enter Tryd.func56, Tryd.ntmps56
 go_upto_region 8 with (first | (go_at_call 88; refine (changeOf_calls kind id up at_ text _ (HT.out.below (below_alloc (Below.refl _ _) _))).mono ?_; rw [HO.out]; rintro e w1 ⟨rfl, hb⟩; have HB1 := Aside0.mk (show Below w.heap.size w w1 from below_then (below_alloc (Below.refl _ _) _) (below_size (below_alloc (Below.refl _ _) _)) hb); clear hb) | (go_at_call 68; refine (plant_yes A0 c0 l0 _ (Kd.C_below HR0.out HB1.out) HC.out (HT.out.below HB1.out) HV.out).mono ?_; rintro e w2 ⟨fb, lb, nb, rfl, hb, hp⟩; have HB2 := Aside0.mk (show Below w.heap.size w w2 from below_then HB1.out (below_size HB1.out) hb); have HP := Aside0.mk hp; clear hb hp) | (go_at_call 89; refine (where_calls HV.out HP.out kind id up at_ text f3 H3.out HO.out).mono ?_; rw [HW.out]; rintro e w3 ⟨rfl, hb⟩; have HB3 := Aside0.mk (show Below w.heap.size w w3 from below_then HB2.out (below_size HB2.out) hb); have HN := Aside0.mk (HP.out.under hb).nodes; clear hb; dsimp only [whereV]))
 have k1 : w3.drew.cell? ⟨nb u, 0, none⟩ = some (.int .i64 (idAt l0 u)) := HN.out.id HU.out
 have HN2 : Aside0 (Nodes w3.heap.size w3.drew nb l0) := ⟨HN.out.below (below_drew (Below.refl _ _))⟩
 go_region_with (go_at_call 73; refine (idOf_ptr HN2.out a HA.out).mono ?_; rintro e w4 ⟨rfl, rfl⟩)
 all_goals go_wp2
 all_goals go_ret3
 all_goals exact ⟨rfl, below_drew HB3.out⟩
theorem opWhere_calls (A0 : Option Addr) (c0 : Nat) (l0 : List S47) (kind id up at_ : Int) (text : ByteArray) (w : World) (hr0 : Kd.C k47 w A0 l0.length l0) (hc0 : l0.length ≤ c0) (ht : TabOk w) :
  Calls Tryd.prog 56 #[.slice A0 l0.length c0, .agg #[.int .i64 kind, .int .i64 id, .int .i64 up, .int .i64 at_, .string text]] w fun e w' => e = .returned (numsV (opWhere l0 kind id up at_ text)) ∧ Below w.heap.size w w' := by
 unfold opWhere
 by_cases hv : tok l0 [] 0 (-1) = true
 ·rw [if_pos hv]
  by_cases ho : opB kind id up at_ text = true
  ·rw [if_pos ho]
   obtain ⟨f3, h3⟩ := root_place hv (r := 3) (by omega) (by omega)
   have h3l : f3 < l0.length := (Tree.firstB_some.1 h3).1
   rw [h3, Option.getD_some]
   cases hw : whereAt l0 f3 kind id up at_ with
   | none => exact opWhere_nowhere A0 c0 l0 kind id up at_ text w hr0 hc0 ht hv ho f3 h3 hw
   | some p =>
    obtain ⟨u, a⟩ := p
    obtain ⟨hu, ha⟩ := whereAt_lt h3l kind id up at_ u a hw
    exact opWhere_some A0 c0 l0 kind id up at_ text w hr0 hc0 ht hv ho f3 h3 u a hw hu ha
  ·rw [if_neg ho]; exact opWhere_none A0 c0 l0 kind id up at_ text w hr0 hc0 ht hv (by simpa using ho)
 ·rw [if_neg hv]; exact opWhere_bad A0 c0 l0 kind id up at_ text w hr0 hc0 ht (by simpa using hv) _ rfl
end Go.Proofs.YtaajcbbbmpdcnaaDoor
