/- The program's commands on a row, by walks, from the table of commands on: thrown away; the command run; its answer. Where the table lies as the program's text lays it. -/
import Derived.Test.YtaajcbbbmpdcnaaDoorTreeY
namespace Go.Proofs.YtaajcbbbmpdcnaaDoor
open Go.RowKit Go.Shelf Go.Proofs.YtaajcbbbmpdcnaaDoorW.PrintWords Go.Proofs.YtaajcbbbmpdcnaaDoorW.PrintLast Go.Proofs.YtaajcbbbmpdcnaaDoorW.PrintMore Go.Proofs.YtaajcbbbmpdcnaaDoor.P
set_option linter.unusedVariables false
set_option linter.unusedSimpArgs false

/-- Thrown away. -/
def goneAt (l : List S47) (i : Nat) : Key :=
  match placeOf l l.length 2 with
  | none => noOp
  | some tr => if Tree.metB (depthAt l) tr (i + 2) (some i) = true then noOp else moveOp (idAt l i) 2 0
set_option maxHeartbeats 2000000 in
set_option maxRecDepth 100000 in
theorem key3_calls {l : List S47} {w : World} {fb lb : Nat} {nb : Nat → Nat} (hv : tok l [] 0 (-1) = true) (hX : Planted w fb lb nb l l.length) (i tr : Nat) (hi : i < l.length) (ht : placeOf l l.length 2 = some tr) :
    Calls Tryd.prog 112 #[.pointer (some ⟨fb, 0, none⟩), .pointer (some ⟨nb i, 0, none⟩)] w fun e w' => e = .returned (keyV (goneAt l i)) ∧ Below w.heap.size w w' := by
  have htl : tr < l.length := (Tree.firstB_some.1 ht).1
  have htid : idAt l tr = 2 := by simpa using (Tree.firstB_some.1 ht).2.1
  have hX1 : Planted (w.alloc (.cells #[.int .i64 0, .int .i64 0, .int .i64 0, .int .i64 0, .string (⟨#[]⟩ : ByteArray)] 40)) fb lb nb l l.length := hX.below (below_alloc (Below.refl _ _) _)
  have hg : goneAt l i = if Tree.metB (depthAt l) tr (i + 2) (some i) = true then noOp else moveOp (idAt l i) 2 0 := by unfold goneAt; rw [ht]
  rw [hg]
  clear hg
  have HX := Aside0.mk hX1
  have HV := Aside0.mk hv
  have HT := Aside0.mk ht
  have HI := Aside0.mk htid
  have B0 := Aside0.mk (show OpBox w.heap.size 0 0 0 0 (⟨#[]⟩ : ByteArray) (w.alloc (.cells #[.int .i64 0, .int .i64 0, .int .i64 0, .int .i64 0, .string (⟨#[]⟩ : ByteArray)] 40)) from heap_alloc_new w _)
  clear hX hX1 hv ht htid
  obtain ⟨hz0, hz1, hz2, hz3, hz4, hy0, hy1, hy2, hy3, hy4⟩ := blk_facts5 B0.out
  cases hm : Tree.metB (depthAt l) tr (i + 2) (some i) with
  | true =>
    rw [if_pos rfl]
    have HM := Aside0.mk hm
    clear hm
    go_enter Tryd.func112, Tryd.ntmps112
    go_wp2_with (first | (go_at_call 69; refine (find_calls HV.out HX.out 2).mono ?_; rw [HT.out]; rintro e w2 ⟨rfl, rfl⟩; dsimp only [ptr, Option.map]) | (go_at_call 70; refine (within_r HX.out i tr hi htl true HM.out).mono ?_; rintro e w2 ⟨rfl, rfl⟩))
    refine bodyPost_ret (results_ct rfl _ _ w.heap.size 40 #[.int .i64 0, .int .i64 0, .int .i64 0, .int .i64 0, .string (⟨#[]⟩ : ByteArray)] (0, 0) _ rfl (by first | exact heap_alloc_new w _ | exact (blk_put (blk_put (blk_put (blk_put (blk_put B0.out 0 _ rfl) 1 _ rfl) 2 _ rfl) 3 _ rfl) 4 _ rfl)) Tryd.underlying40 rfl (by kernel_rfl)) rfl ?_
    refine ⟨rfl, ?_⟩
    first | exact below_alloc (Below.refl _ _) _ | exact below_set (below_set (below_set (below_set (below_set (below_alloc (Below.refl _ _) _) (Nat.le_refl _)) (Nat.le_refl _)) (Nat.le_refl _)) (Nat.le_refl _)) (Nat.le_refl _)
  | false =>
    rw [if_neg (by decide)]
    have HM := Aside0.mk hm
    clear hm
    go_enter Tryd.func112, Tryd.ntmps112
    go_wp2_with (first | (go_at_call 69; refine (find_calls HV.out HX.out 2).mono ?_; rw [HT.out]; rintro e w2 ⟨rfl, rfl⟩; dsimp only [ptr, Option.map]) | (go_at_call 70; refine (within_r HX.out i tr hi htl false HM.out).mono ?_; rintro e w2 ⟨rfl, rfl⟩) | (go_at_call 109; refine (moveTo_nil (nb i) (nb tr) (idAt l i) 2 _ (HX.out.nodes.id hi) ((HX.out.nodes.id htl).trans (by rw [HI.out]))).mono ?_; rintro e w3 ⟨rfl, hb⟩; have hbk3 : Aside0 (OpBox w.heap.size 0 0 0 0 (⟨#[]⟩ : ByteArray) w3) := ⟨blk_below B0.out hb⟩; clear hz0 hz1 hz2 hz3 hz4 hy0 hy1 hy2 hy3 hy4; obtain ⟨hz0, hz1, hz2, hz3, hz4, hy0, hy1, hy2, hy3, hy4⟩ := blk_facts5 hbk3.out; have HB3 : Aside0 (Below w.heap.size w w3) := ⟨below_then (below_alloc (Below.refl _ _) _) (below_size (below_alloc (Below.refl _ _) _)) hb⟩; clear hb; dsimp only [moveV]))
    refine bodyPost_ret (results_ct rfl _ _ w.heap.size 40 #[.int .i64 3, .int .i64 (idAt l i), .int .i64 2, .int .i64 0, .string (⟨#[]⟩ : ByteArray)] (0, 0) _ rfl (blk_put (blk_put (blk_put (blk_put (blk_put hbk3.out 0 _ rfl) 1 _ rfl) 2 _ rfl) 3 _ rfl) 4 _ rfl) Tryd.underlying40 rfl (by kernel_rfl)) rfl ?_
    exact ⟨rfl, below_set (below_set (below_set (below_set (below_set HB3.out (Nat.le_refl _)) (Nat.le_refl _)) (Nat.le_refl _)) (Nat.le_refl _)) (Nat.le_refl _)⟩
/-- The table of the commands. -/
theorem keyCommands_calls (w : World) : Calls Tryd.prog 99 #[] w fun e w' => e = .returned (.slice (some ⟨w.heap.size, 0, none⟩) 3 3) ∧ w' = w.alloc (.cells #[.func (.func 108) #[] #[], .func (.func 111) #[] #[], .func (.func 112) #[] #[]] 109) := by
  go_enter Tryd.func99, Tryd.ntmps99
  go_wp2
  go_ret
  exact ⟨rfl, rfl⟩
theorem Planted.under {W W1 : World} {fb lb : Nat} {nb : Nat → Nat} {l : List S47} (h : Planted W fb lb nb l l.length) (hb : Below W.heap.size W W1) : Planted W1 fb lb nb l l.length := Blocks.below h hb
/-- Each root is there. -/
theorem root_there : ∀ (rest : List S47) (seen : List Int) (ro de r : Int), tok rest seen ro de = true → ro < r → r ≤ 3 → ∃ x ∈ rest, x.f0 = r
  | [], _, ro, _, r, h, h1, h2 => by simp only [tok, beq_iff_eq] at h; omega
  | x :: rest, seen, ro, de, r, h, h1, h2 => by
    simp only [tok] at h
    by_cases hc : rowB x.f0 x.f1 x.f2 = true ∧ x.f0 ∉ seen ∧ x.f1 ≤ de + 1
    · rw [if_pos hc] at h
      by_cases hr : rootB x.f0 = true
      · rw [if_pos hr] at h
        by_cases h3 : x.f0 = ro + 1
        · rw [if_pos h3] at h
          by_cases e : r = ro + 1
          · exact ⟨x, List.mem_cons_self, by omega⟩
          · obtain ⟨y, hy, e2⟩ := root_there rest _ _ _ r h (by omega) h2
            exact ⟨y, List.mem_cons_of_mem _ hy, e2⟩
        · rw [if_neg h3] at h; cases h
      · rw [if_neg hr] at h
        obtain ⟨y, hy, e2⟩ := root_there rest _ _ _ r h h1 h2
        exact ⟨y, List.mem_cons_of_mem _ hy, e2⟩
    · rw [if_neg hc] at h; cases h
theorem root_place {l : List S47} (hv : tok l [] 0 (-1) = true) {r : Int} (h1 : 0 < r) (h2 : r ≤ 3) : ∃ i, placeOf l l.length r = some i := by
  obtain ⟨x, hx, e⟩ := root_there l [] 0 (-1) r hv h1 h2
  cases hp : placeOf l l.length r with
  | some i => exact ⟨i, rfl⟩
  | none =>
    obtain ⟨i, hi, rfl⟩ := List.getElem_of_mem hx
    have := Tree.firstB_none.1 hp i hi
    simp only [beq_eq_false_iff_ne] at this
    exact absurd (by unfold idAt; rw [rowAt_get hi]; exact e) this
set_option maxHeartbeats 2000000 in
set_option maxRecDepth 100000 in
theorem runKey_bad (A0 : Option Addr) (c0 : Nat) (l0 : List S47) (id : Int) (w : World) (hr0 : Kd.C k47 w A0 l0.length l0) (hc0 : l0.length ≤ c0) (ht : TabOk w) (c : Int) (hv : tok l0 [] 0 (-1) = false) :
    Calls Tryd.prog 81 #[.slice A0 l0.length c0, .int .i64 id, .int .i64 c] w fun e w' => e = .returned (keyV noOp) ∧ Below w.heap.size w w' := by
  have HR0 := Aside0.mk hr0
  have HT := Aside0.mk ht
  have HC := Aside0.mk hc0
  have HV := Aside0.mk hv
  have H0 := Aside0.mk (show Below w.heap.size w (w.alloc (.cells #[.int .i64 0, .int .i64 0, .int .i64 0, .int .i64 0, .string (⟨#[]⟩ : ByteArray)] 40)) from below_alloc (Below.refl _ _) _)
  clear hr0 ht hc0 hv
  go_enter Tryd.func81, Tryd.ntmps81
  go_wp2_with (go_at_call 68; refine (plant_no A0 c0 l0 _ (Kd.C_below HR0.out H0.out) HC.out (HT.out.below H0.out) HV.out).mono ?_; rintro e w1 ⟨rfl, hb⟩; have BK1 := Aside0.mk (show OpBox w.heap.size 0 0 0 0 (⟨#[]⟩ : ByteArray) w1 from blk_below (heap_alloc_new w _) hb); have HB1 := Aside0.mk (show Below w.heap.size w w1 from below_then H0.out (below_size H0.out) hb); obtain ⟨hz0, hz1, hz2, hz3, hz4, hy0, hy1, hy2, hy3, hy4⟩ := blk_facts5 BK1.out; clear hb)
  refine bodyPost_ret (results_ct rfl _ _ w.heap.size 40 #[.int .i64 0, .int .i64 0, .int .i64 0, .int .i64 0, .string (⟨#[]⟩ : ByteArray)] (0, 0) _ rfl (blk_put (blk_put (blk_put (blk_put (blk_put BK1.out 0 _ rfl) 1 _ rfl) 2 _ rfl) 3 _ rfl) 4 _ rfl) Tryd.underlying40 rfl (by kernel_rfl)) rfl ?_
  exact ⟨rfl, below_set (below_set (below_set (below_set (below_set HB1.out (Nat.le_refl _)) (Nat.le_refl _)) (Nat.le_refl _)) (Nat.le_refl _)) (Nat.le_refl _)⟩
set_option maxHeartbeats 2000000 in
set_option maxRecDepth 100000 in
theorem runKey_other (A0 : Option Addr) (c0 : Nat) (l0 : List S47) (id : Int) (w : World) (hr0 : Kd.C k47 w A0 l0.length l0) (hc0 : l0.length ≤ c0) (ht : TabOk w) (c : Int) (hv : tok l0 [] 0 (-1) = true) (hm : madeB id = false) :
    Calls Tryd.prog 81 #[.slice A0 l0.length c0, .int .i64 id, .int .i64 c] w fun e w' => e = .returned (keyV noOp) ∧ Below w.heap.size w w' := by
  have HR0 := Aside0.mk hr0
  have HT := Aside0.mk ht
  have HC := Aside0.mk hc0
  have HV := Aside0.mk hv
  have H0 := Aside0.mk (show Below w.heap.size w (w.alloc (.cells #[.int .i64 0, .int .i64 0, .int .i64 0, .int .i64 0, .string (⟨#[]⟩ : ByteArray)] 40)) from below_alloc (Below.refl _ _) _)
  have HM := Aside0.mk hm
  clear hr0 ht hc0 hv hm
  go_enter Tryd.func81, Tryd.ntmps81
  go_wp2_with (first | (go_at_call 68; refine (plant_yes A0 c0 l0 _ (Kd.C_below HR0.out H0.out) HC.out (HT.out.below H0.out) HV.out).mono ?_; rintro e w1 ⟨fb, lb, nb, rfl, hb, hp⟩; have HP := Aside0.mk hp; have BK1 := Aside0.mk (show OpBox w.heap.size 0 0 0 0 (⟨#[]⟩ : ByteArray) w1 from blk_below (heap_alloc_new w _) hb); have HB1 := Aside0.mk (show Below w.heap.size w w1 from below_then H0.out (below_size H0.out) hb); clear hb hp) | (go_at_call 93; refine (isMade_b id _ (HT.out.below HB1.out)).mono ?_; rw [HM.out]; rintro e w2 ⟨rfl, hb⟩; have HX2 := Aside0.mk (Planted.under HP.out hb); have BK2 := Aside0.mk (show OpBox w.heap.size 0 0 0 0 (⟨#[]⟩ : ByteArray) w2 from blk_below BK1.out hb); have HB2 := Aside0.mk (show Below w.heap.size w w2 from below_then HB1.out (below_size HB1.out) hb); obtain ⟨hz0, hz1, hz2, hz3, hz4, hy0, hy1, hy2, hy3, hy4⟩ := blk_facts5 BK2.out; clear hb HP BK1 HB1))
  refine bodyPost_ret (results_ct rfl _ _ w.heap.size 40 #[.int .i64 0, .int .i64 0, .int .i64 0, .int .i64 0, .string (⟨#[]⟩ : ByteArray)] (0, 0) _ rfl (blk_put (blk_put (blk_put (blk_put (blk_put BK2.out 0 _ rfl) 1 _ rfl) 2 _ rfl) 3 _ rfl) 4 _ rfl) Tryd.underlying40 rfl (by kernel_rfl)) rfl ?_
  exact ⟨rfl, below_set (below_set (below_set (below_set (below_set HB2.out (Nat.le_refl _)) (Nat.le_refl _)) (Nat.le_refl _)) (Nat.le_refl _)) (Nat.le_refl _)⟩
set_option maxHeartbeats 2000000 in
set_option maxRecDepth 100000 in
theorem runKey_gone (A0 : Option Addr) (c0 : Nat) (l0 : List S47) (id : Int) (w : World) (hr0 : Kd.C k47 w A0 l0.length l0) (hc0 : l0.length ≤ c0) (ht : TabOk w) (c : Int) (hv : tok l0 [] 0 (-1) = true) (hm : madeB id = true) (hpl : placeOf l0 l0.length id = none) :
    Calls Tryd.prog 81 #[.slice A0 l0.length c0, .int .i64 id, .int .i64 c] w fun e w' => e = .returned (keyV noOp) ∧ Below w.heap.size w w' := by
  have HR0 := Aside0.mk hr0
  have HT := Aside0.mk ht
  have HC := Aside0.mk hc0
  have HV := Aside0.mk hv
  have H0 := Aside0.mk (show Below w.heap.size w (w.alloc (.cells #[.int .i64 0, .int .i64 0, .int .i64 0, .int .i64 0, .string (⟨#[]⟩ : ByteArray)] 40)) from below_alloc (Below.refl _ _) _)
  have HM := Aside0.mk hm
  have HPL := Aside0.mk hpl
  clear hr0 ht hc0 hv hm hpl
  go_enter Tryd.func81, Tryd.ntmps81
  go_wp2_with (first | (go_at_call 68; refine (plant_yes A0 c0 l0 _ (Kd.C_below HR0.out H0.out) HC.out (HT.out.below H0.out) HV.out).mono ?_; rintro e w1 ⟨fb, lb, nb, rfl, hb, hp⟩; have HP := Aside0.mk hp; have BK1 := Aside0.mk (show OpBox w.heap.size 0 0 0 0 (⟨#[]⟩ : ByteArray) w1 from blk_below (heap_alloc_new w _) hb); have HB1 := Aside0.mk (show Below w.heap.size w w1 from below_then H0.out (below_size H0.out) hb); clear hb hp) | (go_at_call 93; refine (isMade_b id _ (HT.out.below HB1.out)).mono ?_; rw [HM.out]; rintro e w2 ⟨rfl, hb⟩; have HX2 := Aside0.mk (Planted.under HP.out hb); have BK2 := Aside0.mk (show OpBox w.heap.size 0 0 0 0 (⟨#[]⟩ : ByteArray) w2 from blk_below BK1.out hb); have HB2 := Aside0.mk (show Below w.heap.size w w2 from below_then HB1.out (below_size HB1.out) hb); obtain ⟨hz0, hz1, hz2, hz3, hz4, hy0, hy1, hy2, hy3, hy4⟩ := blk_facts5 BK2.out; clear hb HP BK1 HB1) | (go_at_call 69; refine (find_calls HV.out HX2.out id).mono ?_; rw [HPL.out]; rintro e w3 ⟨rfl, rfl⟩; dsimp only [ptr, Option.map]))
  refine bodyPost_ret (results_ct rfl _ _ w.heap.size 40 #[.int .i64 0, .int .i64 0, .int .i64 0, .int .i64 0, .string (⟨#[]⟩ : ByteArray)] (0, 0) _ rfl (blk_put (blk_put (blk_put (blk_put (blk_put BK2.out 0 _ rfl) 1 _ rfl) 2 _ rfl) 3 _ rfl) 4 _ rfl) Tryd.underlying40 rfl (by kernel_rfl)) rfl ?_
  exact ⟨rfl, below_set (below_set (below_set (below_set (below_set HB2.out (Nat.le_refl _)) (Nat.le_refl _)) (Nat.le_refl _)) (Nat.le_refl _)) (Nat.le_refl _)⟩
set_option maxHeartbeats 4000000 in
set_option maxRecDepth 100000 in
theorem runKey_0 (A0 : Option Addr) (c0 : Nat) (l0 : List S47) (id : Int) (w : World) (hr0 : Kd.C k47 w A0 l0.length l0) (hc0 : l0.length ≤ c0) (ht : TabOk w) (hv : tok l0 [] 0 (-1) = true) (hm : madeB id = true) (i : Nat) (hpl : placeOf l0 l0.length id = some i) :
    Calls Tryd.prog 81 #[.slice A0 l0.length c0, .int .i64 id, .int .i64 0] w fun e w' => e = .returned (keyV (inAt l0 i)) ∧ Below w.heap.size w w' := by
  have hil : i < l0.length := (Tree.firstB_some.1 hpl).1
  have hid : idAt l0 i = id := by simpa using (Tree.firstB_some.1 hpl).2.1
  have HR0 := Aside0.mk hr0
  have HT := Aside0.mk ht
  have HC := Aside0.mk hc0
  have HV := Aside0.mk hv
  have H0 := Aside0.mk (show Below w.heap.size w (w.alloc (.cells #[.int .i64 0, .int .i64 0, .int .i64 0, .int .i64 0, .string (⟨#[]⟩ : ByteArray)] 40)) from below_alloc (Below.refl _ _) _)
  obtain ⟨u, hpa⟩ := made_par hv hil (by rw [hid]; unfold rootB; unfold madeB at hm; simp at hm ⊢; omega)
  have HPA := Aside0.mk hpa
  clear hpa
  have HM := Aside0.mk hm
  have HPL := Aside0.mk hpl
  generalize hk : inAt l0 i = r
  obtain ⟨r1, r2, r3, r4, r5, r6⟩ := r
  have HK := Aside0.mk hk
  clear hr0 ht hc0 hv hm hpl hk hid
  go_enter Tryd.func81, Tryd.ntmps81
  go_wp2_with (first | (go_at_call 68; refine (plant_yes A0 c0 l0 _ (Kd.C_below HR0.out H0.out) HC.out (HT.out.below H0.out) HV.out).mono ?_; rintro e w1 ⟨fb, lb, nb, rfl, hb, hp⟩; have HP := Aside0.mk hp; have BK1 := Aside0.mk (show OpBox w.heap.size 0 0 0 0 (⟨#[]⟩ : ByteArray) w1 from blk_below (heap_alloc_new w _) hb); have HB1 := Aside0.mk (show Below w.heap.size w w1 from below_then H0.out (below_size H0.out) hb); clear hb hp) | (go_at_call 93; refine (isMade_b id _ (HT.out.below HB1.out)).mono ?_; rw [HM.out]; rintro e w2 ⟨rfl, hb⟩; have HX2 := Aside0.mk (Planted.under HP.out hb); have BK2 := Aside0.mk (show OpBox w.heap.size 0 0 0 0 (⟨#[]⟩ : ByteArray) w2 from blk_below BK1.out hb); have HB2 := Aside0.mk (show Below w.heap.size w w2 from below_then HB1.out (below_size HB1.out) hb); obtain ⟨hz0, hz1, hz2, hz3, hz4, hy0, hy1, hy2, hy3, hy4⟩ := blk_facts5 BK2.out; clear hb HP BK1 HB1) | (go_at_call 69; refine (find_calls HV.out HX2.out id).mono ?_; rw [HPL.out]; rintro e w3 ⟨rfl, rfl⟩; dsimp only [ptr, Option.map]) | (go_at_call 99; refine (keyCommands_calls _).mono ?_; rintro e w4 ⟨rfl, rfl⟩; have HX4 := Aside0.mk (Planted.under HX2.out (below_alloc (Below.refl _ _) (.cells #[.func (.func 108) #[] #[], .func (.func 111) #[] #[], .func (.func 112) #[] #[]] 109))); have hcell := (blk_cell (heap_alloc_new w3 (.cells #[.func (.func 108) #[] #[], .func (.func 111) #[] #[], .func (.func 112) #[] #[]] 109)) 0)) | (go_at_call 108; refine (key1_calls (Planted.nodes HX4.out) _ i u hil HPA.out).mono ?_; rw [HK.out]; rintro e w5 ⟨rfl, hb⟩; have BK5 := Aside0.mk (show OpBox w.heap.size 0 0 0 0 (⟨#[]⟩ : ByteArray) w5 from blk_below (blk_alloc BK2.out _) hb); have HB5 := Aside0.mk (show Below w.heap.size w w5 from below_then (below_alloc HB2.out _) (below_size (below_alloc HB2.out _)) hb); clear hz0 hz1 hz2 hz3 hz4 hy0 hy1 hy2 hy3 hy4; obtain ⟨hz0, hz1, hz2, hz3, hz4, hy0, hy1, hy2, hy3, hy4⟩ := blk_facts5 BK5.out; clear hb; dsimp only [keyV]))
  refine bodyPost_ret (results_ct rfl _ _ w.heap.size 40 #[.int .i64 r1, .int .i64 r2, .int .i64 r3, .int .i64 r4, .string r5] (0, 0) _ rfl (blk_put (blk_put (blk_put (blk_put (blk_put BK5.out 0 _ rfl) 1 _ rfl) 2 _ rfl) 3 _ rfl) 4 _ rfl) Tryd.underlying40 rfl (by kernel_rfl)) rfl ?_
  exact ⟨rfl, below_set (below_set (below_set (below_set (below_set HB5.out (Nat.le_refl _)) (Nat.le_refl _)) (Nat.le_refl _)) (Nat.le_refl _)) (Nat.le_refl _)⟩
set_option maxHeartbeats 4000000 in
set_option maxRecDepth 100000 in
theorem runKey_1 (A0 : Option Addr) (c0 : Nat) (l0 : List S47) (id : Int) (w : World) (hr0 : Kd.C k47 w A0 l0.length l0) (hc0 : l0.length ≤ c0) (ht : TabOk w) (hv : tok l0 [] 0 (-1) = true) (hm : madeB id = true) (i : Nat) (hpl : placeOf l0 l0.length id = some i) :
    Calls Tryd.prog 81 #[.slice A0 l0.length c0, .int .i64 id, .int .i64 1] w fun e w' => e = .returned (keyV (outAt l0 i)) ∧ Below w.heap.size w w' := by
  have hil : i < l0.length := (Tree.firstB_some.1 hpl).1
  have hid : idAt l0 i = id := by simpa using (Tree.firstB_some.1 hpl).2.1
  have HR0 := Aside0.mk hr0
  have HT := Aside0.mk ht
  have HC := Aside0.mk hc0
  have HV := Aside0.mk hv
  have H0 := Aside0.mk (show Below w.heap.size w (w.alloc (.cells #[.int .i64 0, .int .i64 0, .int .i64 0, .int .i64 0, .string (⟨#[]⟩ : ByteArray)] 40)) from below_alloc (Below.refl _ _) _)
  obtain ⟨u, hpa⟩ := made_par hv hil (by rw [hid]; unfold rootB; unfold madeB at hm; simp at hm ⊢; omega)
  have HPA := Aside0.mk hpa
  clear hpa
  have HM := Aside0.mk hm
  have HPL := Aside0.mk hpl
  generalize hk : outAt l0 i = r
  obtain ⟨r1, r2, r3, r4, r5, r6⟩ := r
  have HK := Aside0.mk hk
  clear hr0 ht hc0 hv hm hpl hk hid
  go_enter Tryd.func81, Tryd.ntmps81
  go_wp2_with (first | (go_at_call 68; refine (plant_yes A0 c0 l0 _ (Kd.C_below HR0.out H0.out) HC.out (HT.out.below H0.out) HV.out).mono ?_; rintro e w1 ⟨fb, lb, nb, rfl, hb, hp⟩; have HP := Aside0.mk hp; have BK1 := Aside0.mk (show OpBox w.heap.size 0 0 0 0 (⟨#[]⟩ : ByteArray) w1 from blk_below (heap_alloc_new w _) hb); have HB1 := Aside0.mk (show Below w.heap.size w w1 from below_then H0.out (below_size H0.out) hb); clear hb hp) | (go_at_call 93; refine (isMade_b id _ (HT.out.below HB1.out)).mono ?_; rw [HM.out]; rintro e w2 ⟨rfl, hb⟩; have HX2 := Aside0.mk (Planted.under HP.out hb); have BK2 := Aside0.mk (show OpBox w.heap.size 0 0 0 0 (⟨#[]⟩ : ByteArray) w2 from blk_below BK1.out hb); have HB2 := Aside0.mk (show Below w.heap.size w w2 from below_then HB1.out (below_size HB1.out) hb); obtain ⟨hz0, hz1, hz2, hz3, hz4, hy0, hy1, hy2, hy3, hy4⟩ := blk_facts5 BK2.out; clear hb HP BK1 HB1) | (go_at_call 69; refine (find_calls HV.out HX2.out id).mono ?_; rw [HPL.out]; rintro e w3 ⟨rfl, rfl⟩; dsimp only [ptr, Option.map]) | (go_at_call 99; refine (keyCommands_calls _).mono ?_; rintro e w4 ⟨rfl, rfl⟩; have HX4 := Aside0.mk (Planted.under HX2.out (below_alloc (Below.refl _ _) (.cells #[.func (.func 108) #[] #[], .func (.func 111) #[] #[], .func (.func 112) #[] #[]] 109))); have hcell := (blk_cell (heap_alloc_new w3 (.cells #[.func (.func 108) #[] #[], .func (.func 111) #[] #[], .func (.func 112) #[] #[]] 109)) 1)) | (go_at_call 111; refine (key2_calls HV.out (Planted.nodes HX4.out) ((HT.out.below HB2.out).below (below_alloc (Below.refl _ _) _)) _ i u hil HPA.out).mono ?_; rw [HK.out]; rintro e w5 ⟨rfl, hb⟩; have BK5 := Aside0.mk (show OpBox w.heap.size 0 0 0 0 (⟨#[]⟩ : ByteArray) w5 from blk_below (blk_alloc BK2.out _) hb); have HB5 := Aside0.mk (show Below w.heap.size w w5 from below_then (below_alloc HB2.out _) (below_size (below_alloc HB2.out _)) hb); clear hz0 hz1 hz2 hz3 hz4 hy0 hy1 hy2 hy3 hy4; obtain ⟨hz0, hz1, hz2, hz3, hz4, hy0, hy1, hy2, hy3, hy4⟩ := blk_facts5 BK5.out; clear hb; dsimp only [keyV]))
  refine bodyPost_ret (results_ct rfl _ _ w.heap.size 40 #[.int .i64 r1, .int .i64 r2, .int .i64 r3, .int .i64 r4, .string r5] (0, 0) _ rfl (blk_put (blk_put (blk_put (blk_put (blk_put BK5.out 0 _ rfl) 1 _ rfl) 2 _ rfl) 3 _ rfl) 4 _ rfl) Tryd.underlying40 rfl (by kernel_rfl)) rfl ?_
  exact ⟨rfl, below_set (below_set (below_set (below_set (below_set HB5.out (Nat.le_refl _)) (Nat.le_refl _)) (Nat.le_refl _)) (Nat.le_refl _)) (Nat.le_refl _)⟩
set_option maxHeartbeats 4000000 in
set_option maxRecDepth 100000 in
theorem runKey_2 (A0 : Option Addr) (c0 : Nat) (l0 : List S47) (id : Int) (w : World) (hr0 : Kd.C k47 w A0 l0.length l0) (hc0 : l0.length ≤ c0) (ht : TabOk w) (hv : tok l0 [] 0 (-1) = true) (hm : madeB id = true) (i : Nat) (hpl : placeOf l0 l0.length id = some i) :
    Calls Tryd.prog 81 #[.slice A0 l0.length c0, .int .i64 id, .int .i64 2] w fun e w' => e = .returned (keyV (goneAt l0 i)) ∧ Below w.heap.size w w' := by
  have hil : i < l0.length := (Tree.firstB_some.1 hpl).1
  have hid : idAt l0 i = id := by simpa using (Tree.firstB_some.1 hpl).2.1
  have HR0 := Aside0.mk hr0
  have HT := Aside0.mk ht
  have HC := Aside0.mk hc0
  have HV := Aside0.mk hv
  have H0 := Aside0.mk (show Below w.heap.size w (w.alloc (.cells #[.int .i64 0, .int .i64 0, .int .i64 0, .int .i64 0, .string (⟨#[]⟩ : ByteArray)] 40)) from below_alloc (Below.refl _ _) _)
  obtain ⟨tr, htr⟩ := root_place hv (r := 2) (by omega) (by omega)
  have HTR := Aside0.mk htr
  clear htr
  have HM := Aside0.mk hm
  have HPL := Aside0.mk hpl
  generalize hk : goneAt l0 i = r
  obtain ⟨r1, r2, r3, r4, r5, r6⟩ := r
  have HK := Aside0.mk hk
  clear hr0 ht hc0 hv hm hpl hk hid
  go_enter Tryd.func81, Tryd.ntmps81
  go_wp2_with (first | (go_at_call 68; refine (plant_yes A0 c0 l0 _ (Kd.C_below HR0.out H0.out) HC.out (HT.out.below H0.out) HV.out).mono ?_; rintro e w1 ⟨fb, lb, nb, rfl, hb, hp⟩; have HP := Aside0.mk hp; have BK1 := Aside0.mk (show OpBox w.heap.size 0 0 0 0 (⟨#[]⟩ : ByteArray) w1 from blk_below (heap_alloc_new w _) hb); have HB1 := Aside0.mk (show Below w.heap.size w w1 from below_then H0.out (below_size H0.out) hb); clear hb hp) | (go_at_call 93; refine (isMade_b id _ (HT.out.below HB1.out)).mono ?_; rw [HM.out]; rintro e w2 ⟨rfl, hb⟩; have HX2 := Aside0.mk (Planted.under HP.out hb); have BK2 := Aside0.mk (show OpBox w.heap.size 0 0 0 0 (⟨#[]⟩ : ByteArray) w2 from blk_below BK1.out hb); have HB2 := Aside0.mk (show Below w.heap.size w w2 from below_then HB1.out (below_size HB1.out) hb); obtain ⟨hz0, hz1, hz2, hz3, hz4, hy0, hy1, hy2, hy3, hy4⟩ := blk_facts5 BK2.out; clear hb HP BK1 HB1) | (go_at_call 69; refine (find_calls HV.out HX2.out id).mono ?_; rw [HPL.out]; rintro e w3 ⟨rfl, rfl⟩; dsimp only [ptr, Option.map]) | (go_at_call 99; refine (keyCommands_calls _).mono ?_; rintro e w4 ⟨rfl, rfl⟩; have HX4 := Aside0.mk (Planted.under HX2.out (below_alloc (Below.refl _ _) (.cells #[.func (.func 108) #[] #[], .func (.func 111) #[] #[], .func (.func 112) #[] #[]] 109))); have hcell := (blk_cell (heap_alloc_new w3 (.cells #[.func (.func 108) #[] #[], .func (.func 111) #[] #[], .func (.func 112) #[] #[]] 109)) 2)) | (go_at_call 112; refine (key3_calls HV.out HX4.out i tr hil HTR.out).mono ?_; rw [HK.out]; rintro e w5 ⟨rfl, hb⟩; have BK5 := Aside0.mk (show OpBox w.heap.size 0 0 0 0 (⟨#[]⟩ : ByteArray) w5 from blk_below (blk_alloc BK2.out _) hb); have HB5 := Aside0.mk (show Below w.heap.size w w5 from below_then (below_alloc HB2.out _) (below_size (below_alloc HB2.out _)) hb); clear hz0 hz1 hz2 hz3 hz4 hy0 hy1 hy2 hy3 hy4; obtain ⟨hz0, hz1, hz2, hz3, hz4, hy0, hy1, hy2, hy3, hy4⟩ := blk_facts5 BK5.out; clear hb; dsimp only [keyV]))
  refine bodyPost_ret (results_ct rfl _ _ w.heap.size 40 #[.int .i64 r1, .int .i64 r2, .int .i64 r3, .int .i64 r4, .string r5] (0, 0) _ rfl (blk_put (blk_put (blk_put (blk_put (blk_put BK5.out 0 _ rfl) 1 _ rfl) 2 _ rfl) 3 _ rfl) 4 _ rfl) Tryd.underlying40 rfl (by kernel_rfl)) rfl ?_
  exact ⟨rfl, below_set (below_set (below_set (below_set (below_set HB5.out (Nat.le_refl _)) (Nat.le_refl _)) (Nat.le_refl _)) (Nat.le_refl _)) (Nat.le_refl _)⟩
/-- A command on a number's row. -/
def onRow (l : List S47) (id : Int) (f : Nat → Key) : Key :=
  if tok l [] 0 (-1) = true then (if madeB id = true then (match placeOf l l.length id with
    | none => noOp
    | some i => f i) else noOp) else noOp
theorem run0_calls (A0 : Option Addr) (c0 : Nat) (l0 : List S47) (id : Int) (w : World) (hr0 : Kd.C k47 w A0 l0.length l0) (hc0 : l0.length ≤ c0) (ht : TabOk w) :
    Calls Tryd.prog 81 #[.slice A0 l0.length c0, .int .i64 id, .int .i64 0] w fun e w' => e = .returned (keyV (onRow l0 id (inAt l0))) ∧ Below w.heap.size w w' := by
  unfold onRow
  by_cases hv : tok l0 [] 0 (-1) = true
  · rw [if_pos hv]
    by_cases hm : madeB id = true
    · rw [if_pos hm]
      cases hpl : placeOf l0 l0.length id with
      | none => exact runKey_gone A0 c0 l0 id w hr0 hc0 ht 0 hv hm hpl
      | some i => exact runKey_0 A0 c0 l0 id w hr0 hc0 ht hv hm i hpl
    · rw [if_neg hm]; exact runKey_other A0 c0 l0 id w hr0 hc0 ht 0 hv (by simpa using hm)
  · rw [if_neg hv]; exact runKey_bad A0 c0 l0 id w hr0 hc0 ht 0 (by simpa using hv)
set_option maxHeartbeats 2000000 in
set_option maxRecDepth 100000 in
theorem keyIn_calls (A0 : Option Addr) (c0 : Nat) (l0 : List S47) (id : Int) (w : World) (hr0 : Kd.C k47 w A0 l0.length l0) (hc0 : l0.length ≤ c0) (ht : TabOk w) :
    Calls Tryd.prog 50 #[.slice A0 l0.length c0, .int .i64 id] w fun e w' => e = .returned (keyV (onRow l0 id (inAt l0))) ∧ Below w.heap.size w w' := by
  have HR0 := Aside0.mk hr0
  have HT := Aside0.mk ht
  have HC := Aside0.mk hc0
  have H0 := Aside0.mk (show Below w.heap.size w (w.alloc (.cells #[.int .i64 0, .int .i64 0, .int .i64 0, .int .i64 0, .string (⟨#[]⟩ : ByteArray)] 40)) from below_alloc (Below.refl _ _) _)
  generalize hk : onRow l0 id (inAt l0) = r
  obtain ⟨r1, r2, r3, r4, r5, r6⟩ := r
  have HK := Aside0.mk hk
  clear hr0 ht hc0 hk
  go_enter Tryd.func50, Tryd.ntmps50
  go_wp2_with (go_at_call 81; refine (run0_calls A0 c0 l0 id _ (Kd.C_below HR0.out H0.out) HC.out (HT.out.below H0.out)).mono ?_; rw [HK.out]; rintro e w1 ⟨rfl, hb⟩; have BK1 := Aside0.mk (show OpBox w.heap.size 0 0 0 0 (⟨#[]⟩ : ByteArray) w1 from blk_below (heap_alloc_new w _) hb); have HB1 := Aside0.mk (show Below w.heap.size w w1 from below_then H0.out (below_size H0.out) hb); obtain ⟨hz0, hz1, hz2, hz3, hz4, hy0, hy1, hy2, hy3, hy4⟩ := blk_facts5 BK1.out; clear hb; dsimp only [keyV])
  refine bodyPost_ret (results_ct rfl _ _ w.heap.size 40 #[.int .i64 r1, .int .i64 r2, .int .i64 r3, .int .i64 r4, .string r5] (0, 0) _ rfl (blk_put (blk_put (blk_put (blk_put (blk_put BK1.out 0 _ rfl) 1 _ rfl) 2 _ rfl) 3 _ rfl) 4 _ rfl) Tryd.underlying40 rfl (by kernel_rfl)) rfl ?_
  exact ⟨rfl, below_set (below_set (below_set (below_set (below_set HB1.out (Nat.le_refl _)) (Nat.le_refl _)) (Nat.le_refl _)) (Nat.le_refl _)) (Nat.le_refl _)⟩
theorem run1_calls (A0 : Option Addr) (c0 : Nat) (l0 : List S47) (id : Int) (w : World) (hr0 : Kd.C k47 w A0 l0.length l0) (hc0 : l0.length ≤ c0) (ht : TabOk w) :
    Calls Tryd.prog 81 #[.slice A0 l0.length c0, .int .i64 id, .int .i64 1] w fun e w' => e = .returned (keyV (onRow l0 id (outAt l0))) ∧ Below w.heap.size w w' := by
  unfold onRow
  by_cases hv : tok l0 [] 0 (-1) = true
  · rw [if_pos hv]
    by_cases hm : madeB id = true
    · rw [if_pos hm]
      cases hpl : placeOf l0 l0.length id with
      | none => exact runKey_gone A0 c0 l0 id w hr0 hc0 ht 1 hv hm hpl
      | some i => exact runKey_1 A0 c0 l0 id w hr0 hc0 ht hv hm i hpl
    · rw [if_neg hm]; exact runKey_other A0 c0 l0 id w hr0 hc0 ht 1 hv (by simpa using hm)
  · rw [if_neg hv]; exact runKey_bad A0 c0 l0 id w hr0 hc0 ht 1 (by simpa using hv)
set_option maxHeartbeats 2000000 in
set_option maxRecDepth 100000 in
theorem keyOut_calls (A0 : Option Addr) (c0 : Nat) (l0 : List S47) (id : Int) (w : World) (hr0 : Kd.C k47 w A0 l0.length l0) (hc0 : l0.length ≤ c0) (ht : TabOk w) :
    Calls Tryd.prog 46 #[.slice A0 l0.length c0, .int .i64 id] w fun e w' => e = .returned (keyV (onRow l0 id (outAt l0))) ∧ Below w.heap.size w w' := by
  have HR0 := Aside0.mk hr0
  have HT := Aside0.mk ht
  have HC := Aside0.mk hc0
  have H0 := Aside0.mk (show Below w.heap.size w (w.alloc (.cells #[.int .i64 0, .int .i64 0, .int .i64 0, .int .i64 0, .string (⟨#[]⟩ : ByteArray)] 40)) from below_alloc (Below.refl _ _) _)
  generalize hk : onRow l0 id (outAt l0) = r
  obtain ⟨r1, r2, r3, r4, r5, r6⟩ := r
  have HK := Aside0.mk hk
  clear hr0 ht hc0 hk
  go_enter Tryd.func46, Tryd.ntmps46
  go_wp2_with (go_at_call 81; refine (run1_calls A0 c0 l0 id _ (Kd.C_below HR0.out H0.out) HC.out (HT.out.below H0.out)).mono ?_; rw [HK.out]; rintro e w1 ⟨rfl, hb⟩; have BK1 := Aside0.mk (show OpBox w.heap.size 0 0 0 0 (⟨#[]⟩ : ByteArray) w1 from blk_below (heap_alloc_new w _) hb); have HB1 := Aside0.mk (show Below w.heap.size w w1 from below_then H0.out (below_size H0.out) hb); obtain ⟨hz0, hz1, hz2, hz3, hz4, hy0, hy1, hy2, hy3, hy4⟩ := blk_facts5 BK1.out; clear hb; dsimp only [keyV])
  refine bodyPost_ret (results_ct rfl _ _ w.heap.size 40 #[.int .i64 r1, .int .i64 r2, .int .i64 r3, .int .i64 r4, .string r5] (0, 0) _ rfl (blk_put (blk_put (blk_put (blk_put (blk_put BK1.out 0 _ rfl) 1 _ rfl) 2 _ rfl) 3 _ rfl) 4 _ rfl) Tryd.underlying40 rfl (by kernel_rfl)) rfl ?_
  exact ⟨rfl, below_set (below_set (below_set (below_set (below_set HB1.out (Nat.le_refl _)) (Nat.le_refl _)) (Nat.le_refl _)) (Nat.le_refl _)) (Nat.le_refl _)⟩
theorem run2_calls (A0 : Option Addr) (c0 : Nat) (l0 : List S47) (id : Int) (w : World) (hr0 : Kd.C k47 w A0 l0.length l0) (hc0 : l0.length ≤ c0) (ht : TabOk w) :
    Calls Tryd.prog 81 #[.slice A0 l0.length c0, .int .i64 id, .int .i64 2] w fun e w' => e = .returned (keyV (onRow l0 id (goneAt l0))) ∧ Below w.heap.size w w' := by
  unfold onRow
  by_cases hv : tok l0 [] 0 (-1) = true
  · rw [if_pos hv]
    by_cases hm : madeB id = true
    · rw [if_pos hm]
      cases hpl : placeOf l0 l0.length id with
      | none => exact runKey_gone A0 c0 l0 id w hr0 hc0 ht 2 hv hm hpl
      | some i => exact runKey_2 A0 c0 l0 id w hr0 hc0 ht hv hm i hpl
    · rw [if_neg hm]; exact runKey_other A0 c0 l0 id w hr0 hc0 ht 2 hv (by simpa using hm)
  · rw [if_neg hv]; exact runKey_bad A0 c0 l0 id w hr0 hc0 ht 2 (by simpa using hv)
set_option maxHeartbeats 2000000 in
set_option maxRecDepth 100000 in
theorem keyGone_calls (A0 : Option Addr) (c0 : Nat) (l0 : List S47) (id : Int) (w : World) (hr0 : Kd.C k47 w A0 l0.length l0) (hc0 : l0.length ≤ c0) (ht : TabOk w) :
    Calls Tryd.prog 40 #[.slice A0 l0.length c0, .int .i64 id] w fun e w' => e = .returned (keyV (onRow l0 id (goneAt l0))) ∧ Below w.heap.size w w' := by
  have HR0 := Aside0.mk hr0
  have HT := Aside0.mk ht
  have HC := Aside0.mk hc0
  have H0 := Aside0.mk (show Below w.heap.size w (w.alloc (.cells #[.int .i64 0, .int .i64 0, .int .i64 0, .int .i64 0, .string (⟨#[]⟩ : ByteArray)] 40)) from below_alloc (Below.refl _ _) _)
  generalize hk : onRow l0 id (goneAt l0) = r
  obtain ⟨r1, r2, r3, r4, r5, r6⟩ := r
  have HK := Aside0.mk hk
  clear hr0 ht hc0 hk
  go_enter Tryd.func40, Tryd.ntmps40
  go_wp2_with (go_at_call 81; refine (run2_calls A0 c0 l0 id _ (Kd.C_below HR0.out H0.out) HC.out (HT.out.below H0.out)).mono ?_; rw [HK.out]; rintro e w1 ⟨rfl, hb⟩; have BK1 := Aside0.mk (show OpBox w.heap.size 0 0 0 0 (⟨#[]⟩ : ByteArray) w1 from blk_below (heap_alloc_new w _) hb); have HB1 := Aside0.mk (show Below w.heap.size w w1 from below_then H0.out (below_size H0.out) hb); obtain ⟨hz0, hz1, hz2, hz3, hz4, hy0, hy1, hy2, hy3, hy4⟩ := blk_facts5 BK1.out; clear hb; dsimp only [keyV])
  refine bodyPost_ret (results_ct rfl _ _ w.heap.size 40 #[.int .i64 r1, .int .i64 r2, .int .i64 r3, .int .i64 r4, .string r5] (0, 0) _ rfl (blk_put (blk_put (blk_put (blk_put (blk_put BK1.out 0 _ rfl) 1 _ rfl) 2 _ rfl) 3 _ rfl) 4 _ rfl) Tryd.underlying40 rfl (by kernel_rfl)) rfl ?_
  exact ⟨rfl, below_set (below_set (below_set (below_set (below_set HB1.out (Nat.le_refl _)) (Nat.le_refl _)) (Nat.le_refl _)) (Nat.le_refl _)) (Nat.le_refl _)⟩
end Go.Proofs.YtaajcbbbmpdcnaaDoor
