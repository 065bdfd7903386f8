/- The program's TreeKids by walks, for all rows and numbers. Where the table lies as the program's text lays it. -/
import Derived.Test.YtaajcbbbmpdcnaaDoorTreeI
import Derived.Stop.RegionWithIn
namespace Go.Proofs.YtaajcbbbmpdcnaaDoor
open Go.RowKit Go.Shelf Go.Proofs.YtaajcbbbmpdcnaaDoorW.PrintWords Go.Proofs.YtaajcbbbmpdcnaaDoorW.PrintLast Go.Proofs.YtaajcbbbmpdcnaaDoorW.PrintMore Go.Proofs.YtaajcbbbmpdcnaaDoor.P
set_option linter.unusedVariables false
set_option linter.unusedSimpArgs false
attribute [local go_sem] Oper.semAt_some
def treeKids (l : List S47) (id : Int) : List Int :=
 if tok l [] 0 (-1) = true then (match placeOf l l.length id with
  | none => []
  | some i => (Tree.kidsOf (depthAt l) l.length i).map (idAt l)) else []
theorem opIn_append_own {F : Fence} {n : Nat} {P : Program} (w : World) {o : Oper} {a : Act} {K : Act → World → Prop} {Q : Exit → Act → World → Prop}
  (hg : o.guard = none) (s x : Operand) (t : TypeId) (hop : o.op = Op.call { callee := Callee.builtin Builtin.append, args := #[s, x], argTypes := #[t, t] })
  (base : Nat) (e : TypeId) (i : TypeInfo) (z : Value) (size bytes : Nat) (h1 : P.underlying t = some (.slice e)) (h2 : P.info? e = some i) (h3 : i.zero = some z) (h4 : i.size = size) (h5 : i.bytes = bytes) (h6 : z.cells.size = size) (h7 : 0 < size)
  (v : Value) (k : Nat) (xs : List Value) (hs : a.eval s = v) (hown : w.ownsRow base e size v k xs) (ad : Addr) (m c : Nat) (news : List Value) (hx : a.eval x = .slice (some ad) m c) (hn : news.length = m * size)
  (hc : ∀ j u, news[j]? = some u → w.cell? (ad.add j) = some u) (h1c : ∀ u ∈ news, u.oneCell' = true) (b1 : k + m ≤ maxLen) (b2 : (k + m) * bytes ≤ 140737488355328) (b3 : base ≤ w.heap.size)
  (hK : ∀ v' w', w'.ownsRow base e size v' (k + m) (xs ++ news) → w.grownBy w' v.ownBlock → (v' = .slice none 0 0 ↔ v = .slice none 0 0 ∧ m = 0) → K (a.put o.dst v') w') :
  o.wpIn F n P a w K Q := by
 obtain ⟨v', w', hrun, r1, r2, r3⟩ := run_append_own (P := P) w base t o.type e i z size bytes h1 h2 h3 h4 h5 h6 h7 v k xs hown ad m c news hn hc h1c b1 b2 b3
 unfold Oper.wpIn
 refine ⟨by simp [Oper.about, hop, resolve, Target.leads, Sem.run_pure], ?_⟩
 rw [Oper.semAt_plain F _ _ (by rw [hop]; intro c hc'; cases hc')]
 simp [execOp, hop, resolve, invoke, builtin, hs, hx, hrun, Result.andThen]
 exact hK _ _ r1 r2 r3
theorem infoInt : (Tryd.prog.info? 3).map (fun i => (i.zero, i.size, i.bytes)) = some (some (.int .i64 0), 1, 8) := by kernel_rfl
theorem ints_row {w : World} {base : Nat} {v : Value} {xs : List Int} (h : w.ownsRow base 3 1 v xs.length (xs.map (Value.int .i64))) : Kd.R (Kd.int .i64) 3 w base (fun _ => True) v xs := by
 refine ⟨fun _ _ => trivial, xs.map (Value.int .i64), h, ?_⟩
 clear h
 refine ⟨by simp [Kd.int, Kd.scalar], fun j p hp => ?_⟩
 obtain ⟨hj, rfl⟩ := List.getElem?_eq_some_iff.1 hp
 have hs : (Kd.int .i64).sz = 1 := rfl
 rw [hs, Nat.mul_one]
 show List.take 1 (List.drop j (xs.map (Value.int .i64))) = [Value.int .i64 xs[j]]
 rw [List.drop_eq_getElem_cons (by simpa using hj)]
 simp
set_option maxRecDepth 100000 in
set_option maxHeartbeats 2000000 in
theorem treeKids_calls (A0 : Option Addr) (c0 : Nat) (l0 : List S47) (id : Int) (w : World) (hr0 : Kd.C k47 w A0 l0.length l0) (hc0 : l0.length ≤ c0) (ht : TabOk w) :
  Calls Tryd.prog 34 #[.slice A0 l0.length c0, .int .i64 id] w fun e w' => ∃ v, e = .returned v ∧ Kd.R (Kd.int .i64) 3 w' w.heap.size (fun _ => True) v (treeKids l0 id) ∧ Below w.heap.size w w' := by
 have HR0 := Aside0.mk hr0
 have HT := Aside0.mk ht
 have HC := Aside0.mk hc0
 clear hr0 ht hc0
 by_cases hv : tok l0 [] 0 (-1) = true
 ·have HV := Aside0.mk hv
  have e0 : treeKids l0 id = (match placeOf l0 l0.length id with
   | none => []
   | some i => (Tree.kidsOf (depthAt l0) l0.length i).map (idAt l0)) := by unfold treeKids; rw [if_pos hv]
  clear hv
  cases hpl : placeOf l0 l0.length id with
  | none =>
   rw [hpl] at e0
   rw [e0]
   replace hpl := Aside0.mk hpl
   clear e0
   go_enter Tryd.func34, Tryd.ntmps34
   go_wp2_with (first | (go_at_call 68; refine (plant_yes A0 c0 l0 _ HR0.out HC.out HT.out HV.out).mono ?_; rintro e w1 ⟨fb, lb, nb, rfl, hb, hp⟩; have HB := Aside0.mk hb; have HP := Aside0.mk hp; clear hb hp) | (go_at_call 69; refine (find_calls HV.out HP.out id).mono ?_; rw [hpl.out]; rintro e w2 ⟨rfl, rfl⟩; dsimp only [ptr, Option.map]))
   go_ret
   exact ⟨_, rfl, Kd.R_nil _ _ _ _ _, HB.out⟩
  | some i =>
   have hil : i < l0.length := (Tree.firstB_some.1 hpl).1
   rw [hpl] at e0
   replace hpl := Aside0.mk hpl
   rw [e0]
   clear e0
   refine (callsIn_wide (n := 3)).1 ?_
   refine callsIn_of_wp_marks Tryd.func34 rfl trivial ?_ rfl
   simp only [Tryd.ntmps34, List.size_toArray, List.length_cons, List.length_nil, Nat.reduceAdd, Nat.reduceSub, Array.replicate_succ, Array.replicate_zero, List.push_toArray, List.append_toArray, List.nil_append, List.cons_append]
   gi_wp2_with (first | (refine ⟨trivial, ?_⟩; gi_at_call 68; refine (callsIn_wide.2 (plant_yes A0 c0 l0 _ HR0.out HC.out HT.out HV.out)).mono ?_; rintro e w1 ⟨fb, lb, nb, rfl, hb, hp⟩; have HB := Aside0.mk hb; have HP := Aside0.mk hp; clear hb hp) | (refine ⟨trivial, ?_⟩; gi_at_call 69; refine (callsIn_wide.2 (find_calls HV.out HP.out id)).mono ?_; rw [hpl.out]; rintro e w2 ⟨rfl, rfl⟩; dsimp only [ptr, Option.map]) | (refine ⟨trivial, ?_⟩; gi_at_call 77; refine (kids_in _ _ trivial rfl _ _).mono ?_; rintro e w3 ⟨rfl, rfl⟩))
   obtain ⟨i0, hi, hz0, hz1, hz2⟩ := info_parts infoInt
   obtain ⟨s2, hs2⟩ : ∃ s2, s2 = w2.heap.size := ⟨_, rfl⟩
   have hN := Nodes.below (n₀ := w2.heap.size) HP.out.nodes (Below.refl _ _)
   have bO := Boxed.new (w2.alloc (.cells #[] 3)) 34 (.slice (some ⟨w2.heap.size, 0, none⟩) 0 0)
   rw [World.size_alloc] at bO
   have hown : (w2.alloc (.cells #[] 3)).ownsRow w2.heap.size 3 1 (.slice (some ⟨w2.heap.size, 0, none⟩) 0 0) 0 [] := World.ownsRow_lit w2 #[] 0 (Nat.le_refl _) (by decide) rfl
   have bN := Boxed.new ((w2.alloc (.cells #[] 3)).alloc (.cells #[.slice (some ⟨w2.heap.size, 0, none⟩) 0 0] 34)) 74 (.pointer (some ⟨nb i, 0, none⟩))
   rw [World.size_alloc, World.size_alloc] at bN
   have hB0 : Below w2.heap.size w2 (((w2.alloc (.cells #[] 3)).alloc (.cells #[.slice (some ⟨w2.heap.size, 0, none⟩) 0 0] 34)).alloc (.cells #[.pointer (some ⟨nb i, 0, none⟩)] 74)) := (((Below.refl _ w2).alloc (Nat.le_refl _) _).alloc (by simp) _).alloc (by simp; omega) _
   have hfew : (Tree.kidsOf (depthAt l0) l0.length i).length ≤ 37 := by
    have h2 : (Tree.kidsOf (depthAt l0) l0.length i).length ≤ l0.length := by
     unfold Tree.kidsOf; exact Nat.le_trans (List.length_filter_le _ _) (by simp)
    have h1 := fewRows HV.out (i := l0.length - 1) (by omega)
    omega
   refine wpIn_rangeFunc_ownG rfl (by omega) (gf := 98) (lb := #[.pointer (some ⟨w2.heap.size + 1 + 1, 0, none⟩)]) rfl trivial (enters_of Tryd.func98 (by kernel_rfl) rfl)
    (kids_stops Fence.wide (3 - 1) trivial rfl (by omega) (w2.heap.size + 1 + 1) w2.heap.size nb l0 i hil _ (by simp) (by simp; omega) bN.cell (hN.below hB0)) belowK_t (belowK_b (by simp; omega)) (Below.refl _ _) (fun _ => rfl)
    (fun pre W => (∃ v, Boxed W (w2.heap.size + 1) 34 v ∧ W.ownsRow w2.heap.size 3 1 v pre.length (pre.map fun x => Value.int .i64 (idAt l0 x.1)) ∧ True) ∧ Below w2.heap.size w2 W)
    (fun _ _ _ => False)
    (OwnFrom.and (Own.from (holdsRow_own w2.heap.size (w2.heap.size + 1) 34 3 1 (fun pre : List (Kid l0 i) => pre.length) (fun pre => pre.map fun x => Value.int .i64 (idAt l0 x.1)) (fun _ _ => True)) _) (ownFrom_below (Nat.le_refl _) (by simp; omega)))
    (fun _ _ _ _ _ hs _ _ => hs)
    ⟨⟨_, bO.alloc _, (hown.alloc _).alloc _, trivial⟩, hB0⟩
    (fun x => { tmps := #[.slice A0 l0.length c0, .int .i64 id, undef, undef, .slice none 0 0, .pointer (some ⟨fb, 0, none⟩), .bool true, .pointer (some ⟨nb i, 0, none⟩), .pointer (some ⟨w2.heap.size + 1, 0, none⟩), .pointer (some ⟨nb x.1, 0, none⟩), .tuple #[.pointer (some ⟨fb, 0, none⟩), .bool true], .slice A0 l0.length c0, .tuple #[.pointer (some ⟨fb, 0, none⟩), .bool true], .pointer (some ⟨fb, 0, none⟩), .bool true, .bool true, .bool false, .pointer (some ⟨fb, 0, none⟩), .int .i64 id, .pointer (some ⟨nb i, 0, none⟩), .pointer (some ⟨nb i, 0, none⟩), .bool false, .slice (some ⟨w2.heap.size, 0, none⟩) 0 0, .pointer (some ⟨nb i, 0, none⟩), .func (.func 98) #[] #[.pointer (some ⟨w2.heap.size + 1 + 1, 0, none⟩)], .pointer (some ⟨nb x.1, 0, none⟩), undef, undef, undef, undef, undef, undef, undef, undef], defers := [] }) ?assign ?body ?done ?stop
   case assign =>
    intro lp x W K hK
    dsimp only [kidVal]
    gi_wp2
    exact hK
   case body =>
    rintro lp pre x W ⟨⟨v, hv, hrow, _⟩, hB⟩ hlt
    have hc := hv.cell
    obtain ⟨q, hq⟩ : ∃ q, q = idAt l0 x.1 := ⟨_, rfl⟩
    have hid : W.cell? ⟨nb x.1, 0, none⟩ = some (.int .i64 q) := (blk_cell ((hN.below hB).node x.1 x.2.1) 0).trans (by rw [hq]; rfl)
    replace hq := Aside0.mk hq
    have hc8 : (W.alloc (.cells #[.int .i64 q] 3)).drew.cell? ⟨w2.heap.size + 1, 0, none⟩ = some v := (hv.alloc (.cells #[.int .i64 q] 3)).cell
    gi_wp2
    refine wpIn_region_any (by kernel_rfl) ?_
    try (change wpAnyIn _ _ _ _ _ _ _ _ _ (World.drew _))
    refine wpAnyIn_ready (rs := [0, 1]) (by kernel_rfl) (by simp) ?_
    refine AllReadyIn.cons rfl (fun K hK => ?_) ?_
    ·go_simp
     refine hK _ _ ?_
     clear hK K
     refine wpAnyIn_ready (rs := [1]) (by kernel_rfl) (by simp) ?_
     refine AllReadyIn.cons rfl (fun K hK => ?_) ?_
     ·go_simp
      refine hK _ _ ?_
      clear hK K
      refine wpAnyIn_ready (rs := [2]) (by kernel_rfl) (by simp) ?_
      refine AllReadyIn.cons rfl (fun K hK => ?_) ?_
      ·go_simp
       refine hK _ _ ?_
       clear hK K
       refine wpAnyIn_ready (rs := [3]) (by kernel_rfl) (by simp) ?_
       refine AllReadyIn.cons rfl (fun K hK => ?_) ?_
       ·go_simp
        refine hK _ _ ?_
        clear hK K
        refine wpAnyIn_ready (rs := [4]) (by kernel_rfl) (by simp) ?_
        refine AllReadyIn.cons rfl (fun K hK => ?_) ?_
        ·go_simp
         refine hK _ _ ?_
         clear hK K
         refine wpAnyIn_ready (rs := [5]) (by kernel_rfl) (by simp) ?_
         refine AllReadyIn.cons rfl (fun K hK => ?_) ?_
         ·go_simp
          refine hK _ _ ?_
          clear hK K
          refine wpAnyIn_ready (rs := [6]) (by kernel_rfl) (by simp) ?_
          refine AllReadyIn.cons rfl (fun K hK => ?_) ?_
          ·rw [if_pos (by rfl)]
           refine opIn_append_own _ rfl _ _ 34 rfl w2.heap.size 3 i0 (.int .i64 0) 1 8 Tryd.underlying34 hi hz0 hz1 hz2 rfl (by decide) v _ _ rfl (hrow.alloc (.cells #[.int .i64 q] 3)).drew ⟨W.heap.size, 0, none⟩ 1 1 [.int .i64 q] rfl rfl (fun j u h => cell_one_new W _ _ j u h) (by simp [Value.oneCell']) (by simp only [maxLen]; omega) (by omega) (by have := hB.size; simp; omega) ?_; intro v' w1 hown' hgrow _; obtain ⟨g', cap', rfl⟩ := ownsRow_succ hown'; obtain ⟨hv1, hv2, hr2, hk2, hb2⟩ := hv.appended (tmp := .cells #[.int .i64 q] 3) (by decide) hrow hB.size (by omega) hown' ⟨hgrow.os, hgrow.tape, hgrow.output, hgrow.size, hgrow.block⟩; have hc1 := hv1.cell; have hf1 := hv1.frozen
           refine hK _ _ ?_
           clear hK K
           refine wpAnyIn_ready (rs := [7]) (by kernel_rfl) (by simp) ?_
           refine AllReadyIn.cons rfl (fun K hK => ?_) ?_
           ·go_simp
            refine hK _ _ ?_
            clear hK K
            refine wpAnyIn_done (by kernel_rfl) ?_ _
            exact ⟨hk2.from _, hb2, ⟨_, hv2, by simpa [hq.out] using hr2, trivial⟩, hB.trans hb2⟩
           exact AllReadyIn.nil
          exact AllReadyIn.nil
         exact AllReadyIn.nil
        exact AllReadyIn.nil
       exact AllReadyIn.nil
      exact AllReadyIn.nil
     exact AllReadyIn.nil
    refine AllReadyIn.cons rfl (fun K hK => ?_) ?_
    ·go_simp
     refine hK _ _ ?_
     clear hK K
     refine wpAnyIn_ready (rs := [0, 2]) (by kernel_rfl) (by simp) ?_
     refine AllReadyIn.cons rfl (fun K hK => ?_) ?_
     ·go_simp
      refine hK _ _ ?_
      clear hK K
      refine wpAnyIn_ready (rs := [2]) (by kernel_rfl) (by simp) ?_
      refine AllReadyIn.cons rfl (fun K hK => ?_) ?_
      ·go_simp
       refine hK _ _ ?_
       clear hK K
       refine wpAnyIn_ready (rs := [3]) (by kernel_rfl) (by simp) ?_
       refine AllReadyIn.cons rfl (fun K hK => ?_) ?_
       ·go_simp
        refine hK _ _ ?_
        clear hK K
        refine wpAnyIn_ready (rs := [4]) (by kernel_rfl) (by simp) ?_
        refine AllReadyIn.cons rfl (fun K hK => ?_) ?_
        ·go_simp
         refine hK _ _ ?_
         clear hK K
         refine wpAnyIn_ready (rs := [5]) (by kernel_rfl) (by simp) ?_
         refine AllReadyIn.cons rfl (fun K hK => ?_) ?_
         ·go_simp
          refine hK _ _ ?_
          clear hK K
          refine wpAnyIn_ready (rs := [6]) (by kernel_rfl) (by simp) ?_
          refine AllReadyIn.cons rfl (fun K hK => ?_) ?_
          ·rw [if_pos (by rfl)]
           refine opIn_append_own _ rfl _ _ 34 rfl w2.heap.size 3 i0 (.int .i64 0) 1 8 Tryd.underlying34 hi hz0 hz1 hz2 rfl (by decide) v _ _ rfl (hrow.alloc (.cells #[.int .i64 q] 3)).drew ⟨W.heap.size, 0, none⟩ 1 1 [.int .i64 q] rfl rfl (fun j u h => cell_one_new W _ _ j u h) (by simp [Value.oneCell']) (by simp only [maxLen]; omega) (by omega) (by have := hB.size; simp; omega) ?_; intro v' w1 hown' hgrow _; obtain ⟨g', cap', rfl⟩ := ownsRow_succ hown'; obtain ⟨hv1, hv2, hr2, hk2, hb2⟩ := hv.appended (tmp := .cells #[.int .i64 q] 3) (by decide) hrow hB.size (by omega) hown' ⟨hgrow.os, hgrow.tape, hgrow.output, hgrow.size, hgrow.block⟩; have hc1 := hv1.cell; have hf1 := hv1.frozen
           refine hK _ _ ?_
           clear hK K
           refine wpAnyIn_ready (rs := [7]) (by kernel_rfl) (by simp) ?_
           refine AllReadyIn.cons rfl (fun K hK => ?_) ?_
           ·go_simp
            refine hK _ _ ?_
            clear hK K
            refine wpAnyIn_done (by kernel_rfl) ?_ _
            exact ⟨hk2.from _, hb2, ⟨_, hv2, by simpa [hq.out] using hr2, trivial⟩, hB.trans hb2⟩
           exact AllReadyIn.nil
          exact AllReadyIn.nil
         exact AllReadyIn.nil
        exact AllReadyIn.nil
       exact AllReadyIn.nil
      exact AllReadyIn.nil
     refine AllReadyIn.cons rfl (fun K hK => ?_) ?_
     ·go_simp
      refine hK _ _ ?_
      clear hK K
      refine wpAnyIn_ready (rs := [0, 3]) (by kernel_rfl) (by simp) ?_
      refine AllReadyIn.cons rfl (fun K hK => ?_) ?_
      ·go_simp
       refine hK _ _ ?_
       clear hK K
       refine wpAnyIn_ready (rs := [3]) (by kernel_rfl) (by simp) ?_
       refine AllReadyIn.cons rfl (fun K hK => ?_) ?_
       ·go_simp
        refine hK _ _ ?_
        clear hK K
        refine wpAnyIn_ready (rs := [4]) (by kernel_rfl) (by simp) ?_
        refine AllReadyIn.cons rfl (fun K hK => ?_) ?_
        ·go_simp
         refine hK _ _ ?_
         clear hK K
         refine wpAnyIn_ready (rs := [5]) (by kernel_rfl) (by simp) ?_
         refine AllReadyIn.cons rfl (fun K hK => ?_) ?_
         ·go_simp
          refine hK _ _ ?_
          clear hK K
          refine wpAnyIn_ready (rs := [6]) (by kernel_rfl) (by simp) ?_
          refine AllReadyIn.cons rfl (fun K hK => ?_) ?_
          ·rw [if_pos (by rfl)]
           refine opIn_append_own _ rfl _ _ 34 rfl w2.heap.size 3 i0 (.int .i64 0) 1 8 Tryd.underlying34 hi hz0 hz1 hz2 rfl (by decide) v _ _ rfl (hrow.alloc (.cells #[.int .i64 q] 3)).drew ⟨W.heap.size, 0, none⟩ 1 1 [.int .i64 q] rfl rfl (fun j u h => cell_one_new W _ _ j u h) (by simp [Value.oneCell']) (by simp only [maxLen]; omega) (by omega) (by have := hB.size; simp; omega) ?_; intro v' w1 hown' hgrow _; obtain ⟨g', cap', rfl⟩ := ownsRow_succ hown'; obtain ⟨hv1, hv2, hr2, hk2, hb2⟩ := hv.appended (tmp := .cells #[.int .i64 q] 3) (by decide) hrow hB.size (by omega) hown' ⟨hgrow.os, hgrow.tape, hgrow.output, hgrow.size, hgrow.block⟩; have hc1 := hv1.cell; have hf1 := hv1.frozen
           refine hK _ _ ?_
           clear hK K
           refine wpAnyIn_ready (rs := [7]) (by kernel_rfl) (by simp) ?_
           refine AllReadyIn.cons rfl (fun K hK => ?_) ?_
           ·go_simp
            refine hK _ _ ?_
            clear hK K
            refine wpAnyIn_done (by kernel_rfl) ?_ _
            exact ⟨hk2.from _, hb2, ⟨_, hv2, by simpa [hq.out] using hr2, trivial⟩, hB.trans hb2⟩
           exact AllReadyIn.nil
          exact AllReadyIn.nil
         exact AllReadyIn.nil
        exact AllReadyIn.nil
       exact AllReadyIn.nil
      refine AllReadyIn.cons rfl (fun K hK => ?_) ?_
      ·go_simp
       refine hK _ _ ?_
       clear hK K
       refine wpAnyIn_ready (rs := [0, 4]) (by kernel_rfl) (by simp) ?_
       refine AllReadyIn.cons rfl (fun K hK => ?_) ?_
       ·go_simp
        refine hK _ _ ?_
        clear hK K
        refine wpAnyIn_ready (rs := [4]) (by kernel_rfl) (by simp) ?_
        refine AllReadyIn.cons rfl (fun K hK => ?_) ?_
        ·go_simp
         refine hK _ _ ?_
         clear hK K
         refine wpAnyIn_ready (rs := [5]) (by kernel_rfl) (by simp) ?_
         refine AllReadyIn.cons rfl (fun K hK => ?_) ?_
         ·go_simp
          refine hK _ _ ?_
          clear hK K
          refine wpAnyIn_ready (rs := [6]) (by kernel_rfl) (by simp) ?_
          refine AllReadyIn.cons rfl (fun K hK => ?_) ?_
          ·rw [if_pos (by rfl)]
           refine opIn_append_own _ rfl _ _ 34 rfl w2.heap.size 3 i0 (.int .i64 0) 1 8 Tryd.underlying34 hi hz0 hz1 hz2 rfl (by decide) v _ _ rfl (hrow.alloc (.cells #[.int .i64 q] 3)).drew ⟨W.heap.size, 0, none⟩ 1 1 [.int .i64 q] rfl rfl (fun j u h => cell_one_new W _ _ j u h) (by simp [Value.oneCell']) (by simp only [maxLen]; omega) (by omega) (by have := hB.size; simp; omega) ?_; intro v' w1 hown' hgrow _; obtain ⟨g', cap', rfl⟩ := ownsRow_succ hown'; obtain ⟨hv1, hv2, hr2, hk2, hb2⟩ := hv.appended (tmp := .cells #[.int .i64 q] 3) (by decide) hrow hB.size (by omega) hown' ⟨hgrow.os, hgrow.tape, hgrow.output, hgrow.size, hgrow.block⟩; have hc1 := hv1.cell; have hf1 := hv1.frozen
           refine hK _ _ ?_
           clear hK K
           refine wpAnyIn_ready (rs := [7]) (by kernel_rfl) (by simp) ?_
           refine AllReadyIn.cons rfl (fun K hK => ?_) ?_
           ·go_simp
            refine hK _ _ ?_
            clear hK K
            refine wpAnyIn_done (by kernel_rfl) ?_ _
            exact ⟨hk2.from _, hb2, ⟨_, hv2, by simpa [hq.out] using hr2, trivial⟩, hB.trans hb2⟩
           exact AllReadyIn.nil
          exact AllReadyIn.nil
         exact AllReadyIn.nil
        exact AllReadyIn.nil
       refine AllReadyIn.cons rfl (fun K hK => ?_) ?_
       ·go_simp
        refine hK _ _ ?_
        clear hK K
        refine wpAnyIn_ready (rs := [0, 5]) (by kernel_rfl) (by simp) ?_
        refine AllReadyIn.cons rfl (fun K hK => ?_) ?_
        ·go_simp
         refine hK _ _ ?_
         clear hK K
         refine wpAnyIn_ready (rs := [5]) (by kernel_rfl) (by simp) ?_
         refine AllReadyIn.cons rfl (fun K hK => ?_) ?_
         ·go_simp
          refine hK _ _ ?_
          clear hK K
          refine wpAnyIn_ready (rs := [6]) (by kernel_rfl) (by simp) ?_
          refine AllReadyIn.cons rfl (fun K hK => ?_) ?_
          ·rw [if_pos (by rfl)]
           refine opIn_append_own _ rfl _ _ 34 rfl w2.heap.size 3 i0 (.int .i64 0) 1 8 Tryd.underlying34 hi hz0 hz1 hz2 rfl (by decide) v _ _ rfl (hrow.alloc (.cells #[.int .i64 q] 3)).drew ⟨W.heap.size, 0, none⟩ 1 1 [.int .i64 q] rfl rfl (fun j u h => cell_one_new W _ _ j u h) (by simp [Value.oneCell']) (by simp only [maxLen]; omega) (by omega) (by have := hB.size; simp; omega) ?_; intro v' w1 hown' hgrow _; obtain ⟨g', cap', rfl⟩ := ownsRow_succ hown'; obtain ⟨hv1, hv2, hr2, hk2, hb2⟩ := hv.appended (tmp := .cells #[.int .i64 q] 3) (by decide) hrow hB.size (by omega) hown' ⟨hgrow.os, hgrow.tape, hgrow.output, hgrow.size, hgrow.block⟩; have hc1 := hv1.cell; have hf1 := hv1.frozen
           refine hK _ _ ?_
           clear hK K
           refine wpAnyIn_ready (rs := [7]) (by kernel_rfl) (by simp) ?_
           refine AllReadyIn.cons rfl (fun K hK => ?_) ?_
           ·go_simp
            refine hK _ _ ?_
            clear hK K
            refine wpAnyIn_done (by kernel_rfl) ?_ _
            exact ⟨hk2.from _, hb2, ⟨_, hv2, by simpa [hq.out] using hr2, trivial⟩, hB.trans hb2⟩
           exact AllReadyIn.nil
          exact AllReadyIn.nil
         exact AllReadyIn.nil
        refine AllReadyIn.cons rfl (fun K hK => ?_) ?_
        ·go_simp
         refine hK _ _ ?_
         clear hK K
         refine wpAnyIn_ready (rs := [0]) (by kernel_rfl) (by simp) ?_
         refine AllReadyIn.cons rfl (fun K hK => ?_) ?_
         ·go_simp
          refine hK _ _ ?_
          clear hK K
          refine wpAnyIn_ready (rs := [6]) (by kernel_rfl) (by simp) ?_
          refine AllReadyIn.cons rfl (fun K hK => ?_) ?_
          ·rw [if_pos (by rfl)]
           refine opIn_append_own _ rfl _ _ 34 rfl w2.heap.size 3 i0 (.int .i64 0) 1 8 Tryd.underlying34 hi hz0 hz1 hz2 rfl (by decide) v _ _ rfl (hrow.alloc (.cells #[.int .i64 q] 3)).drew ⟨W.heap.size, 0, none⟩ 1 1 [.int .i64 q] rfl rfl (fun j u h => cell_one_new W _ _ j u h) (by simp [Value.oneCell']) (by simp only [maxLen]; omega) (by omega) (by have := hB.size; simp; omega) ?_; intro v' w1 hown' hgrow _; obtain ⟨g', cap', rfl⟩ := ownsRow_succ hown'; obtain ⟨hv1, hv2, hr2, hk2, hb2⟩ := hv.appended (tmp := .cells #[.int .i64 q] 3) (by decide) hrow hB.size (by omega) hown' ⟨hgrow.os, hgrow.tape, hgrow.output, hgrow.size, hgrow.block⟩; have hc1 := hv1.cell; have hf1 := hv1.frozen
           refine hK _ _ ?_
           clear hK K
           refine wpAnyIn_ready (rs := [7]) (by kernel_rfl) (by simp) ?_
           refine AllReadyIn.cons rfl (fun K hK => ?_) ?_
           ·go_simp
            refine hK _ _ ?_
            clear hK K
            refine wpAnyIn_done (by kernel_rfl) ?_ _
            exact ⟨hk2.from _, hb2, ⟨_, hv2, by simpa [hq.out] using hr2, trivial⟩, hB.trans hb2⟩
           exact AllReadyIn.nil
          exact AllReadyIn.nil
         exact AllReadyIn.nil
        exact AllReadyIn.nil
       exact AllReadyIn.nil
      exact AllReadyIn.nil
     exact AllReadyIn.nil
    exact AllReadyIn.nil
   case done =>
    rintro D ys W hD hys ⟨⟨v, hv, hrow, _⟩, hB⟩ hK
    have hc := hv.cell
    have hys := Aside0.mk hys
    gi_wp2
    refine ⟨by simp, .inl ⟨_, _, rfl, run_takeDeferred hK, ?_⟩⟩
    refine ⟨_, results_tmp rfl _ _ _, v, rfl, ints_row ?_, ?_⟩
    ·have h := (ownsRow_putObj hrow (.deferred none) hK rfl)
     rw [← hys.out]
     have e1 : (List.map (idAt l0) (List.map Subtype.val ys)).length = ys.length := by simp
     have e2 : List.map (Value.int .i64) (List.map (idAt l0) (List.map Subtype.val ys)) = ys.map fun x => Value.int .i64 (idAt l0 x.1) := by simp
     rw [e1, e2]
     exact own_weaken h (below_size HB.out)
    ·exact below_then HB.out (below_size HB.out) (hB.trans (belowK_b (w := w2) (Nat.le_refl _) W D _ _ (by simp at hD; omega) hK rfl rfl))
   case stop =>
    rintro D c pre W _ _ h _
    exact h.elim
 ·have hv2 : tok l0 [] 0 (-1) = false := by simpa using hv
  have e0 : treeKids l0 id = [] := by unfold treeKids; rw [if_neg hv]
  rw [e0]
  have HV := Aside0.mk hv2
  clear hv hv2 e0
  go_enter Tryd.func34, Tryd.ntmps34
  go_wp2_with (go_at_call 68; refine (plant_no A0 c0 l0 _ HR0.out HC.out HT.out HV.out).mono ?_; rintro e w1 ⟨rfl, hb⟩; have HB := Aside0.mk hb; clear hb)
  go_ret
  exact ⟨_, rfl, Kd.R_nil _ _ _ _ _, HB.out⟩
end Go.Proofs.YtaajcbbbmpdcnaaDoor
