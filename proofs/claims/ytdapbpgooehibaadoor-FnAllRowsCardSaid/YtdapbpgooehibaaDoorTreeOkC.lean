/- The program's TreeOk by a walk: it counts each number, where the table lies as the program's text lays it. -/
import Derived.Test.YtdapbpgooehibaaDoorPx0
import Derived.Test.YtdapbpgooehibaaDoorOpC
import Derived.Test.YtdapbpgooehibaaDoorZ
import Derived.Test.YtdapbpgooehibaaDoorV
import Derived.Deep.LoopGhost
import Derived.Deep.DeepCutAuto
import Derived.Deep.CutBlock
namespace Go.Proofs.YtdapbpgooehibaaDoor
open Go.RowKit Go.Proofs.YtdapbpgooehibaaDoorW.PrintWords Go.Proofs.YtdapbpgooehibaaDoorW.PrintLast Go.Proofs.YtdapbpgooehibaaDoorW.PrintMore Go.Proofs.YtdapbpgooehibaaDoor.P
set_option linter.unusedVariables false
set_option linter.unusedSimpArgs false

theorem q_rowOk (a b : Int) (s : ByteArray) : Q.impl_RowOk.f 6 a b s = some (rowB a b s) := by
  unfold Q.impl_RowOk.f rowB
  rw [q_isRoot, q_isMade, q_textOk]
  simp only [Option.bind_some]
  cases rootB a with
  | true =>
    simp only [if_true]
    by_cases h : b = 0
    · rw [if_pos h, decide_eq_true h, Bool.true_and]; congr 1; cases s.toList <;> rfl
    · rw [if_neg h, decide_eq_false h, Bool.false_and]
  | false =>
    simp only [Bool.false_eq_true, if_false]
    cases madeB a with
    | false => simp
    | true =>
      simp only [if_true, Bool.true_and]
      by_cases h1 : b ≥ 1
      · rw [if_pos h1]
        by_cases h2 : b ≤ 18
        · rw [if_pos h2, decide_eq_true ⟨h1, h2⟩, Bool.true_and]
        · rw [if_neg h2, decide_eq_false (fun h => h2 h.2), Bool.false_and]
      · rw [if_neg h1, decide_eq_false (fun h => h1 h.1), Bool.false_and]
theorem rowOk_b (a b : Int) (s : ByteArray) (w : World) (ht : TabOk w) :
    Calls Tryd.prog 32 #[.agg #[.int .i64 a, .int .i64 b, .string s]] w fun e w' => e = .returned (.bool (rowB a b s)) ∧ Below w.heap.size w w' :=
  Q.impl_RowOk.calls 6 a b s _ w ht (q_rowOk a b s)
theorem isRoot_b (a : Int) (w : World) (ht : TabOk w) :
    Calls Tryd.prog 33 #[.int .i64 a] w fun e w' => e = .returned (.bool (rootB a)) ∧ Below w.heap.size w w' :=
  (Q.impl_isRoot.calls a _ w ht (q_isRoot a)).mono fun _ _ ⟨he, h⟩ => ⟨he, h.below⟩

/-- How often each number has been counted. -/
def times (seen : List Int) : Array Value := ((List.range 37).map fun j => .int .i64 (if (j : Int) ∈ seen then 1 else 0)).toArray
/-- The program's TreeOk over what is left of the rows. -/
def tok : List P.S29 → List Int → Int → Int → Bool
  | [], _, roots, _ => roots == 3
  | x :: rest, seen, roots, depth =>
    if rowB x.f0 x.f1 x.f2 = true ∧ x.f0 ∉ seen ∧ x.f1 ≤ depth + 1 then
      (if rootB x.f0 = true then (if x.f0 = roots + 1 then tok rest (seen ++ [x.f0]) (roots + 1) x.f1 else false)
       else tok rest (seen ++ [x.f0]) roots x.f1)
    else false
def TBox (g : Nat) (seen : List Int) (W : World) : Prop := W.heap[g]? = some (.cells (times seen) 53 (0, 0))

/-- The box of a row, whole. -/
def RBox (g : Nat) (id depth : Int) (text : ByteArray) (W : World) : Prop := W.heap[g]? = some (.cells #[.int .i64 id, .int .i64 depth, .string text] 29 (0, 0))
theorem rowB_bounds {id d : Int} {t : ByteArray} (h : rowB id d t = true) : (0 ≤ id ∧ id < 37) ∧ 0 ≤ d ∧ d ≤ 18 := by
  unfold rowB at h
  split at h
  · rename_i h1; have := rootB_iff.1 h1; simp at h; omega
  · simp at h; have := madeB_iff.1 h.1.1; omega
theorem times_at (seen : List Int) (n : Nat) (h : n < 37) : (times seen)[n]? = some (.int .i64 (if (n : Int) ∈ seen then 1 else 0)) := by
  simp [times, h]
theorem times_put (seen : List Int) (n : Nat) (h : n < 37) : (times seen).setIfInBounds n (.int .i64 1) = times (seen ++ [(n : Int)]) := by
  apply Array.ext_getElem?
  intro i
  by_cases hi : i < 37
  · rw [times_at _ i hi, Array.getElem?_setIfInBounds]
    by_cases e : n = i
    · subst e; simp [times, h]
    · have e2 : ¬ (i : Int) = n := by omega
      rw [if_neg e, times_at _ i hi]; simp [e2]
  · rw [Array.getElem?_eq_none (by simp [times]; omega), Array.getElem?_eq_none (by simp [times]; omega)]

theorem wrap_id {a : Int} (h : -9223372036854775808 ≤ a ∧ a ≤ 9223372036854775807) : IntKind.i64.wrap a = a := by
  rw [i64_w]; exact wrap64_id h
theorem few : ∀ (k : Nat) (l : List Int), l.Nodup → (∀ x ∈ l, 0 ≤ x ∧ x < k) → l.length ≤ k
  | 0, l, _, h => by
    cases l with
    | nil => simp
    | cons x _ => have := h x (List.mem_cons_self ..); omega
  | k + 1, l, hn, h => by
    by_cases hm : (k : Int) ∈ l
    · have h1 := few k (l.erase (k : Int)) (hn.erase _) (fun x hx => by
        have := (hn.mem_erase_iff).1 hx
        have := h x this.2; omega)
      rw [List.length_erase_of_mem hm] at h1; omega
    · have := few k l hn (fun x hx => by
        have h2 := h x hx
        have : x ≠ (k : Int) := fun e => hm (e ▸ hx)
        omega)
      omega
theorem row_boxed {w wr w4 : World} {seen : List Int} {gb : Nat} (hB : Below w.heap.size w wr) (hX : TBox w.heap.size seen wr) (hb : Below wr.heap.size wr w4) {z0 z1 z2 : Value} (hbox : w4.heap[gb]? = some (.cells #[z0, z1, z2] 29 (0, 0))) (hg : gb = wr.heap.size) (id dp : Int) (tx : ByteArray) :
    RBox gb id dp tx (((w4.setCell ⟨gb, 0, none⟩ (.int .i64 id)).setCell ⟨gb, 1, none⟩ (.int .i64 dp)).setCell ⟨gb, 2, none⟩ (.string tx)) ∧ TBox w.heap.size seen (((w4.setCell ⟨gb, 0, none⟩ (.int .i64 id)).setCell ⟨gb, 1, none⟩ (.int .i64 dp)).setCell ⟨gb, 2, none⟩ (.string tx)) ∧ Below w.heap.size w (((w4.setCell ⟨gb, 0, none⟩ (.int .i64 id)).setCell ⟨gb, 1, none⟩ (.int .i64 dp)).setCell ⟨gb, 2, none⟩ (.string tx)) := by
  have hl := blk_lt hX
  have hne : w.heap.size ≠ gb := by omega
  exact ⟨blk_put (blk_put (blk_put hbox 0 _ rfl) 1 _ rfl) 2 _ rfl, blk_far (blk_far (blk_far (blk_below hX hb) hne _) hne _) hne _, below_set (below_set (below_set (below_step hB hb) (by omega)) (by omega)) (by omega)⟩

set_option maxHeartbeats 4000000 in
set_option maxRecDepth 100000 in
theorem treeOk_calls (A0 : Option Addr) (c0 : Nat) (l0 : List P.S29) (w : World) (hr0 : Kd.C P.k29 w A0 l0.length l0) (hc0 : l0.length ≤ c0) (ht : TabOk w) :
    Calls Tryd.prog 10 #[.slice A0 l0.length c0] w fun e w' => e = .returned (.bool (tok l0 [] 0 (-1))) ∧ Below w.heap.size w w' := by
  have hu47 := Tryd.underlying29
  have hu69 := Tryd.underlying53
  have HR0 := Aside0.mk hr0
  have HT := Aside0.mk ht
  clear hr0 ht
  go_enter Tryd.func10, Tryd.ntmps10
  go_wp2
  go_loopg [4, 5, 10] (l0.length + 1) (fun kq v4 v5 v10 w' => ∃ (i : Nat) (ro de : Int), v4 = .int .i64 ro ∧ v5 = .int .i64 de ∧ v10 = .int .i64 (i : Int) ∧ Aside0 (i ≤ l0.length) ∧ Aside0 (kq = l0.length - i + 1) ∧ Aside0 (tok (l0.drop i) ((l0.take i).map (·.f0)) ro de = tok l0 [] 0 (-1)) ∧ Aside0 (TBox w.heap.size ((l0.take i).map (·.f0)) w') ∧ Aside0 (Below w.heap.size w w') ∧ Aside0 (0 ≤ ro ∧ ro ≤ 3 ∧ -1 ≤ de ∧ de ≤ 18) ∧ Aside0 (((l0.take i).map (·.f0)).Nodup ∧ ∀ x ∈ (l0.take i).map (·.f0), 0 ≤ x ∧ x < 37))
  case atStart => exact ⟨0, 0, -1, rfl, rfl, rfl, ⟨Nat.zero_le _⟩, ⟨rfl⟩, ⟨rfl⟩, ⟨heap_alloc_new w _⟩, ⟨below_alloc (Below.refl _ _) _⟩, ⟨by omega⟩, ⟨by simp⟩⟩
  case round =>
    obtain ⟨i, ro, de, rfl, rfl, rfl, HI, HQ, HA, HX, HB, HR, HN⟩ := hrel
    obtain ⟨r1, r2, r3, r4⟩ := HR.out
    by_cases hi : i < l0.length
    · have c1 : decide ((i : Int) < (l0.length : Int)) = true := decide_eq_true (by omega)
      obtain ⟨ad, e1, h0, h1, h2⟩ := at_T29 HR0.out (i : Int) (by omega) (by omega)
      cases e1
      replace h0 := pw_cell_below HB.out h0
      replace h1 := pw_cell_below HB.out h1
      replace h2 := pw_cell_below HB.out h2
      have hx : rd_T29 l0 (i : Int) = l0[i] := by simp [rd_T29, hi]
      obtain ⟨id, dp, tx, hid⟩ : ∃ a b c, l0[i] = ⟨a, b, c⟩ := ⟨_, _, _, rfl⟩
      rw [hx, hid] at h0 h1 h2
      dsimp only at h0 h1 h2
      simp only [Int.toNat_natCast] at h0 h1 h2
      have HA2 := HA.out
      rw [List.drop_eq_getElem_cons hi, hid] at HA2
      simp only [tok] at HA2
      have p1 : (0 ≤ (i : Int)) = True := eq_true (by omega)
      have p2 : ((i : Int) < (l0.length : Int)) = True := eq_true (by omega)
      go_upto_region 7 with (((with_reducible refine gate_dst (N := 7) rfl ?_); refine box_event ?hg (N := 7) ?hd (cs := #[.int .i64 0, .int .i64 0, .string ⟨#[]⟩]) (t := 29) ?hr ?_; (case hd => rfl); (case hg => rfl); (case hr => first | (go_simp; done) | (go_simp; rfl)); intro gb hg w4 hbox hbl; have n1 := Aside0.mk (row_boxed HB.out HX.out hbl hbox hg id dp tx); obtain ⟨hz0, hz1, hz2, hy0, hy1, hy2⟩ := blk_facts3 hbox; have n2 := Aside0.mk (show w.heap.size < gb by rw [hg]; exact blk_lt HX.out); clear hbl hbox hg))
      obtain ⟨W1, hW1⟩ : ∃ W1, W1 = (((w4.setCell ⟨gb, 0, none⟩ (.int .i64 id)).setCell ⟨gb, 1, none⟩ (.int .i64 dp)).setCell ⟨gb, 2, none⟩ (.string tx)) := ⟨_, rfl⟩
      rw [← hW1] at n1 ⊢
      obtain ⟨HK1, HX1, HB1⟩ := n1.out
      replace HK1 := Aside0.mk HK1
      replace HX1 := Aside0.mk HX1
      replace HB1 := Aside0.mk HB1
      clear hz0 hz1 hz2 hy0 hy1 hy2 n1 hW1 HX HB h0 h1 h2 hx
      obtain ⟨hz0, hz1, hz2, hy0, hy1, hy2⟩ := blk_facts3 HK1.out
      cases hb : rowB id dp tx with
      | false =>
        rw [hb] at HA2
        simp only [Bool.false_eq_true, false_and, if_false] at HA2
        replace HA2 := Aside0.mk HA2
        go_wp2_with (go_at_call 32; refine (rowOk_b id dp tx _ (HT.out.below HB1.out)).mono ?_; rw [hb]; rintro e w5 ⟨rfl, hbl⟩; have HB5 := Aside0.mk (below_step HB1.out hbl); have HK5 := Aside0.mk (show RBox gb id dp tx w5 from blk_below HK1.out hbl); have HX5 := Aside0.mk (show TBox w.heap.size _ w5 from blk_below HX1.out hbl); obtain ⟨hz0, hz1, hz2, hy0, hy1, hy2⟩ := blk_facts3 HK5.out; clear hbl)
        go_ret
        exact ⟨by rw [← HA2.out]; rfl, HB5.out⟩
      | true =>
        obtain ⟨⟨b1, b2⟩, b3, b4⟩ := rowB_bounds hb
        obtain ⟨n, rfl⟩ := Int.eq_ofNat_of_zero_le b1
        have hn : n < 37 := by omega
        rw [hb] at HA2
        by_cases hs : (n : Int) ∈ (l0.take i).map (·.f0)
        · rw [if_neg (fun h => h.2.1 hs)] at HA2
          replace HA2 := Aside0.mk HA2
          go_wp2_with (go_at_call 32; refine (rowOk_b n dp tx _ (HT.out.below HB1.out)).mono ?_; rw [hb]; rintro e w5 ⟨rfl, hbl⟩; have HB5 := Aside0.mk (below_step HB1.out hbl); have HK5 := Aside0.mk (show RBox gb n dp tx w5 from blk_below HK1.out hbl); have HX5 := Aside0.mk (show TBox w.heap.size _ w5 from blk_below HX1.out hbl); obtain ⟨hz0, hz1, hz2, hy0, hy1, hy2⟩ := blk_facts3 HK5.out; have hk : w5.cell? ⟨w.heap.size, n, none⟩ = some (.int .i64 1) := (blk_cell HX5.out n).trans ((times_at _ n hn).trans (by rw [if_pos hs])); clear hbl)
          go_ret
          exact ⟨by rw [← HA2.out]; rfl, HB5.out⟩
        · have hw : IntKind.i64.wrap (de + 1) = de + 1 := wrap_id (by omega)
          by_cases hd : dp ≤ de + 1
          · have c2 : decide (de + 1 < dp) = false := decide_eq_false (by omega)
            rw [if_pos ⟨rfl, hs, hd⟩] at HA2
            replace HA2 := Aside0.mk HA2
            go_upto_region 10 with (go_at_call 32; refine (rowOk_b n dp tx _ (HT.out.below HB1.out)).mono ?_; rw [hb]; rintro e w5 ⟨rfl, hbl⟩; have HB5 := Aside0.mk (below_step HB1.out hbl); have HK5 := Aside0.mk (show RBox gb n dp tx w5 from blk_below HK1.out hbl); have HX5 := Aside0.mk (show TBox w.heap.size _ w5 from blk_below HX1.out hbl); obtain ⟨hz0, hz1, hz2, hy0, hy1, hy2⟩ := blk_facts3 HK5.out; have hk : w5.cell? ⟨w.heap.size, n, none⟩ = some (.int .i64 0) := (blk_cell HX5.out n).trans ((times_at _ n hn).trans (by rw [if_neg hs])); have hf := blk_frozen HX5.out n; clear hbl)
            have n1 := Aside0.mk (show RBox gb n dp tx (w5.setCell ⟨w.heap.size, n, none⟩ (.int .i64 1)) ∧ TBox w.heap.size ((l0.take i).map (·.f0) ++ [(n : Int)]) (w5.setCell ⟨w.heap.size, n, none⟩ (.int .i64 1)) ∧ Below w.heap.size w (w5.setCell ⟨w.heap.size, n, none⟩ (.int .i64 1)) from ⟨blk_far HK5.out (Nat.ne_of_gt n2.out) _, blk_put HX5.out n _ (times_put _ n hn), below_set HB5.out (Nat.le_refl _)⟩)
            obtain ⟨W6, hW6⟩ : ∃ W6, W6 = (w5.setCell ⟨w.heap.size, n, none⟩ (.int .i64 1)) := ⟨_, rfl⟩
            rw [← hW6] at n1 ⊢
            obtain ⟨HK6, HX6, HB6⟩ := n1.out
            replace HK6 := Aside0.mk HK6
            replace HX6 := Aside0.mk HX6
            replace HB6 := Aside0.mk HB6
            clear hz0 hz1 hz2 hy0 hy1 hy2 n1 hW6 HX5 HB5 HK5 hk hf
            obtain ⟨hz0, hz1, hz2, hy0, hy1, hy2⟩ := blk_facts3 HK6.out
            have HT2 : Aside0 ((l0.take (i + 1)).map (·.f0) = (l0.take i).map (·.f0) ++ [(n : Int)]) := ⟨by rw [List.take_succ_eq_append_getElem hi, hid]; simp⟩
            have HN2 : Aside0 (((l0.take i).map (·.f0) ++ [(n : Int)]).Nodup ∧ ∀ x ∈ (l0.take i).map (·.f0) ++ [(n : Int)], 0 ≤ x ∧ x < 37) := ⟨⟨List.nodup_append.2 ⟨HN.out.1, by simp, by intro a ha b hb2 e; simp at hb2; subst hb2; subst e; exact hs ha⟩, fun x hx => by
              rcases List.mem_append.1 hx with h | h
              · exact HN.out.2 x h
              · simp at h; omega⟩⟩
            have hi37 := few 37 _ HN2.out.1 HN2.out.2
            simp only [List.length_append, List.length_map, List.length_take, List.length_cons, List.length_nil] at hi37
            have hw3 : IntKind.i64.wrap ((i : Int) + 1) = ((i + 1 : Nat) : Int) := wrap_id (by omega)
            have hw4 : IntKind.i64.wrap (ro + 1) = ro + 1 := wrap_id (by omega)
            have hr3 : rootB n = true → (n : Int) ≤ 3 := fun h => (rootB_iff.1 h).2
            replace hr3 := Aside0.mk hr3
            cases hrt : rootB n with
            | false =>
              go_wp2_with (go_at_call 33; refine (isRoot_b n _ (HT.out.below HB6.out)).mono ?_; rw [hrt]; rintro e w7 ⟨rfl, hbl⟩; have HB7 := Aside0.mk (below_step HB6.out hbl); have HK7 := Aside0.mk (show RBox gb n dp tx w7 from blk_below HK6.out hbl); have HX7 := Aside0.mk (show TBox w.heap.size _ w7 from blk_below HX6.out hbl); obtain ⟨hz0, hz1, hz2, hy0, hy1, hy2⟩ := blk_facts3 HK7.out; clear hbl)
              go_roundg (l0.length - (i + 1) + 1)
              case measure => have := HQ.out; omega
              case rel => exact ⟨i + 1, ro, dp, rfl, rfl, by simp, ⟨by omega⟩, ⟨rfl⟩, ⟨by rw [HT2.out, ← HA2.out, if_neg (by rw [hrt]; decide)]⟩, ⟨by rw [HT2.out]; exact HX7.out⟩, HB7, ⟨by omega⟩, ⟨by rw [HT2.out]; exact HN2.out⟩⟩
            | true =>
              by_cases he : (n : Int) = ro + 1
              · have c4 : ((n : Int) == ro + 1) = true := beq_iff_eq.2 he
                have c5 : ((n : Int) != ro + 1) = false := bne_eq_false_iff_eq.2 he
                replace he := Aside0.mk he
                go_wp2_with (go_at_call 33; refine (isRoot_b n _ (HT.out.below HB6.out)).mono ?_; rw [hrt]; rintro e w7 ⟨rfl, hbl⟩; have HB7 := Aside0.mk (below_step HB6.out hbl); have HK7 := Aside0.mk (show RBox gb n dp tx w7 from blk_below HK6.out hbl); have HX7 := Aside0.mk (show TBox w.heap.size _ w7 from blk_below HX6.out hbl); obtain ⟨hz0, hz1, hz2, hy0, hy1, hy2⟩ := blk_facts3 HK7.out; clear hbl)
                go_roundg (l0.length - (i + 1) + 1)
                case measure => have := HQ.out; omega
                case rel => exact ⟨i + 1, ro + 1, dp, rfl, rfl, by simp, ⟨by omega⟩, ⟨rfl⟩, ⟨by rw [HT2.out, ← HA2.out, if_pos hrt, if_pos he.out]⟩, ⟨by rw [HT2.out]; exact HX7.out⟩, HB7, ⟨by have := hr3.out hrt; have := he.out; omega⟩, ⟨by rw [HT2.out]; exact HN2.out⟩⟩
              · have c4 : ((n : Int) == ro + 1) = false := beq_eq_false_iff_ne.2 he
                have c5 : ((n : Int) != ro + 1) = true := bne_iff_ne.2 he
                replace he := Aside0.mk he
                go_wp2_with (go_at_call 33; refine (isRoot_b n _ (HT.out.below HB6.out)).mono ?_; rw [hrt]; rintro e w7 ⟨rfl, hbl⟩; have HB7 := Aside0.mk (below_step HB6.out hbl); have HK7 := Aside0.mk (show RBox gb n dp tx w7 from blk_below HK6.out hbl); have HX7 := Aside0.mk (show TBox w.heap.size _ w7 from blk_below HX6.out hbl); obtain ⟨hz0, hz1, hz2, hy0, hy1, hy2⟩ := blk_facts3 HK7.out; clear hbl)
                go_ret
                exact ⟨by rw [← HA2.out, if_pos hrt, if_neg he.out]; rfl, HB7.out⟩
          · have c2 : decide (de + 1 < dp) = true := decide_eq_true (by omega)
            rw [if_neg (fun h => hd h.2.2)] at HA2
            replace HA2 := Aside0.mk HA2
            go_wp2_with (go_at_call 32; refine (rowOk_b n dp tx _ (HT.out.below HB1.out)).mono ?_; rw [hb]; rintro e w5 ⟨rfl, hbl⟩; have HB5 := Aside0.mk (below_step HB1.out hbl); have HK5 := Aside0.mk (show RBox gb n dp tx w5 from blk_below HK1.out hbl); have HX5 := Aside0.mk (show TBox w.heap.size _ w5 from blk_below HX1.out hbl); obtain ⟨hz0, hz1, hz2, hy0, hy1, hy2⟩ := blk_facts3 HK5.out; have hk : w5.cell? ⟨w.heap.size, n, none⟩ = some (.int .i64 0) := (blk_cell HX5.out n).trans ((times_at _ n hn).trans (by rw [if_neg hs])); clear hbl)
            go_ret
            exact ⟨by rw [← HA2.out]; rfl, HB5.out⟩
    · have c1 : decide ((i : Int) < (l0.length : Int)) = false := decide_eq_false (by omega)
      have HA2 := HA.out
      rw [List.drop_eq_nil_of_le (by omega)] at HA2
      simp only [tok] at HA2
      go_wp2
      go_ret
      exact ⟨rfl, HB.out⟩
end Go.Proofs.YtdapbpgooehibaaDoor
