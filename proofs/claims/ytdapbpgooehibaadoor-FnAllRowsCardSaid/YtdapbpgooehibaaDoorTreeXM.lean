/- Plain words: a row's kids stand one behind the other, from the place behind it up to its end; the lines of an outline. No Go, no memory; conditions: those named. -/
import Derived.Test.YtdapbpgooehibaaDoorTreeV
import Derived.Test.YtdapbpgooehibaaDoorOpTxtM
namespace Go.Proofs.YtdapbpgooehibaaDoor
open Go.RowKit Go.Proofs.YtdapbpgooehibaaDoorW.PrintWords Go.Proofs.YtdapbpgooehibaaDoorW.PrintLast Go.Proofs.YtdapbpgooehibaaDoor.P
set_option linter.unusedVariables false
set_option linter.unusedSimpArgs false
namespace Tree
/-- How far a row's kids have come. -/
def upto (D : Nat → Int) (n i : Nat) (ks : List Nat) : Nat := match ks.getLast? with
  | none => i + 1
  | some a => endOf D n a
theorem upto_snoc (D : Nat → Int) (n i : Nat) (ks : List Nat) (a : Nat) : upto D n i (ks ++ [a]) = endOf D n a := by simp [upto]
theorem upto_nil (D : Nat → Int) (n i : Nat) : upto D n i [] = i + 1 := rfl
theorem first_kid {D : Nat → Int} {n i : Nat} (hv : Steps D n) (hi : i < n) (h : i + 1 < endOf D n i) : i + 1 ∈ kidsOf D n i := by
  obtain ⟨h1, h2, h3, h4⟩ := endOf_spec (D := D) hi
  have hn : i + 1 < n := by omega
  refine mem_kids.2 ⟨hn, (kid_iff hv hi hn).2 ⟨by omega, h, ?_⟩⟩
  have a := h3 (i + 1) (by omega) h
  have b := hv.2.2 i hn
  omega
theorem next_at {D : Nat → Int} {n i a : Nat} (hv : Steps D n) (hi : i < n) (ha : a ∈ kidsOf D n i) (h : endOf D n a < endOf D n i) : endOf D n a ∈ kidsOf D n i := by
  obtain ⟨an, ap⟩ := mem_kids.1 ha
  obtain ⟨a1, a2, a3⟩ := (kid_iff hv hi an).1 ap
  obtain ⟨h1, h2, h3, h4⟩ := endOf_spec (D := D) hi
  obtain ⟨b1, b2, b3, b4⟩ := endOf_spec (D := D) an
  have hn : endOf D n a < n := by omega
  refine mem_kids.2 ⟨hn, (kid_iff hv hi hn).2 ⟨by omega, h, ?_⟩⟩
  have x := b4 hn
  have y := h3 (endOf D n a) (by omega) h
  omega
theorem after_last {p rest : List Nat} {a j e : Nat} (h : (p ++ [a] ++ j :: rest).Pairwise (· < ·)) (he : e ∈ p ++ [a] ++ j :: rest) (hae : a < e) : j ≤ e := by
  rw [List.pairwise_append] at h
  obtain ⟨h1, h2, h3⟩ := h
  rcases List.mem_append.1 he with he | he
  · rcases List.mem_append.1 he with he | he
    · have := (List.pairwise_append.1 h1).2.2 e he a (by simp); omega
    · simp at he; omega
  · rcases List.mem_cons.1 he with rfl | he
    · exact Nat.le_refl _
    · have := (List.pairwise_cons.1 h2).1 e he; omega
/-- The next kid stands where the last one ends. -/
theorem next_kid {D : Nat → Int} {n i : Nat} (hv : Steps D n) (hi : i < n) {pre rest : List Nat} {j : Nat} (h : kidsOf D n i = pre ++ j :: rest) : j = upto D n i pre := by
  have hj : j ∈ kidsOf D n i := by rw [h]; simp
  have hs := kids_sorted D n i
  obtain ⟨jn, jp⟩ := mem_kids.1 hj
  obtain ⟨j1, j2, j3⟩ := (kid_iff hv hi jn).1 jp
  rcases List.eq_nil_or_concat pre with rfl | ⟨p, a, rfl⟩
  · rw [upto_nil]
    have hm := first_kid hv hi (by omega)
    rw [h] at hm hs
    rcases List.mem_cons.1 hm with e | e
    · exact e.symm
    · have := (List.pairwise_cons.1 hs).1 _ e; omega
  · rw [List.concat_eq_append] at h ⊢
    rw [upto_snoc]
    have ha : a ∈ kidsOf D n i := by rw [h]; simp
    obtain ⟨an, ap⟩ := mem_kids.1 ha
    obtain ⟨a1, a2, a3⟩ := (kid_iff hv hi an).1 ap
    obtain ⟨b1, b2, b3, b4⟩ := endOf_spec (D := D) an
    have haj : a < j := by
      rw [h, List.pairwise_append] at hs
      exact hs.2.2 a (by simp) j (by simp)
    have h1 : endOf D n a ≤ j := by
      rcases Nat.lt_or_ge j (endOf D n a) with c | c
      · have := b3 j haj c; omega
      · exact c
    have hm := next_at hv hi ha (by omega)
    rw [h] at hm hs
    have := after_last hs hm b1
    omega
/-- All kids have come: the row's end. -/
theorem upto_all {D : Nat → Int} {n i : Nat} (hv : Steps D n) (hi : i < n) : upto D n i (kidsOf D n i) = endOf D n i := by
  obtain ⟨h1, h2, h3, h4⟩ := endOf_spec (D := D) hi
  rcases List.eq_nil_or_concat (kidsOf D n i) with e | ⟨p, a, e⟩
  · rw [e, upto_nil]
    rcases Nat.lt_or_ge (i + 1) (endOf D n i) with c | c
    · have := first_kid hv hi c; rw [e] at this; cases this
    · omega
  · rw [List.concat_eq_append] at e
    rw [e, upto_snoc]
    have ha : a ∈ kidsOf D n i := by rw [e]; simp
    obtain ⟨an, ap⟩ := mem_kids.1 ha
    obtain ⟨a1, a2, a3⟩ := (kid_iff hv hi an).1 ap
    obtain ⟨b1, b2, b3, b4⟩ := endOf_spec (D := D) an
    rcases Nat.lt_trichotomy (endOf D n a) (endOf D n i) with c | c | c
    · have hm := next_at hv hi ha c
      have hs := kids_sorted D n i
      rw [e] at hm hs
      rcases List.mem_append.1 hm with q | q
      · have := (List.pairwise_append.1 hs).2.2 _ q a (by simp); omega
      · simp at q; omega
    · exact c
    · have x := b3 (endOf D n i) a2 c
      have y := h4 (by omega)
      omega
end Tree
open OpTxt
/-- The line of a row: dots, its number, its text behind a blank. -/
def rowTxt (d id : Int) (t : List UInt8) : List UInt8 := List.replicate d.toNat 46 ++ dig2 id.toNat ++ (if t = [] then [] else 32 :: t) ++ [10]
/-- The lines of rows. -/
def treeTxt (l : List S29) : List UInt8 := (l.map fun x => rowTxt x.f1 x.f0 x.f2.data.toList).flatten
/-- The text of an outline; nothing, where the rows are none. -/
def treeText (l : List S29) : ByteArray := if tok l [] 0 (-1) = true then ⟨(treeTxt l).toArray⟩ else ⟨#[]⟩
theorem treeTxt_nil : treeTxt [] = [] := rfl
theorem treeTxt_cons (x : S29) (r : List S29) : treeTxt (x :: r) = rowTxt x.f1 x.f0 x.f2.data.toList ++ treeTxt r := by simp [treeTxt]
theorem treeTxt_take (l : List S29) {i : Nat} (hi : i < l.length) : treeTxt (l.take (i + 1)) = treeTxt (l.take i) ++ rowTxt (depthAt l i) (idAt l i) (textAt l i).data.toList := by
  have e : rowAt l i = l[i] := rowAt_get hi
  unfold treeTxt depthAt idAt textAt
  rw [List.take_succ_eq_append_getElem hi, e, List.map_append, List.flatten_append, List.map_cons, List.map_nil, List.flatten_cons, List.flatten_nil, List.append_nil]
theorem textB_len {t : ByteArray} (h : textB t = true) : t.size ≤ 4 := by unfold textB at h; simp only [Bool.and_eq_true, decide_eq_true_eq] at h; exact h.1
theorem rowB_text {id d : Int} {t : ByteArray} (h : rowB id d t = true) : t.size ≤ 4 := by
  unfold rowB at h
  split at h
  · simp only [Bool.and_eq_true] at h
    have h2 := h.2
    rw [Lib.toList_data] at h2
    have h3 := List.isEmpty_iff.1 h2
    have : t.data.toList.length = t.size := by simp
    rw [h3] at this; simp at this; omega
  · simp only [Bool.and_eq_true] at h
    exact textB_len h.2
theorem rowTxt_len {d id : Int} {t : ByteArray} (h : rowB id d t = true) : (rowTxt d id t.data.toList).length ≤ 26 := by
  have h1 := rowB_bounds h
  have h2 := rowB_text h
  have h3 := dig2_len id.toNat
  have h4 : t.data.toList.length = t.size := by simp
  unfold rowTxt
  split <;> simp only [List.length_append, List.length_replicate, List.length_cons, List.length_nil] <;> omega
theorem treeTxt_len {l : List S29} (hv : tok l [] 0 (-1) = true) : ∀ i, i ≤ l.length → (treeTxt (l.take i)).length ≤ 26 * i
  | 0, _ => by simp [treeTxt]
  | i + 1, h => by
    have := treeTxt_len hv i (by omega)
    have := rowTxt_len (valid_row hv (show i < l.length by omega))
    rw [treeTxt_take l (by omega), List.length_append]; omega
/-- A root's number tells how many stand before it. -/
theorem tok_root_id : ∀ (rest : List S29) (seen : List Int) (ro de : Int), tok rest seen ro de = true → ∀ i (h : i < rest.length), rootB rest[i].f0 = true → rest[i].f0 = ro + 1 + ((rest.take i).countP (fun x => rootB x.f0) : Nat)
  | [], _, _, _, _, i, h, _ => by simp at h
  | x :: r, seen, ro, de, ht, i, h, hr => by
    simp only [tok] at ht
    split at ht
    · split at ht
      · rename_i hx
        split at ht
        · rename_i he
          cases i with
          | zero => simp; exact he
          | succ i =>
            have := tok_root_id r _ _ _ ht i (by simpa using h) (by simpa using hr)
            simp only [List.getElem_cons_succ, List.take_succ_cons, List.countP_cons, hx, if_true]
            rw [this]; omega
        · cases ht
      · rename_i hx
        cases i with
        | zero => exact absurd (by simpa using hr) hx
        | succ i =>
          have := tok_root_id r _ _ _ ht i (by simpa using h) (by simpa using hr)
          simp only [List.getElem_cons_succ, List.take_succ_cons, List.countP_cons, eq_false hx, if_false, Nat.add_zero]
          exact this
    · cases ht
/-- How many roots stand before a place. -/
def rootsTo (l : List S29) (i : Nat) : Nat := (l.take i).countP (fun x => rootB x.f0)
theorem rootsTo_succ (l : List S29) {i : Nat} (hi : i < l.length) : rootsTo l (i + 1) = rootsTo l i + if rootB (idAt l i) = true then 1 else 0 := by
  unfold rootsTo idAt
  rw [rowAt_get hi, List.take_succ_eq_append_getElem hi, List.countP_append, List.countP_cons, List.countP_nil, Nat.zero_add]
theorem root_id {l : List S29} (hv : tok l [] 0 (-1) = true) {i : Nat} (hi : i < l.length) (hr : rootB (idAt l i) = true) : idAt l i = 1 + (rootsTo l i : Nat) := by
  have h := tok_root_id l [] 0 (-1) hv i hi (by have e : idAt l i = l[i].f0 := by unfold idAt; rw [rowAt_get hi]
                                                rw [← e]; exact hr)
  have e : idAt l i = l[i].f0 := by unfold idAt; rw [rowAt_get hi]
  rw [e, h]; unfold rootsTo; omega
theorem rootsTo_same {l : List S29} {a : Nat} : ∀ d, a + d ≤ l.length → (∀ k, a ≤ k → k < a + d → rootB (idAt l k) = false) → rootsTo l (a + d) = rootsTo l a
  | 0, _, _ => rfl
  | d + 1, h, hk => by
    have ih := rootsTo_same d (by omega) (fun k h1 h2 => hk k h1 (by omega))
    have e : a + (d + 1) = a + d + 1 := by omega
    have h0 := hk (a + d) (by omega) (by omega)
    rw [e, rootsTo_succ l (by omega), ih, h0]; simp
theorem root_depth {l : List S29} (hv : tok l [] 0 (-1) = true) {i : Nat} (hi : i < l.length) : rootB (idAt l i) = true ↔ depthAt l i ≤ 0 := by
  have h := valid_row hv hi
  unfold rowB at h
  by_cases hr : rootB (idAt l i) = true
  · rw [if_pos hr] at h
    simp only [Bool.and_eq_true, decide_eq_true_eq] at h
    exact ⟨fun _ => by omega, fun _ => hr⟩
  · rw [if_neg hr] at h
    simp only [Bool.and_eq_true, decide_eq_true_eq] at h
    exact ⟨fun e => absurd e hr, fun e => by omega⟩
/-- Behind a root's rows the next root stands, or nothing. -/
theorem next_root {l : List S29} (hv : tok l [] 0 (-1) = true) {r : Nat} (hr : r < l.length) (hrt : rootB (idAt l r) = true) (he : Tree.endOf (depthAt l) l.length r < l.length) :
    rootB (idAt l (Tree.endOf (depthAt l) l.length r)) = true ∧ idAt l (Tree.endOf (depthAt l) l.length r) = idAt l r + 1 := by
  obtain ⟨h1, h2, h3, h4⟩ := Tree.endOf_spec (D := depthAt l) hr
  have hd := (root_depth hv hr).1 hrt
  have hb := rowB_bounds (valid_row hv hr)
  have hd0 : depthAt l r = 0 := by have := hb.2.1; omega
  have hre : rootB (idAt l (Tree.endOf (depthAt l) l.length r)) = true := (root_depth hv he).2 (by have := h4 he; omega)
  refine ⟨hre, ?_⟩
  rw [root_id hv he hre, root_id hv hr hrt]
  have hs := rootsTo_same (l := l) (a := r + 1) (Tree.endOf (depthAt l) l.length r - (r + 1)) (by omega) (fun k k1 k2 => by
    rw [Bool.eq_false_iff]
    intro hk
    have := (root_depth hv (show k < l.length by omega)).1 hk
    have := h3 k (by omega) (by omega)
    omega)
  rw [show r + 1 + (Tree.endOf (depthAt l) l.length r - (r + 1)) = Tree.endOf (depthAt l) l.length r by omega, rootsTo_succ l hr, hrt, if_pos rfl] at hs
  rw [hs]; omega
end Go.Proofs.YtdapbpgooehibaaDoor
