/- The pure statement of the law FnTreeText: at every two codes, two valid drawn outlines are the same just if their texts are, and a text has one line for each row. No further condition. -/
import Derived.Test.YtdapbpgooehibaaDoorPx10
import Derived.Test.YtdapbpgooehibaaDoorBaseTreeD
import Derived.Test.YtdapbpgooehibaaDoorBaseTreeTxt
namespace Go.Proofs.YtdapbpgooehibaaDoor.Pure
open Go.RowKit Go.Proofs.YtdapbpgooehibaaDoor Go.Proofs.YtdapbpgooehibaaDoor.P Go.Proofs.YtdapbpgooehibaaDoorW.PrintWords Go.Proofs.YtdapbpgooehibaaDoorW.PrintLast
set_option linter.unusedVariables false
set_option linter.unusedSimpArgs false

open Classical
theorem text_valid {t : List S29} (hv : tok t [] 0 (-1) = true) : treeText t = linesB t := by unfold treeText; rw [if_pos hv]; rfl
theorem text_same {t u : List S29} (hv : tok t [] 0 (-1) = true) (hu : tok u [] 0 (-1) = true) : ((treeText t).toList == (treeText u).toList) = decide (t = u) := by
  rw [Bool.eq_iff_iff, beq_iff_eq, decide_eq_true_iff]
  constructor
  · intro h
    rw [Lib.toList_data, Lib.toList_data, text_valid hv, text_valid hu] at h
    exact treeTxt_inj (valid_rows hv) (valid_rows hu) h
  · intro h; rw [h]
theorem count_take (l : List UInt8) {i : Nat} (h : i < l.length) : (l.take (i + 1)).count 10 = (l.take i).count 10 + (if l[i] = 10 then 1 else 0) := by
  rw [List.take_succ_eq_append_getElem h, List.count_append, List.count_cons, List.count_nil]
  by_cases e : l[i] = 10 <;> simp [e]
theorem lines_loop (t u : List S29) (ht : Drawn t) (hv : tok t [] 0 (-1) = true) (hu : tok u [] 0 (-1) = true) : ∀ (d i : Nat), i + d = (treeText t).size → Ev (fun k => laws_FnTreeText.l0 k t u (treeText t) (treeText u) (((treeText t).data.toList.take i).count 10 : Nat) (i : Int)) true := by
  have h2 := ht.2.1
  have hz : (treeText t).size ≤ 520 := by
    rw [text_valid hv, linesB_size]
    have := treeTxt_len hv t.length (by omega)
    rw [List.take_length] at this; omega
  have hlen : (treeText t).data.toList.length = (treeText t).size := by simp
  intro d
  induction d with
  | zero =>
    intro i hi
    refine Ev.step (fun k => by simp only [laws_FnTreeText.l0]; rw [if_neg (by omega)]) (Ev.bind (lpRows_ev t u ht.fits.1) (Ev.pos ?_ (Ev.pure ?_)))
    · rw [text_same hv hu]; simp
    · rw [List.take_of_length_le (by omega), beq_iff_eq]
      have e : ((treeText t).data.toList).count 10 = t.length := by rw [text_valid hv]; exact tree_lines (valid_rows hv)
      rw [e]
  | succ d ih =>
    intro i hi
    have hlt : i < (treeText t).size := by omega
    have hll : i < (treeText t).data.toList.length := by omega
    have hc : ((treeText t).data.toList.take i).count 10 ≤ i := Nat.le_trans List.count_le_length (by simp; omega)
    have hs := count_take (treeText t).data.toList hll
    have hb : bt (treeText t) (i : Int) = ((treeText t).data.toList[i].toNat : Int) := by
      rw [bt_get _ i hlt, Lib.toList_data, List.getElem?_eq_getElem hll]; rfl
    refine Ev.step (fun k => by simp only [laws_FnTreeText.l0]; rw [if_pos (by omega), if_pos (by omega), wrap64_id (a := (i : Int) + 1) (by omega), wrap64_id (a := (((treeText t).data.toList.take i).count 10 : Int) + 1) (by omega)]) ?_
    by_cases h : (treeText t).data.toList[i] = 10
    · rw [if_pos h] at hs
      have := ih (i + 1) (by omega)
      rw [hs] at this
      exact Ev.pos (by rw [hb, h]; rfl) this
    · rw [if_neg h] at hs
      have := ih (i + 1) (by omega)
      rw [hs] at this
      refine Ev.neg ?_ this
      rw [hb]
      intro c
      exact h (UInt8.toNat_inj.1 (by have : (10 : UInt8).toNat = 10 := rfl; omega))
theorem j1_true (t u : List S29) (ht : Drawn t) : Ev (fun k => laws_FnTreeText.j1 k t u (treeText t) (treeText u) true) true := by
  refine Ev.step (fun k => by simp only [laws_FnTreeText.j1]; rw [if_pos trivial]) ?_
  exact Ev.bind (specTreeText_ev t ht.fits) (Ev.pure (beq_self_eq_true _))
theorem FnTreeText : laws_FnTreeText.Pure := by
  intro l0 l1 _ h0 _ h1
  apply Ev.rounds
  unfold laws_FnTreeText.f
  by_cases c0 : (l0.length : Int) > 1048576
  · refine Ev.pos c0 (Ev.step (f := fun _ => some true) (fun k => ?_) (Ev.pure rfl))
    simp only [laws_FnTreeText.j0]; rw [if_pos trivial]
  refine Ev.neg c0 ?_
  by_cases c1 : (l1.length : Int) > 1048576
  · refine Ev.step (f := fun _ => some true) (fun k => ?_) (Ev.pure rfl)
    simp only [laws_FnTreeText.j0]; rw [if_pos (decide_eq_true c1)]
  obtain ⟨t, hd, ht⟩ := drawTreeText_ev l0 h0
  obtain ⟨u, hd', hu⟩ := drawTreeOk_ev l1 h1
  refine Ev.step (fun k => by simp only [laws_FnTreeText.j0]; rw [if_neg (by simpa using c1)]) ?_
  refine Ev.bind hd (Ev.bind hd' (Ev.bindc (show impl_TreeText.f t = some (treeText t) from rfl) (Ev.bindc (show impl_TreeText.f u = some (treeText u) from rfl) (Ev.bind (specTreeText_ev t ht.fits) (Ev.pos rfl ?_)))))
  cases hv : tok t [] 0 (-1) with
  | false => exact Ev.pos (text_nil.2 hv) (j1_true t u ht)
  | true =>
    refine Ev.neg (fun c => by rw [text_nil, hv] at c; cases c) ?_
    cases hw : tok u [] 0 (-1) with
    | false =>
      rw [beq_iff_eq.2 (text_nil.2 hw)]
      exact j1_true t u ht
    | true =>
      rw [beq_eq_false_iff_ne.2 (fun c => by rw [text_nil, hw] at c; cases c)]
      refine Ev.step (fun k => by simp only [laws_FnTreeText.j1]; rw [if_neg (by decide)]) ?_
      have := lines_loop t u ht hv hw (treeText t).size 0 (by omega)
      simpa using this
end Go.Proofs.YtdapbpgooehibaaDoor.Pure
