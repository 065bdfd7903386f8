/- The reference's lines of an outline: they answer by the plain words 'treeTxt' and 'treeText'; the laws' word on same rows. Conditions: rows as Go can hold them. -/
import Derived.Test.YtdapbpgooehibaaDoorBaseShow
import Derived.Test.YtdapbpgooehibaaDoorBaseRows
import Derived.Test.YtdapbpgooehibaaDoorTreeTM
import Derived.Test.YtdapbpgooehibaaDoorPx3
import Derived.Test.YtdapbpgooehibaaDoorPx3
import Derived.Test.YtdapbpgooehibaaDoorPx3
namespace Go.Proofs.YtdapbpgooehibaaDoor.P
open Go.RowKit Go.Proofs.YtdapbpgooehibaaDoorW.PrintWords Go.Proofs.YtdapbpgooehibaaDoorW.PrintLast Go.Proofs.YtdapbpgooehibaaDoor.OpTxt
set_option linter.unusedVariables false
set_option linter.unusedSimpArgs false

theorem rd_line (l : List S29) {i : Nat} (hi : i < l.length) : rd_T29 l (i : Int) = rowAt l i := by simp [rd_T29, rowAt, hi]
/-- So many dots. -/
def dotsB (d : Int) : ByteArray := ⟨(List.replicate d.toNat 46).toArray⟩
theorem many_some : ∀ n : Nat, n < 19 → spec_l6Many.f 7 (⟨#[46]⟩ : ByteArray) (n : Int) = some (dotsB n) := by decide +kernel
theorem many_ev (d : Int) (h : 0 ≤ d ∧ d ≤ 18) : Ev (fun k => spec_l6Many.f k (⟨#[46]⟩ : ByteArray) d) (dotsB d) := by
  obtain ⟨m, rfl⟩ := Int.eq_ofNat_of_zero_le h.1
  exact Ev.of (fun k => spec_l6Many.mono _ _ k) (k := 7) (many_some m (by omega))
theorem dotsB_size (d : Int) : (dotsB d).size = d.toNat := by show (List.replicate d.toNat (46 : UInt8)).toArray.size = _; simp
/-- The lines of the first rows, as bytes. -/
def linesB (l : List S29) : ByteArray := ⟨(treeTxt l).toArray⟩
theorem linesB_size (l : List S29) : (linesB l).size = (treeTxt l).length := by show (treeTxt l).toArray.size = _; simp
theorem text_loop (l : List S29) (hl : l.length ≤ 1099511627776) (hv : tok l [] 0 (-1) = true) : ∀ (d i : Nat), i + d = l.length → Ev (fun k => spec_l2Text.l0 k l (linesB (l.take i)) (i : Int)) (linesB l) := by
  intro d
  induction d with
  | zero =>
    intro i hi
    exact Ev.step (f := fun _ => some (linesB (l.take i))) (fun k => by simp only [spec_l2Text.l0]; rw [if_neg (by omega)]) (Ev.pure (by rw [List.take_of_length_le (by omega)]))
  | succ d ih =>
    intro i hi
    have hlt : i < l.length := by omega
    have hr := valid_row hv hlt
    have hb := rowB_bounds hr
    have hs := rowB_text hr
    have hz := treeTxt_len hv i (by omega)
    have z1 : (linesB (l.take i)).size = (treeTxt (l.take i)).length := linesB_size _
    have z2 := dotsB_size (depthAt l i)
    have z3 := decB_size (idAt l i)
    have z4 : (⟨#[10]⟩ : ByteArray).size = 1 := rfl
    have z5 : (⟨#[32]⟩ : ByteArray).size = 1 := rfl
    have e := treeTxt_take l hlt
    refine Ev.step (fun k => by simp only [spec_l2Text.l0]; rw [if_pos (by omega), if_pos (by omega), rd_line l hlt, wrap_succ i (by omega)]) ?_
    refine Ev.bind (many_ev (depthAt l i) hb.2) (Ev.pos (by rw [z1, z2]; omega) (Ev.bind (dec_ev (idAt l i) ⟨hb.1.1, by omega⟩) (Ev.pos (by simp only [ByteArray.size_append]; omega) ?_)))
    by_cases ht : (textAt l i).toList = ([] : List UInt8)
    · refine Ev.pos ht (Ev.pos (by simp only [ByteArray.size_append]; omega) ?_)
      have h := ih (i + 1) (by omega)
      have e2 : linesB (l.take (i + 1)) = linesB (l.take i) ++ dotsB (depthAt l i) ++ decB (idAt l i) ++ (⟨#[10]⟩ : ByteArray) := ba_eq (by
        rw [Lib.toList_data] at ht
        show treeTxt (l.take (i + 1)) = _
        rw [e]
        unfold rowTxt
        rw [if_pos ht]
        simp [ByteArray.data_append, linesB, dotsB, decB])
      rw [e2] at h
      exact h
    · refine Ev.neg ht (Ev.pos (by simp only [ByteArray.size_append]; omega) (Ev.pos (by simp only [ByteArray.size_append]; show _ + (textAt l i).size ≤ _; omega) (Ev.pos (by simp only [ByteArray.size_append]; show _ + (textAt l i).size + _ ≤ _; omega) ?_)))
      have h := ih (i + 1) (by omega)
      have e2 : linesB (l.take (i + 1)) = linesB (l.take i) ++ dotsB (depthAt l i) ++ decB (idAt l i) ++ (⟨#[32]⟩ : ByteArray) ++ textAt l i ++ (⟨#[10]⟩ : ByteArray) := ba_eq (by
        rw [Lib.toList_data] at ht
        show treeTxt (l.take (i + 1)) = _
        rw [e]
        unfold rowTxt
        rw [if_neg ht]
        simp [ByteArray.data_append, linesB, dotsB, decB])
      rw [e2] at h
      exact h
theorem specTreeText_ev (l : List S29) (hl : RowsFit l) : Ev (fun k => spec_TreeText.f k l) (treeText l) := by
  unfold spec_TreeText.f treeText
  refine Ev.bind (specTreeOk_ev l hl) ?_
  by_cases hv : tok l [] 0 (-1) = true
  · rw [if_pos hv]
    refine Ev.pos hv (Ev.bind (a := linesB l) ?_ (Ev.pure rfl))
    unfold spec_l2Text.f
    have := text_loop l hl.1 hv l.length 0 (by omega)
    exact this
  · rw [if_neg hv]
    exact Ev.neg hv (Ev.pure rfl)
end Go.Proofs.YtdapbpgooehibaaDoor.P
