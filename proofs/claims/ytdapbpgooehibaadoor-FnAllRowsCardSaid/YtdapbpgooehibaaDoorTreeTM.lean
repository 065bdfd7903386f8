/- Plain words on the lines of an outline: valid outlines have the same lines just if they are the same; there is one line for each row. No Go, no memory. -/
import Derived.Test.YtdapbpgooehibaaDoorTreeXM
namespace Go.Proofs.YtdapbpgooehibaaDoor
open Go.RowKit Go.Proofs.YtdapbpgooehibaaDoorW.PrintWords Go.Proofs.YtdapbpgooehibaaDoorW.PrintLast Go.Proofs.YtdapbpgooehibaaDoor.P OpTxt
set_option linter.unusedVariables false
set_option linter.unusedSimpArgs false

theorem split_first {α : Type} {c : α} : ∀ {a a' b b' : List α}, c ∉ a → c ∉ a' → a ++ c :: b = a' ++ c :: b' → a = a' ∧ b = b'
  | [], [], b, b', _, _, h => by simpa using h
  | [], y :: ys, b, b', _, h2, h => by
    simp only [List.nil_append, List.cons_append, List.cons.injEq] at h
    exact absurd (by rw [h.1]; exact List.mem_cons_self ..) h2
  | x :: xs, [], b, b', h1, _, h => by
    simp only [List.nil_append, List.cons_append, List.cons.injEq] at h
    exact absurd (by rw [h.1]; exact List.mem_cons_self ..) h1
  | x :: xs, y :: ys, b, b', h1, h2, h => by
    simp only [List.cons_append, List.cons.injEq] at h
    obtain ⟨e1, e2⟩ := split_first (fun m => h1 (List.mem_cons_of_mem _ m)) (fun m => h2 (List.mem_cons_of_mem _ m)) h.2
    exact ⟨by rw [h.1, e1], e2⟩
theorem split_dots {α : Type} {c : α} : ∀ {n m : Nat} {x y : α} {a b : List α}, x ≠ c → y ≠ c → List.replicate n c ++ x :: a = List.replicate m c ++ y :: b → n = m ∧ x :: a = y :: b
  | 0, 0, _, _, _, _, _, _, h => ⟨rfl, by simpa using h⟩
  | 0, m + 1, x, y, a, b, h1, _, h => by
    simp only [List.replicate_zero, List.nil_append, List.replicate_succ, List.cons_append, List.cons.injEq] at h
    exact absurd h.1 h1
  | n + 1, 0, x, y, a, b, _, h2, h => by
    simp only [List.replicate_zero, List.nil_append, List.replicate_succ, List.cons_append, List.cons.injEq] at h
    exact absurd h.1.symm h2
  | n + 1, m + 1, x, y, a, b, h1, h2, h => by
    simp only [List.replicate_succ, List.cons_append, List.cons.injEq, true_and] at h
    obtain ⟨e1, e2⟩ := split_dots h1 h2 h
    exact ⟨by rw [e1], e2⟩
theorem dig_tell : ∀ n : Nat, n < 100 → (10 : UInt8) ∉ dig2 n ∧ (dig2 n).headD 46 ≠ 46 ∧ dig2 n ≠ [] := by decide
theorem dig_inj {n m : Nat} (hn : n < 100) (hm : m < 100) (h : dig2 n = dig2 m) : n = m := by
  have h1 := (num_dig2 n hn).1
  have h2 := (num_dig2 m hm).1
  rw [h, h2] at h1; omega
theorem textB_free {t : ByteArray} (h : textB t = true) (c : UInt8) (hc : c.toNat < 97) : c ∉ t.data.toList := by
  intro hm
  unfold textB at h
  simp only [Bool.and_eq_true, List.all_eq_true, decide_eq_true_eq] at h
  have := h.2 c (by rw [Lib.toList_data]; exact hm)
  omega
theorem rowB_free {id d : Int} {t : ByteArray} (h : rowB id d t = true) (c : UInt8) (hc : c.toNat < 97) : c ∉ t.data.toList := by
  unfold rowB at h
  split at h
  · simp only [Bool.and_eq_true] at h
    have h2 := h.2
    rw [Lib.toList_data] at h2
    rw [List.isEmpty_iff.1 h2]; simp
  · simp only [Bool.and_eq_true] at h
    exact textB_free h.2 c hc
/-- A row's line without its end. -/
def coreTxt (d id : Int) (t : List UInt8) : List UInt8 := List.replicate d.toNat 46 ++ dig2 id.toNat ++ (if t = [] then [] else 32 :: t)
theorem rowTxt_core (d id : Int) (t : List UInt8) : rowTxt d id t = coreTxt d id t ++ [10] := rfl
theorem core_free {id d : Int} {t : ByteArray} (h : rowB id d t = true) : (10 : UInt8) ∉ coreTxt d id t.data.toList := by
  have h1 := rowB_bounds h
  have h2 := rowB_free h 10 (by decide)
  have h3 := (dig_tell id.toNat (by omega)).1
  intro hm
  unfold coreTxt at hm
  rcases List.mem_append.1 hm with hm | hm
  · rcases List.mem_append.1 hm with hm | hm
    · have := (List.mem_replicate.1 hm).2; revert this; decide
    · exact h3 hm
  · split at hm
    · cases hm
    · rcases List.mem_cons.1 hm with e | e
      · revert e; decide
      · exact h2 e
theorem core_inj {id d id' d' : Int} {t t' : ByteArray} (h : rowB id d t = true) (h' : rowB id' d' t' = true) (e : coreTxt d id t.data.toList = coreTxt d' id' t'.data.toList) : id = id' ∧ d = d' ∧ t = t' := by
  have b1 := rowB_bounds h
  have b2 := rowB_bounds h'
  obtain ⟨_, a2, a3⟩ := dig_tell id.toNat (by omega)
  obtain ⟨_, c2, c3⟩ := dig_tell id'.toNat (by omega)
  unfold coreTxt at e
  obtain ⟨x, xs, hx⟩ : ∃ x xs, dig2 id.toNat = x :: xs := by cases hd : dig2 id.toNat with
    | nil => exact absurd hd a3
    | cons x xs => exact ⟨x, xs, rfl⟩
  obtain ⟨y, ys, hy⟩ : ∃ y ys, dig2 id'.toNat = y :: ys := by cases hd : dig2 id'.toNat with
    | nil => exact absurd hd c3
    | cons x xs => exact ⟨x, xs, rfl⟩
  rw [List.append_assoc, List.append_assoc, hx, hy, List.cons_append, List.cons_append] at e
  obtain ⟨e1, e2⟩ := split_dots (by rw [hx] at a2; exact a2) (by rw [hy] at c2; exact c2) e
  rw [← List.cons_append, ← List.cons_append, ← hx, ← hy] at e2
  have f1 := (num_dig2 id.toNat (by omega)).2
  have f2 := (num_dig2 id'.toNat (by omega)).2
  have hd : d = d' := by omega
  by_cases t1 : t.data.toList = []
  · by_cases t2 : t'.data.toList = []
    · rw [if_pos t1, if_pos t2, List.append_nil, List.append_nil] at e2
      have := dig_inj (by omega) (by omega) e2
      exact ⟨by omega, hd, by cases t; cases t'; congr 1; exact Array.toList_inj.1 (t1.trans t2.symm)⟩
    · rw [if_pos t1, if_neg t2, List.append_nil] at e2
      exact absurd (by rw [e2]; simp) f1
  · by_cases t2 : t'.data.toList = []
    · rw [if_neg t1, if_pos t2, List.append_nil] at e2
      exact absurd (by rw [← e2]; simp) f2
    · rw [if_neg t1, if_neg t2] at e2
      obtain ⟨q1, q2⟩ := split_first f1 f2 e2
      have := dig_inj (by omega) (by omega) q1
      exact ⟨by omega, hd, by cases t; cases t'; congr 1; exact Array.toList_inj.1 q2⟩
/-- Rows with the same lines are the same. -/
theorem treeTxt_inj : ∀ {a b : List S29}, (∀ x ∈ a, rowB x.f0 x.f1 x.f2 = true) → (∀ x ∈ b, rowB x.f0 x.f1 x.f2 = true) → treeTxt a = treeTxt b → a = b
  | [], [], _, _, _ => rfl
  | [], y :: ys, _, _, h => by rw [treeTxt_cons, treeTxt_nil, rowTxt_core] at h; simp at h
  | x :: xs, [], _, _, h => by rw [treeTxt_cons, treeTxt_nil, rowTxt_core] at h; simp at h
  | x :: xs, y :: ys, h1, h2, h => by
    have hx := h1 x (List.mem_cons_self ..)
    have hy := h2 y (List.mem_cons_self ..)
    rw [treeTxt_cons, treeTxt_cons, rowTxt_core, rowTxt_core, List.append_assoc, List.append_assoc] at h
    obtain ⟨e1, e2⟩ := split_first (core_free hx) (core_free hy) h
    obtain ⟨q1, q2, q3⟩ := core_inj hx hy e1
    have := treeTxt_inj (fun z hz => h1 z (List.mem_cons_of_mem _ hz)) (fun z hz => h2 z (List.mem_cons_of_mem _ hz)) e2
    rw [this]
    cases x; cases y
    simp only at q1 q2 q3
    rw [q1, q2, q3]
theorem row_lines {id d : Int} {t : ByteArray} (h : rowB id d t = true) : (rowTxt d id t.data.toList).count 10 = 1 := by
  rw [rowTxt_core, List.count_append, List.count_eq_zero.2 (core_free h)]; rfl
theorem tree_lines : ∀ {a : List S29}, (∀ x ∈ a, rowB x.f0 x.f1 x.f2 = true) → (treeTxt a).count 10 = a.length
  | [], _ => rfl
  | x :: xs, h => by
    rw [treeTxt_cons, List.count_append, row_lines (h x (List.mem_cons_self ..)), tree_lines (fun z hz => h z (List.mem_cons_of_mem _ hz)), List.length_cons]; omega
theorem valid_rows {l : List S29} (hv : tok l [] 0 (-1) = true) : ∀ x ∈ l, rowB x.f0 x.f1 x.f2 = true := fun x hx => by
  obtain ⟨i, hi, rfl⟩ := List.getElem_of_mem hx
  have := valid_row hv hi
  unfold idAt depthAt textAt at this
  rw [rowAt_get hi] at this; exact this
theorem text_nil {l : List S29} : (treeText l).toList = ([] : List UInt8) ↔ tok l [] 0 (-1) = false := by
  unfold treeText
  cases hv : tok l [] 0 (-1) with
  | false => rw [if_neg (by decide)]; simp [Lib.toList_data]
  | true =>
    rw [if_pos rfl, Lib.toList_data]
    constructor
    · intro e
      have h0 : treeTxt l = [] := e
      cases l with
      | nil => cases hv
      | cons x r => rw [treeTxt_cons, rowTxt_core] at h0; simp at h0
    · intro e; cases e
end Go.Proofs.YtdapbpgooehibaaDoor
