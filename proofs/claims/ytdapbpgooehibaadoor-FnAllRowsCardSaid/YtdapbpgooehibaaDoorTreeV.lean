/- What a valid outline gives: each row is a row, each number is there once, depths go by steps. Plain words; no Go, no memory. -/
import Derived.Test.YtdapbpgooehibaaDoorTreeM
import Derived.Test.YtdapbpgooehibaaDoorTreeOkC
namespace Go.Proofs.YtdapbpgooehibaaDoor
open Go.RowKit Go.Proofs.YtdapbpgooehibaaDoorW.PrintWords Go.Proofs.YtdapbpgooehibaaDoorW.PrintLast Go.Proofs.YtdapbpgooehibaaDoor.P
set_option linter.unusedVariables false
set_option linter.unusedSimpArgs false

def rowAt (l : List S29) (i : Nat) : S29 := l.getD i z29
theorem rowAt_get {l : List S29} {i : Nat} (h : i < l.length) : rowAt l i = l[i] := by simp [rowAt, h]
def depthAt (l : List S29) (i : Nat) : Int := (rowAt l i).f1
def idAt (l : List S29) (i : Nat) : Int := (rowAt l i).f0
def textAt (l : List S29) (i : Nat) : ByteArray := (rowAt l i).f2
/-- The place of a number among the first m rows. -/
def placeOf (l : List S29) (m : Nat) (id : Int) : Option Nat := Tree.firstB (fun i => idAt l i == id) m
theorem tok_rows : ∀ (rest : List S29) (seen : List Int) (ro de : Int), tok rest seen ro de = true → ∀ i (h : i < rest.length), rowB rest[i].f0 rest[i].f1 rest[i].f2 = true ∧ rest[i].f0 ∉ seen ∧ (∀ j (hj : j < i), rest[j].f0 ≠ rest[i].f0) ∧ (i = 0 → rest[i].f1 ≤ de + 1) ∧ ∀ j (hj : j + 1 = i), rest[i].f1 ≤ (rest[j]'(by omega)).f1 + 1
  | [], _, _, _, _, i, h => absurd h (by simp)
  | x :: rest, seen, ro, de, ht, i, h => by
    simp only [tok] at ht
    by_cases hc : rowB x.f0 x.f1 x.f2 = true ∧ x.f0 ∉ seen ∧ x.f1 ≤ de + 1
    · rw [if_pos hc] at ht
      have hnext : ∃ ro', tok rest (seen ++ [x.f0]) ro' x.f1 = true := by
        by_cases h1 : rootB x.f0 = true
        · rw [if_pos h1] at ht
          by_cases h2 : x.f0 = ro + 1
          · rw [if_pos h2] at ht; exact ⟨_, ht⟩
          · rw [if_neg h2] at ht; cases ht
        · rw [if_neg h1] at ht; exact ⟨_, ht⟩
      obtain ⟨ro', hr⟩ := hnext
      cases i with
      | zero => exact ⟨hc.1, hc.2.1, fun j hj => absurd hj (by omega), fun _ => hc.2.2, fun j hj => absurd hj (by omega)⟩
      | succ i =>
        have hi : i < rest.length := by simpa using h
        obtain ⟨k1, k2, k3, k4, k5⟩ := tok_rows rest _ ro' x.f1 hr i hi
        simp only [List.mem_append, List.mem_singleton, not_or] at k2
        refine ⟨k1, k2.1, fun j hj => ?_, fun e => absurd e (by omega), fun j hj => ?_⟩
        · cases j with
          | zero => exact fun e => k2.2 e.symm
          | succ j => exact k3 j (by omega)
        · cases j with
          | zero =>
            have e : i = 0 := by omega
            subst e; exact k4 rfl
          | succ j => exact k5 j (by omega)
    · rw [if_neg hc] at ht; cases ht
theorem valid_row {l : List S29} (h : tok l [] 0 (-1) = true) {i : Nat} (hi : i < l.length) : rowB (idAt l i) (depthAt l i) (textAt l i) = true := by
  unfold idAt depthAt textAt; rw [rowAt_get hi]; exact (tok_rows l [] 0 (-1) h i hi).1
theorem valid_id {l : List S29} (h : tok l [] 0 (-1) = true) {i j : Nat} (hi : i < l.length) (hj : j < l.length) (e : idAt l i = idAt l j) : i = j := by
  unfold idAt at e; rw [rowAt_get hi, rowAt_get hj] at e
  rcases Nat.lt_trichotomy i j with c | c | c
  · exact absurd e ((tok_rows l [] 0 (-1) h j hj).2.2.1 i c)
  · exact c
  · exact absurd e.symm ((tok_rows l [] 0 (-1) h i hi).2.2.1 j c)
theorem valid_steps {l : List S29} (h : tok l [] 0 (-1) = true) : Tree.Steps (depthAt l) l.length := by
  refine ⟨fun i hi => (rowB_bounds (valid_row h hi)).2.1, fun h0 => ?_, fun i hi => ?_⟩
  · have h1 := (rowB_bounds (valid_row h h0)).2.1
    have h2 := (tok_rows l [] 0 (-1) h 0 h0).2.2.2.1 rfl
    have e : depthAt l 0 = l[0].f1 := by unfold depthAt; rw [rowAt_get h0]
    omega
  · have h2 := (tok_rows l [] 0 (-1) h (i + 1) hi).2.2.2.2 i rfl
    unfold depthAt; rw [rowAt_get hi, rowAt_get (by omega)]; exact h2
theorem placeOf_succ {l : List S29} (h : tok l [] 0 (-1) = true) {m : Nat} (hm : m < l.length) (id : Int) : placeOf l (m + 1) id = if id = idAt l m then some m else placeOf l m id := by
  unfold placeOf
  rw [Tree.firstB]
  by_cases e : id = idAt l m
  · rw [if_pos e]
    have hn : Tree.firstB (fun i => idAt l i == id) m = none := Tree.firstB_none.2 fun k hk => by
      simp only [beq_eq_false_iff_ne]
      intro e2
      have := valid_id h (by omega) hm (e2.trans e); omega
    rw [hn]; simp [e]
  · rw [if_neg e]
    cases hf : Tree.firstB (fun i => idAt l i == id) m with
    | some j => rfl
    | none => simp; intro e2; exact e e2.symm
theorem F_next {l : List S29} (h : tok l [] 0 (-1) = true) {m n : Nat} (hm : m < l.length) (hn : idAt l m = (n : Int)) (j : Nat) : (if j = n then some m else placeOf l m (j : Int)) = placeOf l (m + 1) (j : Int) := by
  rw [placeOf_succ h hm, hn]
  by_cases e : j = n
  · rw [if_pos e, if_pos (by omega)]
  · rw [if_neg e, if_neg (by omega)]
theorem L_next {D : Nat → Int} {m d : Nat} (hd : D m = (d : Int)) (j : Nat) : (if j = d then some m else Tree.lastAt D m (j : Int)) = Tree.lastAt D (m + 1) (j : Int) := by
  unfold Tree.lastAt
  rw [Tree.lastB, hd]
  by_cases e : j = d
  · rw [if_pos e, if_pos (by simp; omega)]
  · rw [if_neg e, if_neg (by simp; omega)]
/-- A root changes nothing of what the others meet. -/
theorem K_root {D : Nat → Int} {m : Nat} (hp : Tree.par D m = none) {j : Nat} (hj : j < m + 1) : (if j = m then none else Tree.kid1 D m j) = Tree.kid1 D (m + 1) j := by
  by_cases e : j = m
  · rw [if_pos e, e, Tree.kid1_self]
  · rw [if_neg e, Tree.kid1_succ, hp]
    cases Tree.kid1 D m j <;> simp
theorem S_root {D : Nat → Int} {m : Nat} (hp : Tree.par D m = none) {j : Nat} (hj : j < m + 1) : (if j = m then none else Tree.sib D m j) = Tree.sib D (m + 1) j := by
  by_cases e : j = m
  · rw [if_pos e, e, Tree.sib_self]
  · rw [if_neg e, Tree.sib_succ (by omega), hp]
    cases Tree.sib D m j with
    | some _ => rfl
    | none => simp; intro h; exact h.symm
/-- The first under u. -/
theorem K_first {D : Nat → Int} {m u : Nat} (hp : Tree.par D m = some u) (hn : ∀ i, i < m → Tree.par D i ≠ some u) {j : Nat} (hj : j < m + 1) : (if j = u then some m else if j = m then none else Tree.kid1 D m j) = Tree.kid1 D (m + 1) j := by
  have hu := Tree.par_lt hp
  by_cases e1 : j = u
  · subst e1
    have : Tree.kid1 D m j = none := Tree.firstB_none.2 fun k hk => by simpa using hn k hk
    rw [if_pos rfl, Tree.kid1_succ, this, hp]; simp
  · rw [if_neg e1]
    by_cases e : j = m
    · rw [if_pos e, e, Tree.kid1_self]
    · rw [if_neg e, Tree.kid1_succ, hp]
      have e3 : ¬ u = j := fun h => e1 h.symm
      cases Tree.kid1 D m j <;> simp [e3]
theorem S_first {D : Nat → Int} {m u : Nat} (hp : Tree.par D m = some u) (hn : ∀ i, i < m → Tree.par D i ≠ some u) {j : Nat} (hj : j < m + 1) : (if j = m then none else Tree.sib D m j) = Tree.sib D (m + 1) j := by
  by_cases e : j = m
  · rw [if_pos e, e, Tree.sib_self]
  · rw [if_neg e, Tree.sib_succ (by omega), hp]
    have := hn j (by omega)
    have e3 : ¬ some u = Tree.par D j := fun h => this h.symm
    cases Tree.sib D m j <;> simp [e3]
/-- Behind a, the last under u. -/
theorem K_behind {D : Nat → Int} {m u a : Nat} (hp : Tree.par D m = some u) (ha : a < m) (hpa : Tree.par D a = some u) {j : Nat} (hj : j < m + 1) : (if j = m then none else Tree.kid1 D m j) = Tree.kid1 D (m + 1) j := by
  by_cases e : j = m
  · rw [if_pos e, e, Tree.kid1_self]
  · rw [if_neg e, Tree.kid1_succ, hp]
    cases hk : Tree.kid1 D m j with
    | some _ => rfl
    | none =>
      have h := Tree.firstB_none.1 hk a ha
      rw [hpa] at h
      simp only [beq_eq_false_iff_ne, ne_eq] at h
      simp [h]
theorem S_behind {D : Nat → Int} {n m u a : Nat} (hv : Tree.Steps D n) (hm : m < n) (hp : Tree.par D m = some u) (ha : Tree.lastAt D m (D m) = some a) (hpa : Tree.par D a = some u) {j : Nat} (hj : j < m + 1) : (if j = a then some m else if j = m then none else Tree.sib D m j) = Tree.sib D (m + 1) j := by
  have ham := (Tree.lastB_some.1 ha).1
  by_cases e1 : j = a
  · subst e1
    rw [if_pos rfl, Tree.sib_succ ham, Tree.lastAt_sib hv hm hp ha hpa, hp, hpa]; simp
  · rw [if_neg e1]
    by_cases e : j = m
    · rw [if_pos e, e, Tree.sib_self]
    · rw [if_neg e, Tree.sib_succ (by omega), hp]
      cases hs : Tree.sib D m j with
      | some _ => rfl
      | none =>
        by_cases e2 : Tree.par D j = some u
        · have := Tree.last_sib hv hm (by omega) hp e2 hs
          rw [ha] at this; exact absurd (Option.some.inj this).symm e1
        · have e3 : ¬ some u = Tree.par D j := fun h => e2 h.symm
          simp [e3]
end Go.Proofs.YtdapbpgooehibaaDoor
