/- Rows told by their depths alone: which row stands over which, which is the first under one, which comes next. Plain words on whole numbers; no Go, no memory. Condition ('Steps'): depths from 0 on, the first 0, each at most one deeper than the one ahead. -/
namespace Go.Proofs.YtlpfjabfhgfpmaaDoor.Tree
set_option linter.unusedVariables false
def lastB (p : Nat → Bool) : Nat → Option Nat
 | 0 => none
 | m + 1 => if p m = true then some m else lastB p m
def firstB (p : Nat → Bool) : Nat → Option Nat
 | 0 => none
 | m + 1 => match firstB p m with
  | some j => some j
  | none => if p m = true then some m else none
theorem lastB_some {p : Nat → Bool} {m j : Nat} : lastB p m = some j ↔ j < m ∧ p j = true ∧ ∀ k, j < k → k < m → p k = false := by
 induction m with
 | zero => simp [lastB]
 | succ m ih =>
  unfold lastB
  by_cases h : p m = true
  ·rw [if_pos h]
   constructor
   ·intro e; cases e; exact ⟨by omega, h, fun k h1 h2 => by omega⟩
   ·rintro ⟨h1, h2, h3⟩
    by_cases e : j = m
    ·rw [e]
    ·have := h3 m (by omega) (by omega); rw [h] at this; cases this
  ·rw [if_neg h, ih]
   constructor
   ·rintro ⟨h1, h2, h3⟩
    refine ⟨by omega, h2, fun k k1 k2 => ?_⟩
    by_cases e : k = m
    ·rw [e]; simpa using h
    ·exact h3 k k1 (by omega)
   ·rintro ⟨h1, h2, h3⟩
    have : j ≠ m := fun e => h (e ▸ h2)
    exact ⟨by omega, h2, fun k k1 k2 => h3 k k1 (by omega)⟩
theorem lastB_none {p : Nat → Bool} {m : Nat} : lastB p m = none ↔ ∀ k, k < m → p k = false := by
 induction m with
 | zero => simp [lastB]
 | succ m ih =>
  unfold lastB
  by_cases h : p m = true
  ·rw [if_pos h]
   constructor
   ·intro e; cases e
   ·intro h2; have := h2 m (by omega); rw [h] at this; cases this
  ·rw [if_neg h, ih]
   constructor
   ·intro h2 k hk
    by_cases e : k = m
    ·rw [e]; simpa using h
    ·exact h2 k (by omega)
   ·exact fun h2 k hk => h2 k (by omega)
theorem firstB_some {p : Nat → Bool} {m j : Nat} : firstB p m = some j ↔ j < m ∧ p j = true ∧ ∀ k, k < j → p k = false := by
 induction m generalizing j with
 | zero => simp [firstB]
 | succ m ih =>
  unfold firstB
  cases hf : firstB p m with
  | some i =>
   have h1 := (ih (j := i)).1 hf
   constructor
   ·intro e; cases e; exact ⟨by omega, h1.2.1, h1.2.2⟩
   ·rintro ⟨k1, k2, k3⟩
    rcases Nat.lt_trichotomy i j with h | h | h
    ·have := k3 i h; rw [h1.2.1] at this; cases this
    ·rw [h]
    ·have := h1.2.2 j h; rw [k2] at this; cases this
  | none =>
   have hn : ∀ k, k < m → p k = false := by
    intro k hk
    by_cases h : p k = true
    ·exfalso
     -- the first one below or at k would be found
     have : ∃ i, i < m ∧ p i = true ∧ ∀ q, q < i → p q = false := by
      clear ih hf
      induction k using Nat.strongRecOn with
      | _ k ihk =>
       by_cases hall : ∀ q, q < k → p q = false
       ·exact ⟨k, hk, h, hall⟩
       ·simp only [Classical.not_forall] at hall
        obtain ⟨q, hq, hp⟩ := hall
        exact ihk q hq (by omega) (by simpa using hp)
     obtain ⟨i, hi⟩ := this
     rw [(ih (j := i)).2 hi] at hf; cases hf
    ·simpa using h
   by_cases h : p m = true
   ·dsimp only
    rw [if_pos h]
    constructor
    ·intro e; cases e; exact ⟨by omega, h, hn⟩
    ·rintro ⟨k1, k2, k3⟩
     by_cases e : j = m
     ·rw [e]
     ·have := hn j (by omega); rw [k2] at this; cases this
   ·dsimp only
    rw [if_neg h]
    constructor
    ·intro e; cases e
    ·rintro ⟨k1, k2, k3⟩
     by_cases e : j = m
     ·exact absurd (e ▸ k2) h
     ·have := hn j (by omega); rw [k2] at this; cases this
theorem firstB_none {p : Nat → Bool} {m : Nat} : firstB p m = none ↔ ∀ k, k < m → p k = false := by
 induction m with
 | zero => simp [firstB]
 | succ m ih =>
  unfold firstB
  cases hf : firstB p m with
  | some i =>
   have h1 := firstB_some.1 hf
   constructor
   ·intro e; cases e
   ·intro h; have := h i (by omega); rw [h1.2.1] at this; cases this
  | none =>
   have h1 := ih.1 hf
   by_cases h : p m = true
   ·dsimp only
    rw [if_pos h]
    constructor
    ·intro e; cases e
    ·intro h2; have := h2 m (by omega); rw [h] at this; cases this
   ·dsimp only
    rw [if_neg h]
    refine ⟨fun _ k hk => ?_, fun _ => rfl⟩
    by_cases e : k = m
    ·rw [e]; simpa using h
    ·exact h1 k (by omega)
def Steps (D : Nat → Int) (n : Nat) : Prop := (∀ i, i < n → 0 ≤ D i) ∧ (0 < n → D 0 = 0) ∧ ∀ i, i + 1 < n → D (i + 1) ≤ D i + 1
def par (D : Nat → Int) (i : Nat) : Option Nat := lastB (fun j => decide (D j < D i)) i
def kid1 (D : Nat → Int) (m i : Nat) : Option Nat := firstB (fun j => par D j == some i) m
def sib (D : Nat → Int) (m i : Nat) : Option Nat := firstB (fun j => decide (i < j) && (par D j == par D i) && (par D i).isSome) m
def lastAt (D : Nat → Int) (m : Nat) (d : Int) : Option Nat := lastB (fun j => D j == d) m
theorem par_some {D : Nat → Int} {i u : Nat} : par D i = some u ↔ u < i ∧ D u < D i ∧ ∀ k, u < k → k < i → D i ≤ D k := by
 unfold par
 rw [lastB_some]
 simp
theorem par_lt {D : Nat → Int} {i u : Nat} (h : par D i = some u) : u < i := (par_some.1 h).1
def kidsOf (D : Nat → Int) (n i : Nat) : List Nat := (List.range n).filter fun j => par D j == some i
def prev (D : Nat → Int) (i : Nat) : Option Nat := lastB (fun j => par D j == par D i) i
def under (D : Nat → Int) (u i : Nat) : Prop := u ≤ i ∧ ∀ k, u < k → k ≤ i → D u < D k
theorem under_refl (D : Nat → Int) (u : Nat) : under D u u := ⟨Nat.le_refl _, fun k h1 h2 => by omega⟩
theorem under_trans {D : Nat → Int} {a b c : Nat} (h1 : under D a b) (h2 : under D b c) : under D a c := by
 refine ⟨Nat.le_trans h1.1 h2.1, fun k k1 k2 => ?_⟩
 by_cases e : k ≤ b
 ·exact h1.2 k k1 e
 ·have := h2.2 k (by omega) k2
  by_cases e2 : a = b
  ·rw [e2]; exact this
  ·have := h1.2 b (by have := h1.1; omega) (Nat.le_refl _); omega
theorem under_par {D : Nat → Int} {u i p : Nat} (hp : par D i = some p) (hne : i ≠ u) : under D u i ↔ under D u p := by
 obtain ⟨h1, h2, h3⟩ := par_some.1 hp
 constructor
 ·rintro ⟨k1, k2⟩
  have hi := k2 i (by omega) (Nat.le_refl _)
  have hup : u ≤ p := by
   by_cases e : u ≤ p
   ·exact e
   ·have := h3 u (by omega) (by omega); omega
  exact ⟨hup, fun k a b => k2 k a (by omega)⟩
 ·intro h
  refine under_trans h ⟨by omega, fun k a b => ?_⟩
  by_cases e : k = i
  ·rw [e]; exact h2
  ·have := h3 k a (by omega); omega
theorem under_top {D : Nat → Int} {u i : Nat} (hp : par D i = none) (hne : i ≠ u) : ¬ under D u i := by
 rintro ⟨k1, k2⟩
 have := k2 i (by omega) (Nat.le_refl _)
 have h := lastB_none.1 hp u (by omega)
 simp at h; omega
def endOf (D : Nat → Int) (n u : Nat) : Nat := (firstB (fun e => decide (u < e) && decide (D e ≤ D u)) n).getD n
theorem endOf_spec {D : Nat → Int} {n u : Nat} (hu : u < n) : u < endOf D n u ∧ endOf D n u ≤ n ∧ (∀ k, u < k → k < endOf D n u → D u < D k) ∧ (endOf D n u < n → D (endOf D n u) ≤ D u) := by
 unfold endOf
 cases h : firstB (fun e => decide (u < e) && decide (D e ≤ D u)) n with
 | none =>
  rw [firstB_none] at h
  refine ⟨hu, Nat.le_refl _, fun k k1 k2 => ?_, fun h => absurd h (Nat.lt_irrefl _)⟩
  have := h k k2
  simp at this; exact this k1
 | some e =>
  rw [firstB_some] at h
  obtain ⟨h1, h2, h3⟩ := h
  simp at h2
  refine ⟨h2.1, Nat.le_of_lt h1, fun k k1 k2 => ?_, fun _ => h2.2⟩
  have := h3 k k2
  simp at this; exact this k1
theorem endOf_unique {D : Nat → Int} {n u e : Nat} (hu : u < n) (h1 : u < e) (h2 : e ≤ n) (h3 : ∀ k, u < k → k < e → D u < D k) (h4 : e < n → D e ≤ D u) : endOf D n u = e := by
 obtain ⟨a1, a2, a3, a4⟩ := endOf_spec (D := D) hu
 rcases Nat.lt_trichotomy (endOf D n u) e with c | c | c
 ·have := h3 _ a1 c; have := a4 (by omega); omega
 ·exact c
 ·have := a3 _ h1 c; have := h4 (by omega); omega
theorem under_end {D : Nat → Int} {n u i : Nat} (hu : u < n) (hi : i < n) : under D u i ↔ u ≤ i ∧ i < endOf D n u := by
 obtain ⟨a1, a2, a3, a4⟩ := endOf_spec (D := D) hu
 constructor
 ·rintro ⟨h1, h2⟩
  refine ⟨h1, ?_⟩
  by_cases e : i < endOf D n u
  ·exact e
  ·have := h2 _ a1 (by omega); have := a4 (by omega); omega
 ·rintro ⟨h1, h2⟩
  exact ⟨h1, fun k k1 k2 => a3 k k1 (by omega)⟩
def metB (D : Nat → Int) (u : Nat) : Nat → Option Nat → Bool
 | 0, _ => false
 | _ + 1, none => false
 | f + 1, some i => if i = u then true else metB D u f (par D i)
theorem metB_under {D : Nat → Int} {u : Nat} : ∀ (f i : Nat), i + 2 ≤ f → (metB D u f (some i) = true ↔ under D u i)
 | 0, i, h => absurd h (by omega)
 | f + 1, i, h => by
  rw [metB]
  by_cases e : i = u
  ·rw [if_pos e, e]; exact ⟨fun _ => under_refl D u, fun _ => rfl⟩
  ·rw [if_neg e]
   cases hp : par D i with
   | none =>
    have h1 := under_top hp e
    cases f with
    | zero => omega
    | succ f => rw [metB]; exact ⟨fun h => (by cases h), fun h => absurd h h1⟩
   | some p =>
    have := par_lt hp
    rw [under_par hp e]
    exact metB_under f p (by omega)
end Go.Proofs.YtlpfjabfhgfpmaaDoor.Tree
