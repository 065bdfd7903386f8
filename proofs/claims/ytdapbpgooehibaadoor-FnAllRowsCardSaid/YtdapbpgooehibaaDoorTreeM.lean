/- Rows told by their depths alone: which row stands over which, which is the first under one, which comes next. Plain words on whole numbers; no Go, no memory. Condition ('Steps'): depths from 0 on, the first 0, each at most one deeper than the one ahead. -/
namespace Go.Proofs.YtdapbpgooehibaaDoor.Tree
set_option linter.unusedVariables false

/-- The last place below, and the first one. -/
def lastB (p : Nat → Bool) : Nat → Option Nat
  | 0 => none
  | m + 1 => if p m = true then some m else lastB p m
def firstB (p : Nat → Bool) : Nat → Option Nat
  | 0 => none
  | m + 1 => match firstB p m with
    | some j => some j
    | none => if p m = true then some m else none
theorem lastB_some {p : Nat → Bool} {m j : Nat} : lastB p m = some j ↔ j < m ∧ p j = true ∧ ∀ k, j < k → k < m → p k = false := by
  induction m with
  | zero => simp [lastB]
  | succ m ih =>
    unfold lastB
    by_cases h : p m = true
    · rw [if_pos h]
      constructor
      · intro e; cases e; exact ⟨by omega, h, fun k h1 h2 => by omega⟩
      · rintro ⟨h1, h2, h3⟩
        by_cases e : j = m
        · rw [e]
        · have := h3 m (by omega) (by omega); rw [h] at this; cases this
    · rw [if_neg h, ih]
      constructor
      · rintro ⟨h1, h2, h3⟩
        refine ⟨by omega, h2, fun k k1 k2 => ?_⟩
        by_cases e : k = m
        · rw [e]; simpa using h
        · exact h3 k k1 (by omega)
      · rintro ⟨h1, h2, h3⟩
        have : j ≠ m := fun e => h (e ▸ h2)
        exact ⟨by omega, h2, fun k k1 k2 => h3 k k1 (by omega)⟩
theorem lastB_none {p : Nat → Bool} {m : Nat} : lastB p m = none ↔ ∀ k, k < m → p k = false := by
  induction m with
  | zero => simp [lastB]
  | succ m ih =>
    unfold lastB
    by_cases h : p m = true
    · rw [if_pos h]
      constructor
      · intro e; cases e
      · intro h2; have := h2 m (by omega); rw [h] at this; cases this
    · rw [if_neg h, ih]
      constructor
      · intro h2 k hk
        by_cases e : k = m
        · rw [e]; simpa using h
        · exact h2 k (by omega)
      · exact fun h2 k hk => h2 k (by omega)
theorem firstB_some {p : Nat → Bool} {m j : Nat} : firstB p m = some j ↔ j < m ∧ p j = true ∧ ∀ k, k < j → p k = false := by
  induction m generalizing j with
  | zero => simp [firstB]
  | succ m ih =>
    unfold firstB
    cases hf : firstB p m with
    | some i =>
      have h1 := (ih (j := i)).1 hf
      constructor
      · intro e; cases e; exact ⟨by omega, h1.2.1, h1.2.2⟩
      · rintro ⟨k1, k2, k3⟩
        rcases Nat.lt_trichotomy i j with h | h | h
        · have := k3 i h; rw [h1.2.1] at this; cases this
        · rw [h]
        · have := h1.2.2 j h; rw [k2] at this; cases this
    | none =>
      have hn : ∀ k, k < m → p k = false := by
        intro k hk
        by_cases h : p k = true
        · exfalso
          -- the first one below or at k would be found
          have : ∃ i, i < m ∧ p i = true ∧ ∀ q, q < i → p q = false := by
            clear ih hf
            induction k using Nat.strongRecOn with
            | _ k ihk =>
              by_cases hall : ∀ q, q < k → p q = false
              · exact ⟨k, hk, h, hall⟩
              · simp only [Classical.not_forall] at hall
                obtain ⟨q, hq, hp⟩ := hall
                exact ihk q hq (by omega) (by simpa using hp)
          obtain ⟨i, hi⟩ := this
          rw [(ih (j := i)).2 hi] at hf; cases hf
        · simpa using h
      by_cases h : p m = true
      · dsimp only
        rw [if_pos h]
        constructor
        · intro e; cases e; exact ⟨by omega, h, hn⟩
        · rintro ⟨k1, k2, k3⟩
          by_cases e : j = m
          · rw [e]
          · have := hn j (by omega); rw [k2] at this; cases this
      · dsimp only
        rw [if_neg h]
        constructor
        · intro e; cases e
        · rintro ⟨k1, k2, k3⟩
          by_cases e : j = m
          · exact absurd (e ▸ k2) h
          · have := hn j (by omega); rw [k2] at this; cases this
theorem firstB_none {p : Nat → Bool} {m : Nat} : firstB p m = none ↔ ∀ k, k < m → p k = false := by
  induction m with
  | zero => simp [firstB]
  | succ m ih =>
    unfold firstB
    cases hf : firstB p m with
    | some i =>
      have h1 := firstB_some.1 hf
      constructor
      · intro e; cases e
      · intro h; have := h i (by omega); rw [h1.2.1] at this; cases this
    | none =>
      have h1 := ih.1 hf
      by_cases h : p m = true
      · dsimp only
        rw [if_pos h]
        constructor
        · intro e; cases e
        · intro h2; have := h2 m (by omega); rw [h] at this; cases this
      · dsimp only
        rw [if_neg h]
        refine ⟨fun _ k hk => ?_, fun _ => rfl⟩
        by_cases e : k = m
        · rw [e]; simpa using h
        · exact h1 k (by omega)

/-- Depths of an outline. -/
def Steps (D : Nat → Int) (n : Nat) : Prop := (∀ i, i < n → 0 ≤ D i) ∧ (0 < n → D 0 = 0) ∧ ∀ i, i + 1 < n → D (i + 1) ≤ D i + 1
/-- Over which row one stands; which is the first under one, which comes next, of the first m; the last of a depth. -/
def par (D : Nat → Int) (i : Nat) : Option Nat := lastB (fun j => decide (D j < D i)) i
def kid1 (D : Nat → Int) (m i : Nat) : Option Nat := firstB (fun j => par D j == some i) m
def sib (D : Nat → Int) (m i : Nat) : Option Nat := firstB (fun j => decide (i < j) && (par D j == par D i) && (par D i).isSome) m
def lastAt (D : Nat → Int) (m : Nat) (d : Int) : Option Nat := lastB (fun j => D j == d) m

theorem par_some {D : Nat → Int} {i u : Nat} : par D i = some u ↔ u < i ∧ D u < D i ∧ ∀ k, u < k → k < i → D i ≤ D k := by
  unfold par
  rw [lastB_some]
  simp
theorem par_lt {D : Nat → Int} {i u : Nat} (h : par D i = some u) : u < i := (par_some.1 h).1
/-- The one over a row stands one less deep. -/
theorem par_depth {D : Nat → Int} {n i u : Nat} (hv : Steps D n) (hi : i < n) (h : par D i = some u) : D u = D i - 1 := by
  obtain ⟨h1, h2, h3⟩ := par_some.1 h
  have h4 := hv.2.2 u (by omega)
  by_cases e : u + 1 = i
  · rw [e] at h4; omega
  · have := h3 (u + 1) (by omega) (by omega); omega
theorem par_zero {D : Nat → Int} {n i : Nat} (hv : Steps D n) (hi : i < n) : par D i = none ↔ D i = 0 := by
  unfold par
  rw [lastB_none]
  constructor
  · intro h
    have h0 := hv.1 i hi
    by_cases e : i = 0
    · rw [e]; exact hv.2.1 (by omega)
    · have h1 := h 0 (by omega)
      rw [hv.2.1 (by omega)] at h1
      simp at h1; omega
  · intro h k hk
    have := hv.1 k (by omega)
    simp; omega
/-- The row over one is the last ahead of it that stands one less deep. -/
theorem par_lastAt {D : Nat → Int} {n m u : Nat} (hv : Steps D n) (hm : m < n) (h : par D m = some u) : lastAt D m (D m - 1) = some u := by
  have hd := par_depth hv hm h
  obtain ⟨h1, h2, h3⟩ := par_some.1 h
  unfold lastAt
  rw [lastB_some]
  refine ⟨h1, by simp; omega, fun k k1 k2 => ?_⟩
  have := h3 k k1 k2
  simp; omega
/-- Who stands as deep as a row, behind the one over it and ahead of it, stands under the same. -/
theorem par_same {D : Nat → Int} {n m u k : Nat} (hv : Steps D n) (hm : m < n) (h : par D m = some u) (h1 : u < k) (h2 : k < m) (h3 : D k = D m) : par D k = some u := by
  obtain ⟨a1, a2, a3⟩ := par_some.1 h
  exact par_some.2 ⟨h1, by omega, fun q q1 q2 => by have := a3 q q1 (by omega); omega⟩
theorem kid_depth {D : Nat → Int} {n i j u : Nat} (hv : Steps D n) (hi : i < n) (hj : j < n) (h1 : par D i = some u) (h2 : par D j = some u) : D i = D j := by
  have := par_depth hv hi h1; have := par_depth hv hj h2; omega
theorem sib_none {D : Nat → Int} {m i u : Nat} (hu : par D i = some u) : sib D m i = none ↔ ∀ j, i < j → j < m → par D j ≠ some u := by
  unfold sib
  rw [firstB_none]
  simp only [hu, Option.isSome_some, Bool.and_true, Bool.and_eq_false_iff, decide_eq_false_iff_not]
  constructor
  · intro h j h1 h2 e
    rcases h j h2 with h3 | h3
    · omega
    · rw [e] at h3; simp at h3
  · intro h k hk
    by_cases e : i < k
    · right; have := h k e hk; simpa using this
    · exact .inl e
/-- The last of those under the same, ahead of a row, is the last of its depth. -/
theorem last_sib {D : Nat → Int} {n m i u : Nat} (hv : Steps D n) (hm : m < n) (hi : i < m) (hu : par D m = some u) (h : par D i = some u) (hs : sib D m i = none) : lastAt D m (D m) = some i := by
  have hd := kid_depth hv (by omega) hm h hu
  have hl := (par_some.1 h).1
  unfold lastAt
  rw [lastB_some]
  refine ⟨hi, by simpa using hd, fun k k1 k2 => ?_⟩
  by_cases e : D k = D m
  · exact absurd (par_same hv hm hu (by omega) k2 e) ((sib_none h).1 hs k k1 k2)
  · simpa using e
theorem lastAt_sib {D : Nat → Int} {n m a u : Nat} (hv : Steps D n) (hm : m < n) (hu : par D m = some u) (h : lastAt D m (D m) = some a) (hp : par D a = some u) : sib D m a = none := by
  obtain ⟨h1, h2, h3⟩ := lastB_some.1 h
  refine (sib_none hp).2 fun j j1 j2 e => ?_
  have := kid_depth hv (by omega) hm e hu
  have h4 := h3 j j1 j2
  simp at h4; exact h4 this
/-- No row stands yet under the one over m, where the last of m's depth stands elsewhere. -/
theorem no_kid {D : Nat → Int} {n m u : Nat} (hv : Steps D n) (hm : m < n) (hu : par D m = some u) (h : ∀ a, lastAt D m (D m) = some a → par D a ≠ some u) : ∀ i, i < m → par D i ≠ some u := by
  intro i hi e
  have hd := kid_depth hv (by omega) hm e hu
  cases hl : lastAt D m (D m) with
  | none =>
    have := lastB_none.1 hl i hi
    simp at this; exact this hd
  | some a =>
    obtain ⟨h1, h2, h3⟩ := lastB_some.1 hl
    have hia : i ≤ a := by
      by_cases c : a < i
      · have := h3 i c hi; simp at this; exact absurd hd this
      · omega
    have := (par_some.1 e).1
    exact h a hl (par_same hv hm hu (by omega) h1 (by simpa using h2))

/-! ### one row more -/
theorem kid1_succ {D : Nat → Int} {m i : Nat} : kid1 D (m + 1) i = match kid1 D m i with
    | some j => some j
    | none => if par D m = some i then some m else none := by
  unfold kid1
  rw [firstB]
  simp
theorem sib_succ {D : Nat → Int} {m i : Nat} (hi : i < m) : sib D (m + 1) i = match sib D m i with
    | some j => some j
    | none => if par D m = par D i ∧ par D i ≠ none then some m else none := by
  unfold sib
  rw [firstB]
  cases h : par D i <;> simp [hi]
theorem kid1_self {D : Nat → Int} {m : Nat} : kid1 D (m + 1) m = none := by
  unfold kid1
  rw [firstB_none]
  intro k hk
  by_cases e : par D k = some m
  · have := par_lt e; omega
  · simpa using e
theorem sib_self {D : Nat → Int} {m : Nat} : sib D (m + 1) m = none := by
  unfold sib
  rw [firstB_none]
  intro k hk
  simp; intro; omega

/-- The rows right under one. -/
def kidsOf (D : Nat → Int) (n i : Nat) : List Nat := (List.range n).filter fun j => par D j == some i
theorem firstB_head (p : Nat → Bool) (n : Nat) : firstB p n = ((List.range n).filter p).head? := by
  induction n with
  | zero => rfl
  | succ n ih =>
    rw [firstB, ih, List.range_succ, List.filter_append]
    cases h : (List.range n).filter p with
    | nil =>
      simp only [List.head?_nil, List.nil_append]
      by_cases e : p n = true
      · simp [e]
      · simp [e]
    | cons a t => simp
theorem mem_kids {D : Nat → Int} {n i j : Nat} : j ∈ kidsOf D n i ↔ j < n ∧ par D j = some i := by simp [kidsOf]
theorem kids_sorted (D : Nat → Int) (n i : Nat) : (kidsOf D n i).Pairwise (· < ·) := List.Pairwise.filter _ List.pairwise_lt_range
theorem kid1_head (D : Nat → Int) (n i : Nat) : kid1 D n i = (kidsOf D n i).head? := firstB_head _ _
theorem filter_behind {pre rest : List Nat} {j : Nat} (h : (pre ++ j :: rest).Pairwise (· < ·)) : (pre ++ j :: rest).filter (fun k => decide (j < k)) = rest := by
  rw [List.pairwise_append] at h
  obtain ⟨h1, h2, h3⟩ := h
  rw [List.pairwise_cons] at h2
  rw [List.filter_append, List.filter_eq_nil_iff.2 (fun a ha => by have := h3 a ha j (by simp); simp; omega), List.nil_append, List.filter_cons_of_neg (by simp)]
  exact List.filter_eq_self.2 (fun a ha => by simpa using h2.1 a ha)
theorem sib_head {D : Nat → Int} {n i : Nat} {pre rest : List Nat} {j : Nat} (h : kidsOf D n i = pre ++ j :: rest) : sib D n j = rest.head? := by
  have hj : j ∈ kidsOf D n i := by rw [h]; simp
  have hp := (mem_kids.1 hj).2
  have e : (List.range n).filter (fun k => decide (j < k) && (par D k == par D j) && (par D j).isSome) = (kidsOf D n i).filter (fun k => decide (j < k)) := by
    unfold kidsOf
    rw [List.filter_filter]
    congr 1
    funext k
    rw [hp]; simp
  unfold sib
  rw [firstB_head, e, h, filter_behind (by rw [← h]; exact kids_sorted D n i)]
/-- The row right ahead under the same. -/
def prev (D : Nat → Int) (i : Nat) : Option Nat := lastB (fun j => par D j == par D i) i
theorem lastB_last (p : Nat → Bool) (n : Nat) : lastB p n = ((List.range n).filter p).getLast? := by
  induction n with
  | zero => rfl
  | succ n ih =>
    rw [lastB, List.range_succ, List.filter_append]
    by_cases e : p n = true
    · rw [if_pos e]; simp [e]
    · rw [if_neg e, ih]; simp [e]
theorem filter_ahead {pre rest : List Nat} {j : Nat} (h : (pre ++ j :: rest).Pairwise (· < ·)) : (pre ++ j :: rest).filter (fun k => decide (k < j)) = pre := by
  rw [List.pairwise_append] at h
  obtain ⟨h1, h2, h3⟩ := h
  rw [List.pairwise_cons] at h2
  have e1 : pre.filter (fun k => decide (k < j)) = pre := List.filter_eq_self.2 (fun a ha => by simpa using h3 a ha j (by simp))
  have e2 : rest.filter (fun k => decide (k < j)) = [] := List.filter_eq_nil_iff.2 (fun a ha => by have := h2.1 a ha; simp; omega)
  rw [List.filter_append, List.filter_cons_of_neg (by simp), e1, e2, List.append_nil]
theorem range_below (n j : Nat) (h : j ≤ n) : (List.range n).filter (fun k => decide (k < j)) = List.range j := by
  obtain ⟨d, rfl⟩ : ∃ d, n = j + d := ⟨n - j, by omega⟩
  rw [List.range_add, List.filter_append, List.filter_eq_self.2 (fun a ha => by simpa using ha), List.filter_eq_nil_iff.2 (fun a ha => by
    simp only [List.mem_map] at ha
    obtain ⟨b, _, rfl⟩ := ha
    simp), List.append_nil]
theorem prev_last {D : Nat → Int} {n i : Nat} {pre rest : List Nat} {j : Nat} (h : kidsOf D n i = pre ++ j :: rest) : prev D j = pre.getLast? := by
  have hj : j ∈ kidsOf D n i := by rw [h]; simp
  obtain ⟨hjn, hp⟩ := mem_kids.1 hj
  have e : (List.range j).filter (fun k => par D k == par D j) = (kidsOf D n i).filter (fun k => decide (k < j)) := by
    unfold kidsOf
    rw [← range_below n j (by omega), List.filter_filter, List.filter_filter]
    congr 1
    funext k
    rw [hp, Bool.and_comm]
  unfold prev
  rw [lastB_last, e, h, filter_ahead (by rw [← h]; exact kids_sorted D n i)]
theorem kids_split {D : Nat → Int} {n i j : Nat} (hj : j < n) (hp : par D j = some i) : ∃ pre rest, kidsOf D n i = pre ++ j :: rest :=
  List.append_of_mem (mem_kids.2 ⟨hj, hp⟩)
theorem prev_some {D : Nat → Int} {i j : Nat} : prev D i = some j ↔ j < i ∧ par D j = par D i ∧ ∀ k, j < k → k < i → par D k ≠ par D i := by
  unfold prev
  rw [lastB_some]
  simp
theorem prev_none {D : Nat → Int} {i : Nat} : prev D i = none ↔ ∀ k, k < i → par D k ≠ par D i := by
  unfold prev
  rw [lastB_none]
  simp

/-- Whether a row stands under another one, or is it. -/
def under (D : Nat → Int) (u i : Nat) : Prop := u ≤ i ∧ ∀ k, u < k → k ≤ i → D u < D k
theorem under_refl (D : Nat → Int) (u : Nat) : under D u u := ⟨Nat.le_refl _, fun k h1 h2 => by omega⟩
theorem under_trans {D : Nat → Int} {a b c : Nat} (h1 : under D a b) (h2 : under D b c) : under D a c := by
  refine ⟨Nat.le_trans h1.1 h2.1, fun k k1 k2 => ?_⟩
  by_cases e : k ≤ b
  · exact h1.2 k k1 e
  · have := h2.2 k (by omega) k2
    by_cases e2 : a = b
    · rw [e2]; exact this
    · have := h1.2 b (by have := h1.1; omega) (Nat.le_refl _); omega
theorem under_par {D : Nat → Int} {u i p : Nat} (hp : par D i = some p) (hne : i ≠ u) : under D u i ↔ under D u p := by
  obtain ⟨h1, h2, h3⟩ := par_some.1 hp
  constructor
  · rintro ⟨k1, k2⟩
    have hi := k2 i (by omega) (Nat.le_refl _)
    have hup : u ≤ p := by
      by_cases e : u ≤ p
      · exact e
      · have := h3 u (by omega) (by omega); omega
    exact ⟨hup, fun k a b => k2 k a (by omega)⟩
  · intro h
    refine under_trans h ⟨by omega, fun k a b => ?_⟩
    by_cases e : k = i
    · rw [e]; exact h2
    · have := h3 k a (by omega); omega
theorem under_top {D : Nat → Int} {u i : Nat} (hp : par D i = none) (hne : i ≠ u) : ¬ under D u i := by
  rintro ⟨k1, k2⟩
  have := k2 i (by omega) (Nat.le_refl _)
  have h := lastB_none.1 hp u (by omega)
  simp at h; omega
/-- The place behind all that stands under a row. -/
def endOf (D : Nat → Int) (n u : Nat) : Nat := (firstB (fun e => decide (u < e) && decide (D e ≤ D u)) n).getD n
theorem endOf_spec {D : Nat → Int} {n u : Nat} (hu : u < n) : u < endOf D n u ∧ endOf D n u ≤ n ∧ (∀ k, u < k → k < endOf D n u → D u < D k) ∧ (endOf D n u < n → D (endOf D n u) ≤ D u) := by
  unfold endOf
  cases h : firstB (fun e => decide (u < e) && decide (D e ≤ D u)) n with
  | none =>
    rw [firstB_none] at h
    refine ⟨hu, Nat.le_refl _, fun k k1 k2 => ?_, fun h => absurd h (Nat.lt_irrefl _)⟩
    have := h k k2
    simp at this; exact this k1
  | some e =>
    rw [firstB_some] at h
    obtain ⟨h1, h2, h3⟩ := h
    simp at h2
    refine ⟨h2.1, Nat.le_of_lt h1, fun k k1 k2 => ?_, fun _ => h2.2⟩
    have := h3 k k2
    simp at this; exact this k1
theorem endOf_unique {D : Nat → Int} {n u e : Nat} (hu : u < n) (h1 : u < e) (h2 : e ≤ n) (h3 : ∀ k, u < k → k < e → D u < D k) (h4 : e < n → D e ≤ D u) : endOf D n u = e := by
  obtain ⟨a1, a2, a3, a4⟩ := endOf_spec (D := D) hu
  rcases Nat.lt_trichotomy (endOf D n u) e with c | c | c
  · have := h3 _ a1 c; have := a4 (by omega); omega
  · exact c
  · have := a3 _ h1 c; have := h4 (by omega); omega
theorem under_end {D : Nat → Int} {n u i : Nat} (hu : u < n) (hi : i < n) : under D u i ↔ u ≤ i ∧ i < endOf D n u := by
  obtain ⟨a1, a2, a3, a4⟩ := endOf_spec (D := D) hu
  constructor
  · rintro ⟨h1, h2⟩
    refine ⟨h1, ?_⟩
    by_cases e : i < endOf D n u
    · exact e
    · have := h2 _ a1 (by omega); have := a4 (by omega); omega
  · rintro ⟨h1, h2⟩
    exact ⟨h1, fun k k1 k2 => a3 k k1 (by omega)⟩
/-- A kid stands under the row, one deeper; all one deeper under it are its kids. -/
theorem kid_iff {D : Nat → Int} {n u j : Nat} (hv : Steps D n) (hu : u < n) (hj : j < n) : par D j = some u ↔ u < j ∧ j < endOf D n u ∧ D j = D u + 1 := by
  obtain ⟨a1, a2, a3, a4⟩ := endOf_spec (D := D) hu
  constructor
  · intro h
    have hd := par_depth hv hj h
    obtain ⟨h1, h2, h3⟩ := par_some.1 h
    refine ⟨h1, ?_, by omega⟩
    by_cases e : j < endOf D n u
    · exact e
    · by_cases e2 : endOf D n u = j
      · have := a4 (by omega); rw [e2] at this; omega
      · have := h3 _ a1 (by omega); have := a4 (by omega); omega
  · rintro ⟨h1, h2, h3⟩
    exact par_some.2 ⟨h1, by omega, fun k k1 k2 => by have := a3 k k1 (by omega); omega⟩
theorem kids_seg {D : Nat → Int} {n u : Nat} (hv : Steps D n) (hu : u < n) : kidsOf D n u = (List.range n).filter (fun j => decide (u < j) && decide (j < endOf D n u) && decide (D j = D u + 1)) := by
  unfold kidsOf
  apply List.filter_congr
  intro j hj
  have hj2 : j < n := List.mem_range.1 hj
  rw [Bool.eq_iff_iff]
  simp only [beq_iff_eq, Bool.and_eq_true, decide_eq_true_eq]
  rw [kid_iff hv hu hj2, and_assoc]
/-- Up from a row: is u met? (At most so many steps.) -/
def metB (D : Nat → Int) (u : Nat) : Nat → Option Nat → Bool
  | 0, _ => false
  | _ + 1, none => false
  | f + 1, some i => if i = u then true else metB D u f (par D i)
theorem metB_under {D : Nat → Int} {u : Nat} : ∀ (f i : Nat), i + 2 ≤ f → (metB D u f (some i) = true ↔ under D u i)
  | 0, i, h => absurd h (by omega)
  | f + 1, i, h => by
    rw [metB]
    by_cases e : i = u
    · rw [if_pos e, e]; exact ⟨fun _ => under_refl D u, fun _ => rfl⟩
    · rw [if_neg e]
      cases hp : par D i with
      | none =>
        have h1 := under_top hp e
        cases f with
        | zero => omega
        | succ f => rw [metB]; exact ⟨fun h => (by cases h), fun h => absurd h h1⟩
      | some p =>
        have := par_lt hp
        rw [under_par hp e]
        exact metB_under f p (by omega)
end Go.Proofs.YtdapbpgooehibaaDoor.Tree
