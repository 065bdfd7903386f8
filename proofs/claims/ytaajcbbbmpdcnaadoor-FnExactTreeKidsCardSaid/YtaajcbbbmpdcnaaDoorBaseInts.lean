/- The laws' own words on lists of numbers and rows: two are the same; marked anew; held as marked. Conditions: lists that memory can hold. -/
import Derived.Test.YtaajcbbbmpdcnaaDoorBaseTree
import Derived.Test.YtaajcbbbmpdcnaaDoorPx6
import Derived.Test.YtaajcbbbmpdcnaaDoorPx7
import Derived.Test.YtaajcbbbmpdcnaaDoorPx7
import Derived.Test.YtaajcbbbmpdcnaaDoorPx7
namespace Go.Proofs.YtaajcbbbmpdcnaaDoor.P
open Go.RowKit Go.Proofs.YtaajcbbbmpdcnaaDoorW.PrintWords Go.Proofs.YtaajcbbbmpdcnaaDoorW.PrintLast
set_option linter.unusedVariables false
set_option linter.unusedSimpArgs false

theorem rd_int (l : List Int) {i : Nat} (h : i < l.length) : rd l (i : Int) = l[i] := by simp [rd, h]
theorem eqIntS_loop (l : List Int) (hl : l.length ≤ 1099511627776) : ∀ (d i : Nat), i + d = l.length → Ev (fun k => laws_eqIntS.l0 k l l (i : Int)) true := by
  intro d
  induction d with
  | zero => intro i hi; exact Ev.step (f := fun _ => some true) (fun k => by simp only [laws_eqIntS.l0]; rw [if_neg (by omega)]) (Ev.pure rfl)
  | succ d ih =>
    intro i hi
    refine Ev.step (fun k => by simp only [laws_eqIntS.l0]; rw [if_pos (by omega), if_pos (by omega), if_pos (by omega), if_pos trivial, wrap_succ i (by omega)]) ?_
    exact ih (i + 1) (by omega)
theorem eqIntS_ev (l : List Int) (hl : l.length ≤ 1099511627776) : Ev (fun k => laws_eqIntS.f k l l) true := by
  unfold laws_eqIntS.f
  exact Ev.pos rfl (eqIntS_loop l hl l.length 0 (by omega))
/-- The marks from 1 on. -/
def marks (n : Nat) : List Int := (List.range n).map fun i => ((i + 1 : Nat) : Int)
theorem marks_len (n : Nat) : (marks n).length = n := by simp [marks]
theorem marks_at (n i : Nat) (h : i < n) : (marks n)[i]'(by rw [marks_len]; exact h) = ((i + 1 : Nat) : Int) := by simp [marks]
theorem markIntS_loop (n : Nat) (hn : n ≤ 1099511627776) : ∀ (d i : Nat) (l : List Int), i + d = n → l.length = n → l.take i = (marks n).take i → Ev (fun k => laws_markIntS.l0 k l ((i + 1 : Nat) : Int) (i : Int)) (((n + 1 : Nat) : Int), marks n) := by
  intro d
  induction d with
  | zero =>
    intro i l hi hl ht
    have e : l = marks n := by
      have h1 := ht
      rw [List.take_of_length_le (by omega), List.take_of_length_le (by rw [marks_len]; omega)] at h1
      exact h1
    refine Ev.step (f := fun _ => some (((i + 1 : Nat) : Int), l)) (fun k => by simp only [laws_markIntS.l0]; rw [if_neg (by omega)]) (Ev.pure ?_)
    rw [e, show i = n by omega]
  | succ d ih =>
    intro i l hi hl ht
    refine Ev.step (fun k => by simp only [laws_markIntS.l0]; rw [if_pos (by omega), if_pos (by omega), wrap_succ i (by omega), wrap_succ (i + 1) (by omega), Int.toNat_natCast]) ?_
    refine ih (i + 1) _ (by omega) (by simpa using hl) ?_
    apply List.ext_getElem?
    intro j
    by_cases hj : j < i + 1
    · rw [List.getElem?_take_of_lt hj, List.getElem?_take_of_lt hj, List.getElem?_set]
      by_cases e : i = j
      · subst e
        rw [if_pos rfl, if_pos (by omega), List.getElem?_eq_getElem (by rw [marks_len]; omega), marks_at n i (by omega)]
      · rw [if_neg e]
        have h1 := congrArg (fun z => z[j]?) ht
        rw [List.getElem?_take_of_lt (by omega), List.getElem?_take_of_lt (by omega)] at h1
        exact h1
    · rw [List.getElem?_eq_none (by simp; omega), List.getElem?_eq_none (by simp; omega)]
theorem markIntS_ev (l : List Int) (hl : l.length ≤ 1099511627776) : Ev (fun k => laws_markIntS.f k l 1) (((l.length + 1 : Nat) : Int), marks l.length) := by
  unfold laws_markIntS.f
  exact markIntS_loop l.length hl l.length 0 l (by omega) rfl rfl
theorem heldIntS_loop (n : Nat) (hn : n ≤ 1099511627776) : ∀ (d i : Nat), i + d = n → Ev (fun k => laws_heldIntS.l0 k (marks n) ((i + 1 : Nat) : Int) (i : Int)) ((n + 1 : Nat) : Int) := by
  intro d
  induction d with
  | zero =>
    intro i hi
    refine Ev.step (f := fun _ => some ((i + 1 : Nat) : Int)) (fun k => by simp only [laws_heldIntS.l0]; rw [if_neg (by rw [marks_len]; omega)]) (Ev.pure (by rw [show i = n by omega]))
  | succ d ih =>
    intro i hi
    refine Ev.step (fun k => by simp only [laws_heldIntS.l0]; rw [if_pos (by rw [marks_len]; omega), if_pos (by omega), rd_int _ (by rw [marks_len]; omega), marks_at n i (by omega), if_pos rfl, wrap_succ i (by omega), wrap_succ (i + 1) (by omega)]) ?_
    exact ih (i + 1) (by omega)
theorem heldIntS_ev (n : Nat) (hn : n ≤ 1099511627776) : Ev (fun k => laws_heldIntS.f k (marks n) 1) ((n + 1 : Nat) : Int) := by
  unfold laws_heldIntS.f
  exact heldIntS_loop n hn n 0 (by omega)
theorem strOf_one (x : Int) : (strOfNums [x]).size = 1 := rfl
theorem tdiv10 (x : Int) (h : 0 < x) (h2 : x ≤ 9223372036854775807) : 0 ≤ Int.tdiv x 10 ∧ Int.tdiv x 10 + 1 ≤ x ∧ wrap64 (Int.tdiv x 10) = Int.tdiv x 10 := by
  rw [Int.tdiv_eq_ediv_of_nonneg (by omega)]
  exact ⟨by omega, by omega, wrap64_id (by omega)⟩
theorem markText_loop : ∀ (n : Nat) (x : Int) (s : ByteArray), x.toNat = n → 0 ≤ x → x ≤ 9223372036854775807 → (s.size : Int) + x ≤ 9000000000000000000 → ∃ t, Ev (fun k => laws_markText.l0 k x s) t := by
  intro n
  induction n using Nat.strongRecOn with
  | _ n ih =>
    intro x s hx h0 h1 h2
    by_cases h : x > 0
    · obtain ⟨d1, d2, d3⟩ := tdiv10 x h h1
      have hsz : ((strOfNums [wrap64 (48 + Int.tmod x 10) % 256]) ++ s).size = 1 + s.size := by rw [ByteArray.size_append, strOf_one]
      obtain ⟨t, ht⟩ := ih (Int.tdiv x 10).toNat (by omega) (Int.tdiv x 10) ((strOfNums [wrap64 (48 + Int.tmod x 10) % 256]) ++ s) rfl d1 (by omega) (by rw [hsz]; omega)
      refine ⟨t, Ev.step (f := fun k => laws_markText.l0 k (Int.tdiv x 10) ((strOfNums [wrap64 (48 + Int.tmod x 10) % 256]) ++ s)) (fun k => ?_) ht⟩
      simp only [laws_markText.l0]
      rw [if_pos h]
      simp only [Option.bind_some]
      rw [if_pos (by rw [strOf_one]; omega), d3]
    · refine ⟨_, Ev.step (f := fun _ => some ((⟨#[109]⟩ : ByteArray) ++ s)) (fun k => ?_) (Ev.pure rfl)⟩
      simp only [laws_markText.l0]
      rw [if_neg h, if_pos (by omega)]
theorem markText_ev (x : Int) (h : x ≤ 9000000000000000000) : ∃ t, Ev (fun k => laws_markText.f k x) t := by
  unfold laws_markText.f
  by_cases h0 : x ≤ 0
  · exact ⟨_, Ev.pos h0 (Ev.pure rfl)⟩
  · obtain ⟨t, ht⟩ := markText_loop x.toNat x ⟨#[]⟩ rfl (by omega) (by omega) (by show (0 : Int) + x ≤ _; omega)
    exact ⟨t, Ev.neg h0 ht⟩
theorem markRowS_loop (n : Nat) (hn : n ≤ 1099511627776) : ∀ (d i : Nat) (l : List S47), i + d = n → l.length = n → ∃ r : Int × List S47, Ev (fun k => laws_markRowS.l0 k l (((3 * i + 1 : Nat)) : Int) (i : Int)) r ∧ 0 ≤ r.1 := by
  intro d
  induction d with
  | zero =>
    intro i l hi hl
    exact ⟨(_, l), Ev.step (f := fun _ => some (((3 * i + 1 : Nat) : Int), l)) (fun k => by simp only [laws_markRowS.l0]; rw [if_neg (by omega)]) (Ev.pure rfl), by show (0 : Int) ≤ ((3 * i + 1 : Nat) : Int); omega⟩
  | succ d ih =>
    intro i l hi hl
    have w1 : wrap64 (((3 * i + 1 : Nat) : Int) + 1) = ((3 * i + 1 : Nat) : Int) + 1 := wrap64_id (by omega)
    have w2 : wrap64 (((3 * i + 1 : Nat) : Int) + 1 + 1) = ((3 * i + 1 : Nat) : Int) + 1 + 1 := wrap64_id (by omega)
    have w3 : wrap64 (((3 * i + 1 : Nat) : Int) + 1 + 1 + 1) = ((3 * (i + 1) + 1 : Nat) : Int) := by rw [wrap64_id (by omega)]; omega
    obtain ⟨t, ht⟩ := markText_ev (((3 * i + 1 : Nat) : Int) + 1 + 1) (by omega)
    obtain ⟨y1, hy1⟩ : ∃ y, y = l.set i (⟨((3 * i + 1 : Nat) : Int), (rd_T47 l (i : Int)).f1, (rd_T47 l (i : Int)).f2⟩ : S47) := ⟨_, rfl⟩
    obtain ⟨y2, hy2⟩ : ∃ y, y = y1.set i (⟨(rd_T47 y1 (i : Int)).f0, ((3 * i + 1 : Nat) : Int) + 1, (rd_T47 y1 (i : Int)).f2⟩ : S47) := ⟨_, rfl⟩
    obtain ⟨r, hr, h0⟩ := ih (i + 1) (y2.set i (⟨(rd_T47 y2 (i : Int)).f0, (rd_T47 y2 (i : Int)).f1, t⟩ : S47)) (by omega) (by rw [hy2, hy1]; simpa using hl)
    refine ⟨r, Ev.step (f := fun k => (laws_markText.f k (((3 * i + 1 : Nat) : Int) + 1 + 1)).bind fun t => laws_markRowS.l0 k (y2.set i (⟨(rd_T47 y2 (i : Int)).f0, (rd_T47 y2 (i : Int)).f1, t⟩ : S47)) ((3 * (i + 1) + 1 : Nat) : Int) ((i + 1 : Nat) : Int)) (fun k => ?_) (Ev.bind ht hr), h0⟩
    simp only [laws_markRowS.l0]
    rw [if_pos (by omega), if_pos (by omega)]
    simp only [Option.bind_some, w1, w2, w3, wrap_succ i (show i ≤ 1099511627776 by omega), Int.toNat_natCast]
    rw [← hy1, ← hy2]
theorem markRowS_ev (l : List S47) (hl : l.length ≤ 1099511627776) : ∃ r : Int × List S47, Ev (fun k => laws_markRowS.f k l 1) r ∧ 0 ≤ r.1 := by
  unfold laws_markRowS.f
  exact markRowS_loop l.length hl l.length 0 l (by omega) rfl
end Go.Proofs.YtaajcbbbmpdcnaaDoor.P
