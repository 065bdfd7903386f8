/- The exact laws' own marks on entries: marked anew, and held as marked. Condition: lists that memory can hold. -/
import Derived.Test.YtlpfjabfhgfpmaaDoorBaseAdd
import Derived.Test.YtlpfjabfhgfpmaaDoorPx13
import Derived.Test.YtlpfjabfhgfpmaaDoorPx13
import Derived.Test.YtlpfjabfhgfpmaaDoorPx14
namespace Go.Proofs.YtlpfjabfhgfpmaaDoor.P
open Go.RowKit Go.Proofs.YtlpfjabfhgfpmaaDoorW.PrintWords Go.Proofs.YtlpfjabfhgfpmaaDoorW.PrintLast
set_option linter.unusedVariables false
set_option linter.unusedSimpArgs false
theorem strOf_one (x : Int) : (strOfNums [x]).size = 1 := rfl
theorem tdiv10 (x : Int) (h : 0 < x) (h2 : x ≤ 9223372036854775807) : 0 ≤ Int.tdiv x 10 ∧ Int.tdiv x 10 + 1 ≤ x ∧ wrap64 (Int.tdiv x 10) = Int.tdiv x 10 := by
  rw [Int.tdiv_eq_ediv_of_nonneg (by omega)]
  exact ⟨by omega, by omega, wrap64_id (by omega)⟩
theorem markText_loop : ∀ (n : Nat) (x : Int) (s : ByteArray), x.toNat = n → 0 ≤ x → x ≤ 9223372036854775807 → (s.size : Int) + x ≤ 9000000000000000000 → ∃ t, Ev (fun k => laws_markText.l0 k x s) t := by
  intro n
  induction n using Nat.strongRecOn with
  | _ n ih =>
    intro x s hx h0 h1 h2
    by_cases h : x > 0
    · obtain ⟨d1, d2, d3⟩ := tdiv10 x h h1
      have hsz : ((strOfNums [wrap64 (48 + Int.tmod x 10) % 256]) ++ s).size = 1 + s.size := by rw [ByteArray.size_append, strOf_one]
      obtain ⟨t, ht⟩ := ih (Int.tdiv x 10).toNat (by omega) (Int.tdiv x 10) ((strOfNums [wrap64 (48 + Int.tmod x 10) % 256]) ++ s) rfl d1 (by omega) (by rw [hsz]; omega)
      refine ⟨t, Ev.step (f := fun k => laws_markText.l0 k (Int.tdiv x 10) ((strOfNums [wrap64 (48 + Int.tmod x 10) % 256]) ++ s)) (fun k => ?_) ht⟩
      simp only [laws_markText.l0]
      rw [if_pos h]
      simp only [Option.bind_some]
      rw [if_pos (by rw [strOf_one]; omega), d3]
    · refine ⟨_, Ev.step (f := fun _ => some ((⟨#[109]⟩ : ByteArray) ++ s)) (fun k => ?_) (Ev.pure rfl)⟩
      simp only [laws_markText.l0]
      rw [if_neg h, if_pos (by omega)]
theorem markText_ev (x : Int) (h : x ≤ 9000000000000000000) : ∃ t, Ev (fun k => laws_markText.f k x) t := by
  unfold laws_markText.f
  by_cases h0 : x ≤ 0
  · exact ⟨_, Ev.pos h0 (Ev.pure rfl)⟩
  · obtain ⟨t, ht⟩ := markText_loop x.toNat x ⟨#[]⟩ rfl (by omega) (by omega) (by show (0 : Int) + x ≤ _; omega)
    exact ⟨t, Ev.neg h0 ht⟩

theorem markEntryS_loop (n : Nat) (hn : n ≤ 1099511627776) : ∀ (d i : Nat) (l : List S26), i + d = n → l.length = n → ∃ M : List S26, M.length = n ∧ M.take i = l.take i ∧ Ev (fun k => laws_markEntryS.l0 k l (((7 * i + 1 : Nat)) : Int) (i : Int)) (((7 * n + 1 : Nat) : Int), M) ∧ Ev (fun k => laws_heldEntryS.l0 k M (((7 * i + 1 : Nat)) : Int) (i : Int)) ((7 * n + 1 : Nat) : Int) := by
  intro d
  induction d with
  | zero =>
    intro i l hi hl
    have e : i = n := by omega
    subst e
    exact ⟨l, hl, rfl, Ev.step (f := fun _ => some (((7 * i + 1 : Nat) : Int), l)) (fun k => by simp only [laws_markEntryS.l0]; rw [if_neg (by omega)]) (Ev.pure rfl), Ev.step (f := fun _ => some ((7 * i + 1 : Nat) : Int)) (fun k => by simp only [laws_heldEntryS.l0]; rw [if_neg (by omega)]) (Ev.pure rfl)⟩
  | succ d ih =>
    intro i l hi hl
    have hlt : i < l.length := by omega
    obtain ⟨c, hc⟩ : ∃ c : Int, c = ((7 * i + 1 : Nat) : Int) := ⟨_, rfl⟩
    have w1 : wrap64 (c + 1) = c + 1 := by rw [wrap64_id (by omega)]; try omega
    have w2 : wrap64 ((c + 1) + 1) = c + 2 := by rw [wrap64_id (by omega)]; try omega
    have w3 : wrap64 ((c + 2) + 1) = c + 3 := by rw [wrap64_id (by omega)]; try omega
    have w4 : wrap64 ((c + 3) + 1) = c + 4 := by rw [wrap64_id (by omega)]; try omega
    have w5 : wrap64 ((c + 4) + 1) = c + 5 := by rw [wrap64_id (by omega)]; try omega
    have w6 : wrap64 ((c + 5) + 1) = c + 6 := by rw [wrap64_id (by omega)]; try omega
    have w7 : wrap64 ((c + 6) + 1) = c + 7 := by rw [wrap64_id (by omega)]; try omega
    have w8 : c + 7 = ((7 * (i + 1) + 1 : Nat) : Int) := by omega
    obtain ⟨t, ht⟩ := markText_ev (c + 6) (by omega)
    obtain ⟨y0, hy0⟩ : ∃ y, y = l.set i (⟨c, (rd_T26 l (i : Int)).f1, ⟨(rd_T26 l (i : Int)).f2.f0, (rd_T26 l (i : Int)).f2.f1, (rd_T26 l (i : Int)).f2.f2, (rd_T26 l (i : Int)).f2.f3, (rd_T26 l (i : Int)).f2.f4⟩⟩ : S26) := ⟨_, rfl⟩
    obtain ⟨y1, hy1⟩ : ∃ y, y = y0.set i (⟨(rd_T26 y0 (i : Int)).f0, c + 1, ⟨(rd_T26 y0 (i : Int)).f2.f0, (rd_T26 y0 (i : Int)).f2.f1, (rd_T26 y0 (i : Int)).f2.f2, (rd_T26 y0 (i : Int)).f2.f3, (rd_T26 y0 (i : Int)).f2.f4⟩⟩ : S26) := ⟨_, rfl⟩
    obtain ⟨y2, hy2⟩ : ∃ y, y = y1.set i (⟨(rd_T26 y1 (i : Int)).f0, (rd_T26 y1 (i : Int)).f1, ⟨c + 2, (rd_T26 y1 (i : Int)).f2.f1, (rd_T26 y1 (i : Int)).f2.f2, (rd_T26 y1 (i : Int)).f2.f3, (rd_T26 y1 (i : Int)).f2.f4⟩⟩ : S26) := ⟨_, rfl⟩
    obtain ⟨y3, hy3⟩ : ∃ y, y = y2.set i (⟨(rd_T26 y2 (i : Int)).f0, (rd_T26 y2 (i : Int)).f1, ⟨(rd_T26 y2 (i : Int)).f2.f0, c + 3, (rd_T26 y2 (i : Int)).f2.f2, (rd_T26 y2 (i : Int)).f2.f3, (rd_T26 y2 (i : Int)).f2.f4⟩⟩ : S26) := ⟨_, rfl⟩
    obtain ⟨y4, hy4⟩ : ∃ y, y = y3.set i (⟨(rd_T26 y3 (i : Int)).f0, (rd_T26 y3 (i : Int)).f1, ⟨(rd_T26 y3 (i : Int)).f2.f0, (rd_T26 y3 (i : Int)).f2.f1, c + 4, (rd_T26 y3 (i : Int)).f2.f3, (rd_T26 y3 (i : Int)).f2.f4⟩⟩ : S26) := ⟨_, rfl⟩
    obtain ⟨y5, hy5⟩ : ∃ y, y = y4.set i (⟨(rd_T26 y4 (i : Int)).f0, (rd_T26 y4 (i : Int)).f1, ⟨(rd_T26 y4 (i : Int)).f2.f0, (rd_T26 y4 (i : Int)).f2.f1, (rd_T26 y4 (i : Int)).f2.f2, c + 5, (rd_T26 y4 (i : Int)).f2.f4⟩⟩ : S26) := ⟨_, rfl⟩
    obtain ⟨y6, hy6⟩ : ∃ y, y = y5.set i (⟨(rd_T26 y5 (i : Int)).f0, (rd_T26 y5 (i : Int)).f1, ⟨(rd_T26 y5 (i : Int)).f2.f0, (rd_T26 y5 (i : Int)).f2.f1, (rd_T26 y5 (i : Int)).f2.f2, (rd_T26 y5 (i : Int)).f2.f3, t⟩⟩ : S26) := ⟨_, rfl⟩
    have hlen : y6.length = n := by rw [hy6, hy5, hy4, hy3, hy2, hy1, hy0]; simpa using hl
    obtain ⟨M, m1, m2, m3, m4⟩ := ih (i + 1) y6 (by omega) hlen
    have r0 : ∀ (z : List S26) (y : S26), z.length = n → rd_T26 (z.set i y) (i : Int) = y := fun z y hz => by rw [rd_ent _ i (by simp; omega)]; simp
    have l0 : y0.length = n := by rw [hy0]; simpa using hl
    have l1 : y1.length = n := by rw [hy1]; simpa using l0
    have l2 : y2.length = n := by rw [hy2]; simpa using l1
    have l3 : y3.length = n := by rw [hy3]; simpa using l2
    have l4 : y4.length = n := by rw [hy4]; simpa using l3
    have l5 : y5.length = n := by rw [hy5]; simpa using l4
    have l6 : y6.length = n := by rw [hy6]; simpa using l5
    have q0 : rd_T26 y0 (i : Int) = (⟨c, (rd_T26 l (i : Int)).f1, ⟨(rd_T26 l (i : Int)).f2.f0, (rd_T26 l (i : Int)).f2.f1, (rd_T26 l (i : Int)).f2.f2, (rd_T26 l (i : Int)).f2.f3, (rd_T26 l (i : Int)).f2.f4⟩⟩ : S26) := by rw [hy0]; exact r0 l _ hl
    have q1 : rd_T26 y1 (i : Int) = (⟨(rd_T26 y0 (i : Int)).f0, c + 1, ⟨(rd_T26 y0 (i : Int)).f2.f0, (rd_T26 y0 (i : Int)).f2.f1, (rd_T26 y0 (i : Int)).f2.f2, (rd_T26 y0 (i : Int)).f2.f3, (rd_T26 y0 (i : Int)).f2.f4⟩⟩ : S26) := by rw [hy1]; exact r0 y0 _ l0
    have q2 : rd_T26 y2 (i : Int) = (⟨(rd_T26 y1 (i : Int)).f0, (rd_T26 y1 (i : Int)).f1, ⟨c + 2, (rd_T26 y1 (i : Int)).f2.f1, (rd_T26 y1 (i : Int)).f2.f2, (rd_T26 y1 (i : Int)).f2.f3, (rd_T26 y1 (i : Int)).f2.f4⟩⟩ : S26) := by rw [hy2]; exact r0 y1 _ l1
    have q3 : rd_T26 y3 (i : Int) = (⟨(rd_T26 y2 (i : Int)).f0, (rd_T26 y2 (i : Int)).f1, ⟨(rd_T26 y2 (i : Int)).f2.f0, c + 3, (rd_T26 y2 (i : Int)).f2.f2, (rd_T26 y2 (i : Int)).f2.f3, (rd_T26 y2 (i : Int)).f2.f4⟩⟩ : S26) := by rw [hy3]; exact r0 y2 _ l2
    have q4 : rd_T26 y4 (i : Int) = (⟨(rd_T26 y3 (i : Int)).f0, (rd_T26 y3 (i : Int)).f1, ⟨(rd_T26 y3 (i : Int)).f2.f0, (rd_T26 y3 (i : Int)).f2.f1, c + 4, (rd_T26 y3 (i : Int)).f2.f3, (rd_T26 y3 (i : Int)).f2.f4⟩⟩ : S26) := by rw [hy4]; exact r0 y3 _ l3
    have q5 : rd_T26 y5 (i : Int) = (⟨(rd_T26 y4 (i : Int)).f0, (rd_T26 y4 (i : Int)).f1, ⟨(rd_T26 y4 (i : Int)).f2.f0, (rd_T26 y4 (i : Int)).f2.f1, (rd_T26 y4 (i : Int)).f2.f2, c + 5, (rd_T26 y4 (i : Int)).f2.f4⟩⟩ : S26) := by rw [hy5]; exact r0 y4 _ l4
    have q6 : rd_T26 y6 (i : Int) = (⟨(rd_T26 y5 (i : Int)).f0, (rd_T26 y5 (i : Int)).f1, ⟨(rd_T26 y5 (i : Int)).f2.f0, (rd_T26 y5 (i : Int)).f2.f1, (rd_T26 y5 (i : Int)).f2.f2, (rd_T26 y5 (i : Int)).f2.f3, t⟩⟩ : S26) := by rw [hy6]; exact r0 y5 _ l5
    have q7 : rd_T26 y6 (i : Int) = (⟨c, c + 1, ⟨c + 2, c + 3, c + 4, c + 5, t⟩⟩ : S26) := by rw [q6, q5, q4, q3, q2, q1, q0]
    have hM : rd_T26 M (i : Int) = (⟨c, c + 1, ⟨c + 2, c + 3, c + 4, c + 5, t⟩⟩ : S26) := by
      rw [← q7, rd_ent M i (by omega), rd_ent y6 i (by omega)]
      have h1 := congrArg (fun z => z[i]?) m2
      simp only [List.getElem?_take_of_lt (Nat.lt_succ_self i)] at h1
      rw [List.getElem?_eq_getElem (by omega), List.getElem?_eq_getElem (by omega)] at h1
      exact Option.some.inj h1
    refine ⟨M, m1, ?_, ?_, ?_⟩
    · have h1 := congrArg (List.take i) m2
      rw [List.take_take, List.take_take, Nat.min_eq_left (Nat.le_succ i)] at h1
      rw [h1, hy6, hy5, hy4, hy3, hy2, hy1, hy0]
      simp only [List.take_set_of_le (Nat.le_refl i)]
    · rw [← hc]
      refine Ev.step (f := fun k => (laws_markText.f k (c + 6)).bind fun t => laws_markEntryS.l0 k (y5.set i (⟨(rd_T26 y5 (i : Int)).f0, (rd_T26 y5 (i : Int)).f1, ⟨(rd_T26 y5 (i : Int)).f2.f0, (rd_T26 y5 (i : Int)).f2.f1, (rd_T26 y5 (i : Int)).f2.f2, (rd_T26 y5 (i : Int)).f2.f3, t⟩⟩ : S26)) (((7 * (i + 1) + 1 : Nat)) : Int) ((i + 1 : Nat) : Int)) (fun k => ?_) (Ev.bind ht (by rw [← hy6]; exact m3))
      simp only [laws_markEntryS.l0]
      rw [if_pos (by omega), if_pos (by omega)]
      simp only [Option.bind_some, Int.toNat_natCast, w1, w2, w3, w4, w5, w6, w7, wrapS i (show i ≤ 1099511627776 by omega)]
      rw [← hy0, ← hy1, ← hy2, ← hy3, ← hy4, ← hy5, w8]
    · rw [← hc]
      refine Ev.step (f := fun k => (laws_markText.f k (c + 6)).bind fun t2 => if t.toList = t2.toList then laws_heldEntryS.l0 k M (((7 * (i + 1) + 1 : Nat)) : Int) ((i + 1 : Nat) : Int) else some (-1)) (fun k => ?_) (Ev.bind ht (Ev.pos rfl m4))
      simp only [laws_heldEntryS.l0]
      rw [if_pos (by omega), if_pos (by omega), hM]
      simp only [w1, w2, w3, w4, w5, w6, w7, wrapS i (show i ≤ 1099511627776 by omega), if_true, w8]
/-- Marked: and so held. -/
theorem markEntryS_ev (l : List S26) (hl : l.length ≤ 1099511627776) : ∃ M : List S26, Ev (fun k => laws_markEntryS.f k l 1) (((7 * l.length + 1 : Nat) : Int), M) ∧ Ev (fun k => laws_heldEntryS.f k M 1) ((7 * l.length + 1 : Nat) : Int) := by
  obtain ⟨M, _, _, h1, h2⟩ := markEntryS_loop l.length hl l.length 0 l (by omega) rfl
  exact ⟨M, h1, h2⟩
end Go.Proofs.YtlpfjabfhgfpmaaDoor.P
