/- What the reader of draws gives: a number in its range, the place one further; no draw runs out or panics. Condition: at most 2000 bytes, a place below 10^9, a range up to 10^6. -/
import Derived.Test.YtkoodlmedgfdjaaGreatDoorBaseRow
import Derived.Test.YtkoodlmedgfdjaaGreatDoorPx4
import Derived.Test.YtkoodlmedgfdjaaGreatDoorPx3
import Derived.Test.YtkoodlmedgfdjaaGreatDoorPx4
import Derived.Test.YtkoodlmedgfdjaaGreatDoorPx4
import Derived.Test.YtkoodlmedgfdjaaGreatDoorPx3
import Derived.Test.YtkoodlmedgfdjaaGreatDoorPx4
namespace Go.Proofs.YtkoodlmedgfdjaaGreatDoor.P
open Go.RowKit Go.Proofs.YtkoodlmedgfdjaaGreatDoorW.PrintWords Go.Proofs.YtkoodlmedgfdjaaGreatDoorW.PrintLast
set_option linter.unusedVariables false
set_option linter.unusedSimpArgs false

theorem xor_nonneg (a b : Int) (ha : 0 ≤ a ∧ a < 9223372036854775808) (hb : 0 ≤ b ∧ b < 9223372036854775808) : 0 ≤ Go.bits .xor .i64 a b ∧ Go.bits .xor .i64 a b < 9223372036854775808 := by
  obtain ⟨a, rfl⟩ := Int.eq_ofNat_of_zero_le ha.1
  obtain ⟨b, rfl⟩ := Int.eq_ofNat_of_zero_le hb.1
  have hx : a ^^^ b < 2 ^ 63 := Nat.xor_lt_two_pow (by omega) (by omega)
  have h1 : (BitVec.ofInt 64 (a : Int)).toNat = a := by
    rw [BitVec.ofInt_natCast, BitVec.toNat_ofNat]; exact Nat.mod_eq_of_lt (by omega)
  have h2 : (BitVec.ofInt 64 (b : Int)).toNat = b := by
    rw [BitVec.ofInt_natCast, BitVec.toNat_ofNat]; exact Nat.mod_eq_of_lt (by omega)
  have h3 : Go.bits .xor .i64 (a : Int) (b : Int) = IntKind.i64.wrap ((BitVec.ofInt 64 (a : Int) ^^^ BitVec.ofInt 64 (b : Int)).toNat : Int) := rfl
  rw [h3, BitVec.toNat_xor, h1, h2]
  have h4 : IntKind.i64.wrap ((a ^^^ b : Nat) : Int) = ((a ^^^ b : Nat) : Int) := by
    simp only [IntKind.wrap, IntKind.bits, IntKind.signed]
    simp
    omega
  rw [h4]; omega

/-- The bytes that a reader reads. -/
def RdOk (b : List Int) : Prop := b.length ≤ 2000 ∧ ∀ x ∈ b, 0 ≤ x ∧ x ≤ 255
theorem l6Open_eq (l : List Int) : spec_l6Open.f l = some (l.take 2000, 0) := by
  unfold spec_l6Open.f
  by_cases h : (l.length : Int) > 2000
  · rw [if_pos h, if_pos (by omega)]
  · rw [if_neg h, List.take_of_length_le (by omega)]
theorem RdOk.open_ (l : List Int) (h : ∀ x ∈ l, (Lit.int .u8 x).wf = true) : RdOk (l.take 2000) :=
  ⟨List.length_take_le _ _, fun x hx => wf8.1 (h x (List.mem_of_mem_take hx))⟩
theorem RdOk.rng {b : List Int} (h : RdOk b) (i : Int) (h0 : 0 ≤ i) (h1 : i < b.length) : 0 ≤ rd b i ∧ rd b i ≤ 255 := by
  unfold rd
  have e : b.getD i.toNat 0 = b[i.toNat]'(by omega) := by simp [List.getD, show i.toNat < b.length by omega]
  rw [e]
  exact h.2 _ (List.getElem_mem _)
theorem tmod_rng (x n : Int) (hx : 0 ≤ x) (hn : 1 ≤ n) : 0 ≤ Int.tmod x n ∧ Int.tmod x n < n := by
  rw [Int.tmod_eq_emod_of_nonneg hx]
  exact ⟨Int.emod_nonneg _ (by omega), Int.emod_lt_of_pos _ (by omega)⟩
/-- One draw. -/
theorem pick_ev (b : List Int) (hb : RdOk b) (p n : Int) (hp : 0 ≤ p ∧ p ≤ 1000000000) (hn : 1 ≤ n) : ∃ v, Ev (fun k => spec_l6Rd_pick.f k b p n) (v, p + 1) ∧ 0 ≤ v ∧ v < n := by
  have w1 : wrap64 (p + 1) = p + 1 := wrap64_id (by omega)
  have w2 : wrap64 (p + 1 - 1) = p := by rw [show p + 1 - 1 = p by omega]; exact wrap64_id (by omega)
  unfold spec_l6Rd_pick.f
  simp only [w1]
  by_cases h0 : (b.length : Int) = 0
  · refine ⟨0, ?_, by omega, by omega⟩
    refine Ev.neg (by omega) (Ev.step (f := fun _ => some (0, p + 1)) (fun k => ?_) (Ev.pure rfl))
    simp only [spec_l6Rd_pick.j0]; rw [if_pos (by rw [h0]; rfl)]
  · have hl := hb.1
    have hbl : ¬ ((b.length : Int) == 0) = true := by simpa using h0
    by_cases h1 : p < (b.length : Int)
    · have hr := hb.rng p hp.1 h1
      have hm := tmod_rng (rd b p) n hr.1 hn
      refine ⟨Int.tmod (rd b p) n, ?_, hm⟩
      refine Ev.neg (by omega) (Ev.step (f := fun _ => some (Int.tmod (rd b p) n, p + 1)) (fun k => ?_) (Ev.pure rfl))
      simp only [spec_l6Rd_pick.j0, w2]
      rw [if_neg hbl, if_pos h1, if_pos hp.1, if_neg (by omega), wrap64_id (a := rd b p) (by omega)]
    · have t0 := tmod_rng p b.length hp.1 (by omega)
      have w3 : wrap64 (p * 7) = p * 7 := wrap64_id (by omega)
      have w4 : wrap64 (p * 7 + 3) = p * 7 + 3 := wrap64_id (by omega)
      have t1 := tmod_rng (p * 7 + 3) b.length (by omega) (by omega)
      have r0 := hb.rng _ t0.1 t0.2
      have r1 := hb.rng _ t1.1 t1.2
      have d0 : 0 ≤ Int.tdiv p b.length ∧ Int.tdiv p b.length ≤ p := by
        rw [Int.tdiv_eq_ediv_of_nonneg hp.1]
        exact ⟨Int.ediv_nonneg hp.1 (by omega), Int.ediv_le_self _ hp.1⟩
      generalize hA : rd b (Int.tmod p (b.length : Int)) = A at r0
      generalize hB : rd b (Int.tmod (p * 7 + 3) (b.length : Int)) = B at r1
      generalize hD : Int.tdiv p (b.length : Int) = D at d0
      have e1 : wrap64 A = A := wrap64_id (by omega)
      have e2 : wrap64 (A * 131) = A * 131 := wrap64_id (by omega)
      have e3 : wrap64 B = B := wrap64_id (by omega)
      have e4 : wrap64 (B * 1117) = B * 1117 := wrap64_id (by omega)
      have e5 : wrap64 (A * 131 + B * 1117) = A * 131 + B * 1117 := wrap64_id (by omega)
      have e6 : wrap64 (p * 29) = p * 29 := wrap64_id (by omega)
      have e7 : wrap64 (A * 131 + B * 1117 + p * 29) = A * 131 + B * 1117 + p * 29 := wrap64_id (by omega)
      have e8 : wrap64 D = D := wrap64_id (by omega)
      have e9 : wrap64 (D * 53) = D * 53 := wrap64_id (by omega)
      have e10 : wrap64 (A * 131 + B * 1117 + p * 29 + D * 53) = A * 131 + B * 1117 + p * 29 + D * 53 := wrap64_id (by omega)
      generalize hX : A * 131 + B * 1117 + p * 29 + D * 53 = X at e10
      have hX0 : 0 ≤ X ∧ X < 9223372036854775808 := by omega
      have d1 : 0 ≤ Int.tdiv X 64 ∧ Int.tdiv X 64 ≤ X := by
        rw [Int.tdiv_eq_ediv_of_nonneg hX0.1]
        exact ⟨Int.ediv_nonneg hX0.1 (by omega), Int.ediv_le_self _ hX0.1⟩
      have e11 : wrap64 (Int.tdiv X 64) = Int.tdiv X 64 := wrap64_id (by omega)
      have hx := xor_nonneg X (Int.tdiv X 64) hX0 (by omega)
      have hm := tmod_rng _ n hx.1 hn
      refine ⟨Int.tmod (Go.bits .xor .i64 X (Int.tdiv X 64)) n, ?_, hm⟩
      refine Ev.neg (by omega) (Ev.step (f := fun _ => some (Int.tmod (Go.bits .xor .i64 X (Int.tdiv X 64)) n, p + 1)) (fun k => ?_) (Ev.pure rfl))
      simp only [spec_l6Rd_pick.j0, w2, w3, w4]
      rw [if_neg hbl, if_neg h1, if_neg h0, if_pos t0.1, if_pos t0.2, if_pos t1.1, if_pos t1.2, if_neg (by omega)]
      simp only [hA, hB, hD, e1, e2, e3, e4, e5, e6, e7, e8, e9, hX, e10, e11]
/-- A word out of a list. -/
theorem of_ev (b : List Int) (hb : RdOk b) (p : Int) (hp : 0 ≤ p ∧ p ≤ 1000000000) (l : List ByteArray) (hl : l ≠ []) : ∃ s, Ev (fun k => spec_l6Rd_of.f k b p l) (s, p + 1) ∧ s ∈ l := by
  have h1 : 1 ≤ (l.length : Int) := by have := List.length_pos_iff.2 hl; omega
  obtain ⟨v, hv, h0, h2⟩ := pick_ev b hb p l.length hp h1
  refine ⟨rdOf ByteArray.empty l v, ?_, ?_⟩
  · unfold spec_l6Rd_of.f
    exact Ev.bind hv (Ev.pos h0 (Ev.pos h2 (Ev.pure rfl)))
  · unfold rdOf
    have e : l.getD v.toNat ByteArray.empty = l[v.toNat]'(by omega) := by simp [List.getD, show v.toNat < l.length by omega]
    rw [e]; exact List.getElem_mem _
/-- A text: some letters, and seldom something else behind them. -/
theorem text_ev (b : List Int) (hb : RdOk b) (p : Int) (hp : 0 ≤ p ∧ p ≤ 900000000) : ∃ s q, Ev (fun k => spec_l71Text.f k b p) (s, q) ∧ s.size ≤ 7 ∧ p ≤ q ∧ q ≤ p + 7 := by
  have loop : ∀ (n : Nat) (s : ByteArray) (q : Int), n ≤ 3 → 0 ≤ q ∧ q + n ≤ 950000000 → s.size + n ≤ 3 → ∃ s' q', Ev (fun k => spec_l71Text.l0 k s (n : Int) b q) (s', q') ∧ s'.size ≤ 7 ∧ q ≤ q' ∧ q' ≤ q + n + 2 := by
    intro n
    induction n with
    | zero =>
      intro s q _ hq hs
      obtain ⟨v, hv, h0, h1⟩ := pick_ev b hb q 40 (by omega) (by omega)
      by_cases hz : v = 0
      · obtain ⟨x, hx, hm⟩ := of_ev b hb (q + 1) (by omega) [(⟨#[101]⟩ : ByteArray), (⟨#[32]⟩ : ByteArray), (⟨#[97, 97, 97, 97]⟩ : ByteArray), (⟨#[39]⟩ : ByteArray)] (by simp)
        have hxs : x.size ≤ 4 := by simp at hm; rcases hm with rfl | rfl | rfl | rfl <;> decide
        refine ⟨s ++ x, q + 1 + 1, ?_, by rw [ByteArray.size_append]; omega, by omega, by omega⟩
        refine Ev.step (fun k => by simp only [spec_l71Text.l0]; rw [if_neg (by decide)]) ?_
        exact Ev.bind hv (Ev.pos hz (Ev.bind hx (Ev.pos (by dsimp only; omega) (Ev.pure rfl))))
      · refine ⟨s, q + 1, ?_, by omega, by omega, by omega⟩
        refine Ev.step (fun k => by simp only [spec_l71Text.l0]; rw [if_neg (by decide)]) ?_
        exact Ev.bind hv (Ev.neg hz (Ev.pure rfl))
    | succ n ih =>
      intro s q hn hq hs
      obtain ⟨x, hx, hm⟩ := of_ev b hb q (by omega) [(⟨#[97]⟩ : ByteArray), (⟨#[98]⟩ : ByteArray), (⟨#[99]⟩ : ByteArray), (⟨#[100]⟩ : ByteArray)] (by simp)
      have hxs : x.size = 1 := by simp at hm; rcases hm with rfl | rfl | rfl | rfl <;> decide
      have hsz : (s ++ x).size = s.size + 1 := by rw [ByteArray.size_append, hxs]
      obtain ⟨s', q', h', h1, h2, h3⟩ := ih (s ++ x) (q + 1) (by omega) (by omega) (by omega)
      refine ⟨s', q', ?_, h1, by omega, by omega⟩
      refine Ev.step (fun k => by simp only [spec_l71Text.l0]; rw [if_pos (by omega)]) ?_
      refine Ev.bind hx (Ev.pos (by dsimp only; omega) ?_)
      have e : wrap64 (((n + 1 : Nat) : Int) - 1) = (n : Int) := by rw [show ((n + 1 : Nat) : Int) - 1 = (n : Int) by omega]; exact wrap64_id (by omega)
      simp only [e]
      exact h'
  obtain ⟨v, hv, h0, h1⟩ := pick_ev b hb p 4 (by omega) (by omega)
  obtain ⟨n, rfl⟩ := Int.eq_ofNat_of_zero_le h0
  obtain ⟨s', q', h', h2, h3, h4⟩ := loop n (⟨#[]⟩ : ByteArray) (p + 1) (by omega) (by omega) (by show 0 + n ≤ _; omega)
  refine ⟨s', q', ?_, h2, by omega, by omega⟩
  unfold spec_l71Text.f
  exact Ev.bind hv h'
end Go.Proofs.YtkoodlmedgfdjaaGreatDoor.P
