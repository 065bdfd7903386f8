/- What the draws of logs give: no draw runs out or panics; some entries, few, such as memory can hold. Condition: the bytes that a reader reads. -/
import Derived.Test.YtlpfjabfhgfpmaaDoorBaseFlow
import Derived.Test.YtlpfjabfhgfpmaaDoorPx7
import Derived.Test.YtlpfjabfhgfpmaaDoorPx8
import Derived.Test.YtlpfjabfhgfpmaaDoorPx11
import Derived.Test.YtlpfjabfhgfpmaaDoorBaseEntD
import Derived.Test.YtlpfjabfhgfpmaaDoorPx12
namespace Go.Proofs.YtlpfjabfhgfpmaaDoor.P
open Go.RowKit Go.Proofs.YtlpfjabfhgfpmaaDoorW.PrintWords Go.Proofs.YtlpfjabfhgfpmaaDoorW.PrintLast
set_option linter.unusedVariables false
set_option linter.unusedSimpArgs false
theorem rid_ev (b : List Int) (hb : RdOk b) (p : Int) (hp : 0 ≤ p ∧ p ≤ 900000000) : ∃ v, Ev (fun k => spec_l71Id.f k b p) (v, p + 1 + 1) ∧ 11 ≤ v ∧ v ≤ 100 := by
 obtain ⟨x, hx, x0, x1⟩ := pick_ev b hb p 3 (by omega) (by omega)
 obtain ⟨y, hy, y0, y1⟩ := pick_ev b hb (p + 1) 4 (by omega) (by omega)
 refine ⟨10 * (1 + x) + 1 + y, ?_, by omega, by omega⟩
 unfold spec_l71Id.f
 refine Ev.bind hx (Ev.bind hy (Ev.pure ?_))
 simp only
 rw [wrap64_id (a := 1 + x) (by omega), wrap64_id (a := 10 * (1 + x)) (by omega), wrap64_id (a := 10 * (1 + x) + 1) (by omega), wrap64_id (a := 10 * (1 + x) + 1 + y) (by omega)]
theorem rmade_ev (who n : Int) (h1 : 1 ≤ who ∧ who ≤ 3) (h2 : 1 ≤ n ∧ n ≤ 6) : spec_RowMade.f who n = some (10 * who + n) := by
 unfold spec_RowMade.f
 simp only [l6In_eq, Option.bind_some]
 rw [if_pos (decide_eq_true h1), if_pos (decide_eq_true h2), wrap64_id (a := 10 * who) (by omega), wrap64_id (a := 10 * who + n) (by omega)]
structure OpDraw (kind id up at_ : Int) (s : ByteArray) : Prop where
 kind : kind = 1 ∨ kind = 2 ∨ kind = 3
 id : (0 ≤ id ∧ id ≤ 100) ∧ id ≠ 3
 up : 0 ≤ up ∧ up ≤ 100
 at_ : 0 ≤ at_ ∧ at_ ≤ 100
 text : s.size ≤ 7
theorem made_big {x : Int} (h : madeB x = true) : 11 ≤ x ∧ x ≤ 36 := by have := madeB_iff.1 h; omega
theorem op4_ev (b : List Int) (hb : RdOk b) (p : Int) (hp : 0 ≤ p ∧ p ≤ 700000000) (who made rid up at_ : Int) (s : ByteArray) (c : Bool) (hw : 1 ≤ who ∧ who ≤ 3) (hm : 0 ≤ made) (hc : c = true → made < 6) (hr : 0 ≤ rid ∧ rid ≤ 100) (hu : 0 ≤ up ∧ up ≤ 100) (ha : 0 ≤ at_ ∧ at_ ≤ 100) (hs : s.size ≤ 7) :
  ∃ kd id u a t q, Ev (fun k => spec_l72Op.j4 k who made rid up at_ s c b p) (kd, id, u, a, t, q) ∧ OpDraw kd id u a t ∧ p ≤ q ∧ q ≤ p + 3 := by
 cases c with
 | true =>
  have h6 := hc rfl
  refine ⟨1, 10 * who + (made + 1), up, at_, s, p, Ev.step (fun k => by simp only [spec_l72Op.j4]; rw [if_pos trivial, wrap64_id (a := made + 1) (by omega)]) (Ev.bindc (rmade_ev who (made + 1) hw (by omega)) (Ev.pure rfl)), ⟨.inl rfl, by omega, hu, ha, hs⟩, by omega, by omega⟩
 | false =>
  have step : ∀ k, spec_l72Op.j4 (k + 1) who made rid up at_ s false b p = _ := fun k => by simp only [spec_l72Op.j4]; rw [if_neg (by decide), l1Made_eq rid (by omega)]
  by_cases h : madeB rid = true
  ·have hb2 := made_big h
   obtain ⟨v, hv, v0, v1⟩ := pick_ev b hb p 3 (by omega) (by omega)
   by_cases hz : v = 0
   ·exact ⟨2, rid, 0, 0, s, p + 1, Ev.step step (Ev.bindc rfl (Ev.pos h (Ev.bind hv (Ev.pos hz (Ev.pure rfl))))), ⟨.inr (.inl rfl), by omega, by omega, by omega, hs⟩, by omega, by omega⟩
   ·exact ⟨3, rid, up, at_, (⟨#[]⟩ : ByteArray), p + 1, Ev.step step (Ev.bindc rfl (Ev.pos h (Ev.bind hv (Ev.neg hz (Ev.pure rfl))))), ⟨.inr (.inr rfl), by omega, hu, ha, by show (0 : Nat) ≤ 7; omega⟩, by omega, by omega⟩
  ·obtain ⟨i, hi, i0, i1⟩ := rid_ev b hb p (by omega)
   obtain ⟨v, hv, v0, v1⟩ := pick_ev b hb (p + 1 + 1) 3 (by omega) (by omega)
   by_cases hz : v = 0
   ·exact ⟨2, i, 0, 0, s, p + 1 + 1 + 1, Ev.step step (Ev.bindc rfl (Ev.neg h (Ev.bind hi (Ev.bind hv (Ev.pos hz (Ev.pure rfl)))))), ⟨.inr (.inl rfl), by omega, by omega, by omega, hs⟩, by omega, by omega⟩
   ·exact ⟨3, i, up, at_, (⟨#[]⟩ : ByteArray), p + 1 + 1 + 1, Ev.step step (Ev.bindc rfl (Ev.neg h (Ev.bind hi (Ev.bind hv (Ev.neg hz (Ev.pure rfl)))))), ⟨.inr (.inr rfl), by omega, hu, ha, by show (0 : Nat) ≤ 7; omega⟩, by omega, by omega⟩
theorem op3_ev (b : List Int) (hb : RdOk b) (p : Int) (hp : 0 ≤ p ∧ p ≤ 600000000) (who made rid up at_ : Int) (s : ByteArray) (hw : 1 ≤ who ∧ who ≤ 3) (hm : 0 ≤ made) (hr : 0 ≤ rid ∧ rid ≤ 100) (hu : 0 ≤ up ∧ up ≤ 100) (ha : 0 ≤ at_ ∧ at_ ≤ 100) (hs : s.size ≤ 7) :
  ∃ kd id u a t q, Ev (fun k => spec_l72Op.j3 k who made rid up at_ s b p) (kd, id, u, a, t, q) ∧ OpDraw kd id u a t ∧ p ≤ q ∧ q ≤ p + 4 := by
 by_cases h6 : made < 6
 ·obtain ⟨v, hv, v0, v1⟩ := pick_ev b hb p 3 (by omega) (by omega)
  by_cases hz : v = 0
  ·obtain ⟨kd, id, u, a, t, q, h1, h2, h3, h4⟩ := op4_ev b hb (p + 1) (by omega) who made rid up at_ s true hw hm (fun _ => h6) hr hu ha hs
   exact ⟨kd, id, u, a, t, q, Ev.step (fun k => by simp only [spec_l72Op.j3]; rw [if_pos h6]) (Ev.bind hv (Ev.pos hz h1)), h2, by omega, by omega⟩
  ·obtain ⟨kd, id, u, a, t, q, h1, h2, h3, h4⟩ := op4_ev b hb (p + 1) (by omega) who made rid up at_ s (!madeB rid) hw hm (fun _ => h6) hr hu ha hs
   exact ⟨kd, id, u, a, t, q, Ev.step (fun k => by simp only [spec_l72Op.j3]; rw [if_pos h6]) (Ev.bind hv (Ev.neg hz (Ev.bindc (l1Made_eq rid (by omega)) h1))), h2, by omega, by omega⟩
 ·obtain ⟨kd, id, u, a, t, q, h1, h2, h3, h4⟩ := op4_ev b hb p (by omega) who made rid up at_ s false hw hm (fun h => by cases h) hr hu ha hs
  exact ⟨kd, id, u, a, t, q, Ev.step (fun k => by simp only [spec_l72Op.j3]; rw [if_neg h6]) h1, h2, by omega, by omega⟩
theorem op1_ev (b : List Int) (hb : RdOk b) (p : Int) (hp : 0 ≤ p ∧ p ≤ 500000000) (who made rid up at_ : Int) (hw : 1 ≤ who ∧ who ≤ 3) (hm : 0 ≤ made) (hr : 0 ≤ rid ∧ rid ≤ 100) (hu : 0 ≤ up ∧ up ≤ 100) (ha : 0 ≤ at_ ∧ at_ ≤ 100) :
  ∃ kd id u a t q, Ev (fun k => spec_l72Op.j1 k who made rid up at_ b p) (kd, id, u, a, t, q) ∧ OpDraw kd id u a t ∧ p ≤ q ∧ q ≤ p + 20 := by
 have two : ∀ (s : ByteArray) (p : Int), s.size ≤ 7 → 0 ≤ p ∧ p ≤ 500000100 → ∃ kd id u a t q, Ev (fun k => spec_l72Op.j2 k who made rid up at_ s b p) (kd, id, u, a, t, q) ∧ OpDraw kd id u a t ∧ p ≤ q ∧ q ≤ p + 8 := by
  intro s p hs hp
  obtain ⟨v, hv, v0, v1⟩ := pick_ev b hb p 6 (by omega) (by omega)
  by_cases hz : v = 0
  ·obtain ⟨i, hi, i0, i1⟩ := rid_ev b hb (p + 1) (by omega)
   obtain ⟨kd, id, u, a, t, q, h1, h2, h3, h4⟩ := op3_ev b hb (p + 1 + 1 + 1) (by omega) who made rid i at_ s hw hm hr (by omega) ha hs
   exact ⟨kd, id, u, a, t, q, Ev.step (fun k => by simp only [spec_l72Op.j2]; rfl) (Ev.bind hv (Ev.pos hz (Ev.bind hi h1))), h2, by omega, by omega⟩
  ·obtain ⟨kd, id, u, a, t, q, h1, h2, h3, h4⟩ := op3_ev b hb (p + 1) (by omega) who made rid up at_ s hw hm hr hu ha hs
   exact ⟨kd, id, u, a, t, q, Ev.step (fun k => by simp only [spec_l72Op.j2]; rfl) (Ev.bind hv (Ev.neg hz h1)), h2, by omega, by omega⟩
 obtain ⟨s, q0, hs, s1, r0, r1⟩ := text_ev b hb p (by omega)
 by_cases ht : textB s = true
 ·obtain ⟨kd, id, u, a, t, q, h1, h2, h3, h4⟩ := two s q0 s1 (by omega)
  exact ⟨kd, id, u, a, t, q, Ev.step (fun k => by simp only [spec_l72Op.j1]; rfl) (Ev.bind hs (Ev.bind (specText_ev s (by omega)) (Ev.pos ht h1))), h2, by omega, by omega⟩
 ·obtain ⟨kd, id, u, a, t, q, h1, h2, h3, h4⟩ := two (⟨#[97]⟩ : ByteArray) q0 (by show (1 : Nat) ≤ 7; omega) (by omega)
  exact ⟨kd, id, u, a, t, q, Ev.step (fun k => by simp only [spec_l72Op.j1]; rfl) (Ev.bind hs (Ev.bind (specText_ev s (by omega)) (Ev.neg ht h1))), h2, by omega, by omega⟩
theorem op72_ev (b : List Int) (hb : RdOk b) (p : Int) (hp : 0 ≤ p ∧ p ≤ 400000000) (t : List S105) (m B : Nat) (hm100 : m ≤ 100) (ht : Flow t m B) (who made : Int) (hw : 1 ≤ who ∧ who ≤ 3) (hm : 0 ≤ made) :
  ∃ kd id u a s q, Ev (fun k => spec_l72Op.f k b p t who made) (kd, id, u, a, s, q) ∧ OpDraw kd id u a s ∧ p ≤ q ∧ q ≤ p + 30 := by
 have hl1 : 1 ≤ t.length := by obtain ⟨x, hx, _⟩ := ht.found; exact List.length_pos_of_mem hx
 have hfew := ht.few
 obtain ⟨v, hv, v0, v1⟩ := pick_ev b hb p (t.length : Int) (by omega) (by omega)
 obtain ⟨w, hw2, w0, w1⟩ := pick_ev b hb (p + 1) (t.length : Int) (by omega) (by omega)
 obtain ⟨v, rfl⟩ := Int.eq_ofNat_of_zero_le v0
 obtain ⟨w, rfl⟩ := Int.eq_ofNat_of_zero_le w0
 have hvl : v < t.length := by omega
 have hwl : w < t.length := by omega
 have fv := flow_at ht.fit hvl
 have fw := flow_at ht.fit hwl
 have hkl := kidIds_len t (rowAt t w).f0
 have head : ∀ (g : Nat → Option (Int × Int × Int × Int × ByteArray × Int)) (r : Int × Int × Int × Int × ByteArray × Int), Ev (fun k => if ((kidIds t (rowAt t w).f0).length : Int) > 0 then ((spec_l6Rd_pick.f k b (p + 1 + 1) 2).bind fun bt => spec_l72Op.j0 k who made (rowAt t v).f0 (rowAt t w).f0 (kidIds t (rowAt t w).f0) 0 (bt.1 == 0) b bt.2) else spec_l72Op.j0 k who made (rowAt t v).f0 (rowAt t w).f0 (kidIds t (rowAt t w).f0) 0 false b (p + 1 + 1)) r → Ev (fun k => spec_l72Op.f k b p t who made) r := by
  intro g r h
  unfold spec_l72Op.f
  refine Ev.bind hv (Ev.pos (by omega) (Ev.pos (by omega) (Ev.bind hw2 (Ev.pos (by omega) (Ev.pos (by omega) ?_)))))
  simp only [rd_row t hvl, rd_row t hwl]
  exact Ev.bind (l2Kids_ev t (by omega) _) h
 have zero : ∀ (c : Bool) (q0 : Int), p + 2 ≤ q0 ∧ q0 ≤ p + 3 → (c = true → 0 < (kidIds t (rowAt t w).f0).length) → ∃ kd id u a s q, Ev (fun k => spec_l72Op.j0 k who made (rowAt t v).f0 (rowAt t w).f0 (kidIds t (rowAt t w).f0) 0 c b q0) (kd, id, u, a, s, q) ∧ OpDraw kd id u a s ∧ p ≤ q ∧ q ≤ p + 30 := by
  intro c q0 hq hc
  cases c with
  | false =>
   obtain ⟨kd, id, u, a, s, q, h1, h2, h3, h4⟩ := op1_ev b hb q0 (by omega) who made _ _ 0 hw hm fv.1 fw.1 (by omega)
   exact ⟨kd, id, u, a, s, q, Ev.step (fun k => by simp only [spec_l72Op.j0]; rw [if_neg (by decide)]) h1, h2, by omega, by omega⟩
  | true =>
   have hk := hc rfl
   obtain ⟨x, hx, x0, x1⟩ := pick_ev b hb q0 ((kidIds t (rowAt t w).f0).length : Int) (by omega) (by omega)
   obtain ⟨x, rfl⟩ := Int.eq_ofNat_of_zero_le x0
   have hxl : x < (kidIds t (rowAt t w).f0).length := by omega
   have hr : rd (kidIds t (rowAt t w).f0) (x : Int) = (kidIds t (rowAt t w).f0)[x] := by simp [rd, hxl]
   obtain ⟨j, hj, e⟩ := kidIds_mem (List.getElem_mem hxl)
   have fj := (flow_at ht.fit hj).1
   obtain ⟨kd, id, u, a, s, q, h1, h2, h3, h4⟩ := op1_ev b hb (q0 + 1) (by omega) who made _ _ (kidIds t (rowAt t w).f0)[x] hw hm fv.1 fw.1 (by rw [← e]; exact fj)
   rw [← hr] at h1
   refine ⟨kd, id, u, a, s, q, Ev.step (fun k => by simp only [spec_l72Op.j0]; rw [if_pos trivial]) (Ev.bind hx ?_), h2, by omega, by omega⟩
   dsimp only
   exact Ev.pos (by omega) (Ev.pos (by omega) h1)
 by_cases hk : ((kidIds t (rowAt t w).f0).length : Int) > 0
 ·obtain ⟨x, hx, x0, x1⟩ := pick_ev b hb (p + 1 + 1) 2 (by omega) (by omega)
  obtain ⟨kd, id, u, a, s, q, h1, h2, h3, h4⟩ := zero (x == 0) (p + 1 + 1 + 1) (by omega) (fun _ => by omega)
  exact ⟨kd, id, u, a, s, q, head (fun _ => none) _ (Ev.pos hk (Ev.bind hx h1)), h2, h3, h4⟩
 ·obtain ⟨kd, id, u, a, s, q, h1, h2, h3, h4⟩ := zero false (p + 1 + 1) (by omega) (fun h => by cases h)
  exact ⟨kd, id, u, a, s, q, head (fun _ => none) _ (Ev.neg hk h1), h2, h3, h4⟩
def EntNice (x : S26) : Prop := (-10 ≤ x.f0 ∧ x.f0 ≤ 10) ∧ (0 ≤ x.f1 ∧ x.f1 ≤ 100) ∧ (0 ≤ x.f2.f0 ∧ x.f2.f0 ≤ 100) ∧ (0 ≤ x.f2.f1 ∧ x.f2.f1 ≤ 100) ∧ (0 ≤ x.f2.f2 ∧ x.f2.f2 ≤ 100) ∧ (0 ≤ x.f2.f3 ∧ x.f2.f3 ≤ 100) ∧ x.f2.f4.size ≤ 7
theorem EntNice.fit {x : S26} (h : EntNice x) : EntFit x := by
 obtain ⟨a, b, c, d, e, f, g⟩ := h
 exact ⟨by omega, by omega, by omega, by omega, by omega, by omega, by omega⟩
def LogNice (l : List S26) : Prop := l.length ≤ 14 ∧ ∀ x ∈ l, EntNice x
theorem LogNice.fit {l : List S26} (h : LogNice l) : EntsFit l := ⟨by have := h.1; omega, fun x hx => (h.2 x hx).fit⟩
theorem nice_set {l : List S26} (h : ∀ x ∈ l, EntNice x) (i : Nat) (y : S26) (hy : EntNice y) : ∀ x ∈ l.set i y, EntNice x := fun x hx => by
 rcases List.mem_or_eq_of_mem_set hx with hx | rfl
 ·exact h x hx
 ·exact hy
theorem log_end (b : List Int) (hb : RdOk b) (l : List S26) (hl : l.length ≤ 13) (hn : ∀ x ∈ l, EntNice x) (t : List S105) (md : List Int) (p : Int) (hp : 0 ≤ p ∧ p ≤ 300000000) : ∃ l' q, Ev (fun k => spec_l72Log.l0 k l t md 0 b p) (l', q) ∧ LogNice l' ∧ p ≤ q ∧ q ≤ p + 60 := by
 have step : ∀ k, spec_l72Log.l0 (k + 1) l t md 0 b p = _ := fun k => by simp only [spec_l72Log.l0]; rw [if_neg (by decide)]
 obtain ⟨v, hv, v0, v1⟩ := pick_ev b hb p 24 (by omega) (by omega)
 by_cases c0 : v = 0
 ·obtain ⟨x, hx, x0, x1⟩ := pick_ev b hb (p + 1) 3 (by omega) (by omega)
  obtain ⟨y, hy, y0, y1⟩ := pick_ev b hb (p + 1 + 1) 4 (by omega) (by omega)
  obtain ⟨kd, id, u, a, s, q, ho, h2, h3, h4⟩ := op_ev b hb (p + 1 + 1 + 1) (by omega)
  refine ⟨_, q, Ev.step step (Ev.bind hv (Ev.pos c0 (Ev.bind hx (Ev.bind hy (Ev.bind ho (Ev.pos (by omega) (Ev.pure rfl))))))), ⟨by simp; omega, fun z hz => ?_⟩, by omega, by omega⟩
  rcases List.mem_append.1 hz with hz | hz
  ·exact hn z hz
  ·rw [List.mem_singleton.1 hz]
   have w1 : wrap64 (1 + x) = 1 + x := wrap64_id (by omega)
   have w2 : wrap64 (1 + y) = 1 + y := wrap64_id (by omega)
   dsimp only
   rw [w1, w2]
   have k1 := h2.kind; have k2 := h2.id; have k3 := h2.up; have k4 := h2.at_; have k5 := h2.text
   exact ⟨by dsimp only; omega, by dsimp only; omega, by dsimp only; omega, by dsimp only; omega, by dsimp only; omega, by dsimp only; omega, by dsimp only; omega⟩
 ·by_cases c1 : v = 1
  ·by_cases c2 : (l.length : Int) > 0
   ·obtain ⟨x, hx, x0, x1⟩ := pick_ev b hb (p + 1) (l.length : Int) (by omega) (by omega)
    obtain ⟨y, hy, y0, y1⟩ := pick_ev b hb (p + 1 + 1) 4 (by omega) (by omega)
    obtain ⟨x, rfl⟩ := Int.eq_ofNat_of_zero_le x0
    have hxl : x < l.length := by omega
    have hz := hn _ (List.getElem_mem hxl)
    refine ⟨_, _, Ev.step step (Ev.bind hv (Ev.neg c0 (Ev.pos c1 (Ev.pos c2 (Ev.bind hx (Ev.bind hy (Ev.pos (by omega) (Ev.pos (by omega) (Ev.pure rfl))))))))), ⟨by rw [List.length_set]; omega, nice_set hn _ _ ?_⟩, by omega, by omega⟩
    rw [rd_ent l x hxl]
    exact ⟨hz.1, by dsimp only; omega, hz.2.2⟩
   ·exact ⟨l, _, Ev.step step (Ev.bind hv (Ev.neg c0 (Ev.pos c1 (Ev.neg c2 (Ev.pure rfl))))), ⟨by omega, hn⟩, by omega, by omega⟩
  ·exact ⟨l, _, Ev.step step (Ev.bind hv (Ev.neg c0 (Ev.neg c1 (Ev.pure rfl)))), ⟨by omega, hn⟩, by omega, by omega⟩
theorem nice_new {x c : Nat} (hx : x < 3) (hc : c ≤ 20) {kd id u a : Int} {s : ByteArray} (h : OpDraw kd id u a s) : EntNice (⟨1 + (x : Int), ((c + 1 : Nat) : Int), ⟨kd, id, u, a, s⟩⟩ : S26) := by
 have k1 := h.kind; have k2 := h.id.1; have k3 := h.up; have k4 := h.at_; have k5 := h.text
 exact ⟨by dsimp only; omega, by dsimp only; omega, by dsimp only; omega, k2, k3, k4, k5⟩
def Bnd (B n : Nat) : Prop := B * 4 ^ n ≤ 100000000
theorem Bnd.le {B n : Nat} (h : Bnd B n) : B ≤ 100000000 := by
 have h1 := Nat.le_mul_of_pos_right B (show 0 < 4 ^ n from Nat.pos_of_ne_zero (by simp))
 exact Nat.le_trans h1 h
theorem Bnd.step {B n : Nat} (h : Bnd B (n + 1)) : Bnd (4 * B) n := by
 unfold Bnd at h ⊢
 rw [Nat.pow_succ] at h
 rw [Nat.mul_comm 4 B, Nat.mul_assoc, Nat.mul_comm 4 (4 ^ n)]; exact h
theorem Bnd.first {n : Nat} (h : n ≤ 13) : Bnd 1 n := by
 unfold Bnd
 rw [Nat.one_mul]
 exact Nat.le_trans (Nat.pow_le_pow_right (n := 4) (by omega) h) (by decide)
set_option maxHeartbeats 2000000 in
theorem log_loop_ev (b : List Int) (hb : RdOk b) : ∀ (n : Nat) (l : List S26) (t : List S105) (md : List Int) (m B : Nat) (p : Int), l.length + n ≤ 13 → (∀ x ∈ l, EntNice x) → m + n ≤ 50 → Flow t m B → 1 ≤ B → Bnd B n → md.length = 3 → (∀ z ∈ md, 0 ≤ z ∧ z ≤ 100 - n) → 0 ≤ p ∧ p + 50 * n ≤ 200000000 →
  ∃ l' q, Ev (fun k => spec_l72Log.l0 k l t md (n : Int) b p) (l', q) ∧ LogNice l' ∧ p ≤ q ∧ q ≤ p + 50 * n + 60 := by
 intro n
 induction n with
 | zero =>
  intro l t md m B p hl hn hm ht h1 hB hmd hz hp
  obtain ⟨l', q, a1, a2, a3, a4⟩ := log_end b hb l (by omega) hn t md p (by omega)
  exact ⟨l', q, a1, a2, a3, by omega⟩
 | succ n ih =>
  intro l t md m B p hl hn hm ht h1 hB hmd hz hp
  have hB1 := hB.le
  obtain ⟨x, hx, x0, x1⟩ := pick_ev b hb p 3 (by omega) (by omega)
  obtain ⟨x, rfl⟩ := Int.eq_ofNat_of_zero_le x0
  have w1 : wrap64 (1 + (x : Int)) = 1 + (x : Int) := wrap64_id (by omega)
  have w2 : wrap64 (1 + (x : Int) - 1) = (x : Int) := by rw [show 1 + (x : Int) - 1 = x by omega]; exact wrap64_id (by omega)
  have hxl : x < md.length := by omega
  have hr : rd md (x : Int) = md[x] := by simp [rd, hxl]
  have hmx := hz _ (List.getElem_mem hxl)
  obtain ⟨kd, id, u, a, s, q, ho, h2, h3, h4⟩ := op72_ev b hb (p + 1) (by omega) t m B (by omega) ht (1 + x) md[x] (by omega) hmx.1
  obtain ⟨t', hd, hf⟩ := do_ev t m B (by omega) h1 hB1 ht kd id u a s h2.kind h2.id h2.text
  have hc := List.count_le_length (a := (1 + x : Int)) (l := l.map whoOf)
  rw [List.length_map] at hc
  have hsq := seq_ev l (by omega) (1 + x)
  generalize (l.map whoOf).count (1 + (x : Int)) = cn at hsq hc
  have hcl : cn ≤ 20 := by omega
  clear hc
  have w3 : wrap64 (((cn : Nat) : Int) + 1) = ((cn + 1 : Nat) : Int) := wrapS _ (by omega)
  have w4 : wrap64 (((n + 1 : Nat) : Int) - 1) = (n : Int) := by rw [show ((n + 1 : Nat) : Int) - 1 = (n : Int) by omega]; exact wrap64_id (by omega)
  have hxl3 : x < 3 := by omega
  have hnew : ∀ z ∈ l ++ [(⟨1 + x, ((cn + 1 : Nat) : Int), ⟨kd, id, u, a, s⟩⟩ : S26)], EntNice z := by
   intro z hz
   rcases List.mem_append.1 hz with hz | hz
   ·exact hn z hz
   ·rw [List.mem_singleton.1 hz]
    exact nice_new hxl3 hcl h2
  have hp4 := hB.step
  have step : ∀ k, spec_l72Log.l0 (k + 1) l t md ((n + 1 : Nat) : Int) b p = _ := fun k => by simp only [spec_l72Log.l0]; rw [if_pos (by omega), w4]
  by_cases ck : kd = 1
  ·have hset : ∀ z ∈ md.set x (wrap64 (md[x] + 1)), 0 ≤ z ∧ z ≤ 100 - n := by
    intro z hz2
    rcases List.mem_or_eq_of_mem_set hz2 with hz2 | rfl
    ·have := hz z hz2; omega
    ·rw [wrap64_id (by omega)]; omega
   obtain ⟨l', q2, a1, a2, a3, a4⟩ := ih _ t' (md.set x (wrap64 (md[x] + 1))) (m + 1) (4 * B) q (by simp; omega) hnew (by omega) hf (by omega) hp4 (by simpa using hmd) hset (by omega)
   refine ⟨l', q2, Ev.step step (Ev.bind hx ?_), a2, by omega, by omega⟩
   simp only [w1, w2, hr, Int.toNat_natCast]
   refine Ev.pos (by omega) (Ev.pos (by omega) (Ev.bind ho (Ev.pos ck (Ev.bind hsq ?_))))
   simp only [w3]
   exact Ev.pos (by omega) (Ev.bind hd a1)
  ·obtain ⟨l', q2, a1, a2, a3, a4⟩ := ih _ t' md (m + 1) (4 * B) q (by simp; omega) hnew (by omega) hf (by omega) hp4 hmd (fun z hz2 => by have := hz z hz2; omega) (by omega)
   refine ⟨l', q2, Ev.step step (Ev.bind hx ?_), a2, by omega, by omega⟩
   simp only [w1, w2, hr, Int.toNat_natCast]
   refine Ev.pos (by omega) (Ev.pos (by omega) (Ev.bind ho (Ev.neg ck (Ev.bind hsq ?_))))
   simp only [w3]
   exact Ev.pos (by omega) (Ev.bind hd a1)
theorem log_ev (b : List Int) (hb : RdOk b) (p : Int) (hp : 0 ≤ p ∧ p ≤ 100000000) : ∃ l q, Ev (fun k => spec_l72Log.f k b p) (l, q) ∧ LogNice l ∧ p ≤ q ∧ q ≤ p + 1000 := by
 obtain ⟨v, hv, v0, v1⟩ := pick_ev b hb p 14 (by omega) (by omega)
 obtain ⟨n, rfl⟩ := Int.eq_ofNat_of_zero_le v0
 have hg : Flow [(⟨1, 0, (⟨#[]⟩ : ByteArray)⟩ : S105), ⟨2, 0, (⟨#[]⟩ : ByteArray)⟩, ⟨3, 0, (⟨#[]⟩ : ByteArray)⟩] 3 1 := by
  refine ⟨by simp, fun x hx => ?_, ⟨⟨3, 0, (⟨#[]⟩ : ByteArray)⟩, by simp, rfl⟩⟩
  simp only [List.mem_cons, List.not_mem_nil, or_false] at hx
  rcases hx with rfl | rfl | rfl <;> exact ⟨by decide, by decide, by decide, fun _ => rfl⟩
 obtain ⟨l, q, h1, h2, h3, h4⟩ := log_loop_ev b hb n [] _ [0, 0, 0] 3 1 (p + 1) (by simp; omega) (fun x hx => by cases hx) (by omega) hg (by omega) (Bnd.first (by omega)) rfl (fun z hz => by simp at hz; omega) (by omega)
 exact ⟨l, q, Ev.bindc (show spec_TreeNew.f = some _ from rfl) (Ev.bind hv h1), h2, by omega, by omega⟩
theorem drawLogAdd_ev (l : List Int) (h : ∀ x ∈ l, (Lit.int .u8 x).wf = true) : ∃ (lg : List S26) (e : S26), Ev (fun k => spec_DrawLogAdd.f k l) (lg, e.f0, e.f1, e.f2.f0, e.f2.f1, e.f2.f2, e.f2.f3, e.f2.f4) ∧ LogNice lg ∧ EntNice e := by
 have hb := RdOk.open_ l h
 obtain ⟨lg, q, h1, h2, h3, h4⟩ := log_ev _ hb 0 (by omega)
 have hlen := h2.1
 have key : ∀ (c : Bool) (p : Int), (c = true → 0 < lg.length) → 0 ≤ p ∧ p ≤ 5000 → ∃ e : S26, Ev (fun k => spec_DrawLogAdd.j0 k l lg c (l.take 2000) p) (lg, e.f0, e.f1, e.f2.f0, e.f2.f1, e.f2.f2, e.f2.f3, e.f2.f4) ∧ EntNice e := by
  intro c p hc hp
  cases c with
  | true =>
   have h0 := hc rfl
   obtain ⟨v, hv, v0, v1⟩ := pick_ev _ hb p (lg.length : Int) (by omega) (by omega)
   obtain ⟨v, rfl⟩ := Int.eq_ofNat_of_zero_le v0
   have hvl : v < lg.length := by omega
   refine ⟨lg[v], Ev.step (fun k => by simp only [spec_DrawLogAdd.j0]; rw [if_pos trivial]) ?_, h2.2 _ (List.getElem_mem hvl)⟩
   refine Ev.bind hv ?_
   simp only [rd_ent lg v hvl]
   exact Ev.pos (by omega) (Ev.pos (by omega) (Ev.pure rfl))
  | false =>
   obtain ⟨who, seq, kd, id, u, a, s, hd, k0, k1, k2⟩ := drawEntryOk_ev l h
   obtain ⟨v, hv, v0, v1⟩ := pick_ev _ hb p 6 (by omega) (by omega)
   have step : ∀ k, spec_DrawLogAdd.j0 (k + 1) l lg false (l.take 2000) p = _ := fun k => by simp only [spec_DrawLogAdd.j0]; rw [if_neg (by decide)]
   have hc2 := List.count_le_length (a := who) (l := lg.map whoOf)
   rw [List.length_map] at hc2
   have hk := k2.kind; have hi := k2.id; have hu := k2.up; have ha := k2.at_; have hx := k2.text
   by_cases g : v > 0
   ·refine ⟨⟨who, (((lg.map whoOf).count who + 1 : Nat) : Int), ⟨kd, id, u, a, s⟩⟩, Ev.step step (Ev.bind hd (Ev.bind hv (Ev.pos g (Ev.bind (seq_ev lg (by omega) who) (Ev.pure ?_))))), ⟨by dsimp only; omega, by dsimp only; omega, by dsimp only; omega, by dsimp only; omega, by dsimp only; omega, by dsimp only; omega, by dsimp only; omega⟩⟩
    simp only
    rw [wrapS _ (by omega)]
   ·exact ⟨⟨who, seq, ⟨kd, id, u, a, s⟩⟩, Ev.step step (Ev.bind hd (Ev.bind hv (Ev.neg g (Ev.pure rfl)))), ⟨by dsimp only; omega, by dsimp only; omega, by dsimp only; omega, by dsimp only; omega, by dsimp only; omega, by dsimp only; omega, by dsimp only; omega⟩⟩
 by_cases g : (lg.length : Int) > 0
 ·obtain ⟨v, hv, v0, v1⟩ := pick_ev _ hb q 4 (by omega) (by omega)
  obtain ⟨e, he, hn⟩ := key (v == 0) (q + 1) (fun _ => by omega) (by omega)
  exact ⟨lg, e, Ev.bindc (l6Open_eq l) (Ev.bind h1 (Ev.pos g (Ev.bind hv he))), h2, hn⟩
 ·obtain ⟨e, he, hn⟩ := key false q (fun h => by cases h) (by omega)
  exact ⟨lg, e, Ev.bindc (l6Open_eq l) (Ev.bind h1 (Ev.neg g he)), h2, hn⟩
end Go.Proofs.YtlpfjabfhgfpmaaDoor.P
