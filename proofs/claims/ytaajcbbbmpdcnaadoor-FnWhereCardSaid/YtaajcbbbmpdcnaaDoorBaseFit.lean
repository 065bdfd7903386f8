/- What the draws of outlines with a change give: no draw runs out or panics; few rows, small numbers, a short text. Condition: the bytes that a reader reads. -/
import Derived.Test.YtaajcbbbmpdcnaaDoorBaseDraw
import Derived.Test.YtaajcbbbmpdcnaaDoorBaseOp
import Derived.Test.YtaajcbbbmpdcnaaDoorBaseLp
import Derived.Test.YtaajcbbbmpdcnaaDoorPx10
import Derived.Test.YtaajcbbbmpdcnaaDoorPx11
namespace Go.Proofs.YtaajcbbbmpdcnaaDoor.P
open Go.RowKit Go.Proofs.YtaajcbbbmpdcnaaDoorW.PrintWords Go.Proofs.YtaajcbbbmpdcnaaDoorW.PrintLast
set_option linter.unusedVariables false
set_option linter.unusedSimpArgs false
structure OpNum (kind id up at_ : Int) (s : ByteArray) : Prop where
 kind : 0 ≤ kind ∧ kind ≤ 100
 id : 0 ≤ id ∧ id ≤ 100
 up : 0 ≤ up ∧ up ≤ 100
 at_ : 0 ≤ at_ ∧ at_ ≤ 100
 text : s.size ≤ 7
theorem kid_fit {t : List S47} (h : Drawn t) (id : Int) {x : Int} (hx : x ∈ kidIds t id) : 0 ≤ x ∧ x ≤ 100 := by
 unfold kidIds at hx
 cases hp : placeOf t t.length id with
 | none => rw [hp] at hx; cases hx
 | some u =>
  rw [hp] at hx
  obtain ⟨a1, a2, _, _⟩ := Tree.endOf_spec (D := depthAt t) (place_lt hp)
  dsimp only at hx
  unfold segIds at hx
  obtain ⟨j, hj, rfl⟩ := List.mem_map.1 hx
  have hj2 := List.mem_range'_1.1 (List.mem_filter.1 hj).1
  exact (fit_at h.2.2 (i := j) (by omega)).1
theorem fits_j2 (b : List Int) (hb : RdOk b) (t : List S47) (ht : Drawn t) (c : Bool) (p : Int) (hp : 0 ≤ p ∧ p ≤ 800000000) (kind id up at_ : Int) (s : ByteArray) (h : OpNum kind id up at_ s) :
  ∃ kind' id' up' at' s' q, Ev (fun k => spec_l71Fits.j2 k t c b p kind id up at_ s) (t, kind', id', up', at', s', q) ∧ OpNum kind' id' up' at' s' ∧ p ≤ q ∧ q ≤ p + 2 := by
 have hl1 := ht.1
 have hl2 := ht.2.1
 cases c with
 | false => exact ⟨kind, id, up, at_, s, p, Ev.step (fun k => by simp only [spec_l71Fits.j2]; rw [if_neg (by decide)]) (Ev.pure rfl), h, by omega, by omega⟩
 | true =>
  have step : ∀ k, spec_l71Fits.j2 (k + 1) t true b p kind id up at_ s = _ := fun k => by simp only [spec_l71Fits.j2]; rw [if_pos trivial]
  obtain ⟨u, hu, u0, u1⟩ := pick_ev b hb p (t.length : Int) (by omega) (by omega)
  obtain ⟨w, rfl⟩ := Int.eq_ofNat_of_zero_le u0
  have hwl : w < t.length := by omega
  have hf := fit_at ht.2.2 hwl
  have e : (rd_T47 t (w : Int)).f0 = idAt t w := by rw [rd_row t hwl]; rfl
  have hk := l2Kids_ev t (by omega) (idAt t w)
  have hlen := kidIds_len t (idAt t w)
  by_cases c1 : ((kidIds t (idAt t w)).length : Int) > 0
  ·obtain ⟨v, hv, v0, v1⟩ := pick_ev b hb (p + 1) ((kidIds t (idAt t w)).length : Int) (by omega) (by omega)
   obtain ⟨y, rfl⟩ := Int.eq_ofNat_of_zero_le v0
   have hyl : y < (kidIds t (idAt t w)).length := by omega
   refine ⟨kind, id, idAt t w, (kidIds t (idAt t w))[y], s, p + 1 + 1, Ev.step step (Ev.bind hu (Ev.pos u0 (Ev.pos u1 ?_))), ⟨h.kind, h.id, hf.1, kid_fit ht _ (List.getElem_mem _), h.text⟩, by omega, by omega⟩
   simp only [e]
   refine Ev.bind hk (Ev.pos c1 (Ev.bind hv (Ev.pos v0 (Ev.pos v1 (Ev.pure ?_)))))
   rw [rd_int' _ hyl]
  ·refine ⟨kind, id, idAt t w, at_, s, p + 1, Ev.step step (Ev.bind hu (Ev.pos u0 (Ev.pos u1 ?_))), ⟨h.kind, h.id, hf.1, h.at_, h.text⟩, by omega, by omega⟩
   simp only [e]
   exact Ev.bind hk (Ev.neg c1 (Ev.pure rfl))
theorem fits_j1 (b : List Int) (hb : RdOk b) (t : List S47) (ht : Drawn t) (p : Int) (hp : 0 ≤ p ∧ p ≤ 700000000) (kind id up at_ : Int) (s : ByteArray) (h : OpNum kind id up at_ s) :
  ∃ kind' id' up' at' s' q, Ev (fun k => spec_l71Fits.j1 k t b p kind id up at_ s) (t, kind', id', up', at', s', q) ∧ OpNum kind' id' up' at' s' ∧ p ≤ q ∧ q ≤ p + 3 := by
 have step : ∀ k, spec_l71Fits.j1 (k + 1) t b p kind id up at_ s = _ := fun k => by simp only [spec_l71Fits.j1]; rfl
 obtain ⟨v, hv, v0, v1⟩ := pick_ev b hb p 3 (by omega) (by omega)
 by_cases c1 : v = 0
 ·by_cases c2 : kind = 3
  ·obtain ⟨a, c, d, e, f, q, g1, g2, g3, g4⟩ := fits_j2 b hb t ht true (p + 1) (by omega) kind id up at_ s h
   exact ⟨a, c, d, e, f, q, Ev.step step (Ev.bind hv (Ev.pos c1 (Ev.pos c2 g1))), g2, by omega, by omega⟩
  ·obtain ⟨a, c, d, e, f, q, g1, g2, g3, g4⟩ := fits_j2 b hb t ht (kind == 1) (p + 1) (by omega) kind id up at_ s h
   exact ⟨a, c, d, e, f, q, Ev.step step (Ev.bind hv (Ev.pos c1 (Ev.neg c2 g1))), g2, by omega, by omega⟩
 ·obtain ⟨a, c, d, e, f, q, g1, g2, g3, g4⟩ := fits_j2 b hb t ht false (p + 1) (by omega) kind id up at_ s h
  exact ⟨a, c, d, e, f, q, Ev.step step (Ev.bind hv (Ev.neg c1 g1)), g2, by omega, by omega⟩
theorem fits_j0 (b : List Int) (hb : RdOk b) (t : List S47) (ht : Drawn t) (c : Bool) (x : Int) (hx : 0 ≤ x ∧ x ≤ 100) (p : Int) (hp : 0 ≤ p ∧ p ≤ 700000000) (kind id up at_ : Int) (s : ByteArray) (h : OpNum kind id up at_ s) :
  ∃ kind' id' up' at' s' q, Ev (fun k => spec_l71Fits.j0 k t x c b p kind id up at_ s) (t, kind', id', up', at', s', q) ∧ OpNum kind' id' up' at' s' ∧ p ≤ q ∧ q ≤ p + 3 := by
 cases c with
 | true =>
  obtain ⟨a, c, d, e, f, q, g1, g2, g3, g4⟩ := fits_j1 b hb t ht p hp kind x up at_ s ⟨h.kind, hx, h.up, h.at_, h.text⟩
  exact ⟨a, c, d, e, f, q, Ev.step (fun k => by simp only [spec_l71Fits.j0]; rw [if_pos trivial]) g1, g2, g3, g4⟩
 | false =>
  obtain ⟨a, c, d, e, f, q, g1, g2, g3, g4⟩ := fits_j1 b hb t ht p hp kind id up at_ s h
  exact ⟨a, c, d, e, f, q, Ev.step (fun k => by simp only [spec_l71Fits.j0]; rw [if_neg (by decide)]) g1, g2, g3, g4⟩
theorem fits_ev (b : List Int) (hb : RdOk b) (p : Int) (hp : 0 ≤ p ∧ p ≤ 500000000) :
  ∃ t kind id up at_ s q, Ev (fun k => spec_l71Fits.f k b p) (t, kind, id, up, at_, s, q) ∧ Drawn t ∧ OpNum kind id up at_ s ∧ p ≤ q ∧ q ≤ p + 3100 := by
 obtain ⟨t, x, q1, a1, a2, a3, a4, a5⟩ := row_ev b hb p hp
 obtain ⟨kind, id, up, at_, s, q2, b1, b2, b3, b4⟩ := op_ev b hb q1 (by omega)
 have hn : OpNum kind id up at_ s := by
  have h1 := b2.kind; have h2 := b2.id; have h3 := b2.up; have h4 := b2.at_
  exact ⟨by omega, by omega, by omega, by omega, b2.text⟩
 obtain ⟨v, hv, v0, v1⟩ := pick_ev b hb q2 5 (by omega) (by omega)
 unfold spec_l71Fits.f
 by_cases c1 : v > 0
 ·by_cases c2 : kind = 1
  ·obtain ⟨a, c, d, e, f, q, g1, g2, g3, g4⟩ := fits_j0 b hb t a2 false x a3 (q2 + 1) (by omega) kind id up at_ s hn
   exact ⟨t, a, c, d, e, f, q, Ev.bind a1 (Ev.bind b1 (Ev.bind hv (Ev.pos c1 (Ev.pos c2 g1)))), a2, g2, by omega, by omega⟩
  ·obtain ⟨a, c, d, e, f, q, g1, g2, g3, g4⟩ := fits_j0 b hb t a2 (madeB x) x a3 (q2 + 1) (by omega) kind id up at_ s hn
   exact ⟨t, a, c, d, e, f, q, Ev.bind a1 (Ev.bind b1 (Ev.bind hv (Ev.pos c1 (Ev.neg c2 (Ev.bindc (l1Made_eq x (by omega)) g1))))), a2, g2, by omega, by omega⟩
 ·obtain ⟨a, c, d, e, f, q, g1, g2, g3, g4⟩ := fits_j0 b hb t a2 false x a3 (q2 + 1) (by omega) kind id up at_ s hn
  exact ⟨t, a, c, d, e, f, q, Ev.bind a1 (Ev.bind b1 (Ev.bind hv (Ev.neg c1 g1))), a2, g2, by omega, by omega⟩
theorem drawOpWhere_loop (b : List Int) (hb : RdOk b) : ∀ (d i : Nat) (t : List S47) (p kind id up at_ : Int) (s : ByteArray), i + d = 4 → Drawn t → OpNum kind id up at_ s → 0 ≤ p ∧ p + 4000 * d ≤ 400000000 →
  ∃ t' kind' id' up' at' s', Ev (fun k => spec_DrawOpWhere.l0 k t (i : Int) b p kind id up at_ s) (t', kind', id', up', at', s') ∧ Drawn t' ∧ OpNum kind' id' up' at' s' := by
 intro d
 induction d with
 | zero =>
  intro i t p kind id up at_ s hi ht h hp
  exact ⟨t, kind, id, up, at_, s, Ev.step (f := fun _ => some (t, kind, id, up, at_, s)) (fun k => by simp only [spec_DrawOpWhere.l0]; rw [if_neg (by omega)]) (Ev.pure rfl), ht, h⟩
 | succ d ih =>
  intro i t p kind id up at_ s hi ht h hp
  have step : ∀ k, spec_DrawOpWhere.l0 (k + 1) t (i : Int) b p kind id up at_ s = _ := fun k => by simp only [spec_DrawOpWhere.l0]; rw [if_pos (by omega)]
  obtain ⟨v, hv, v0, v1⟩ := pick_ev b hb p 8 (by omega) (by omega)
  by_cases c1 : v > 0
  ·by_cases c2 : kind = 2
   ·obtain ⟨t1, k1, i1, u1, a1, s1, q, g1, g2, g3, g4, g5⟩ := fits_ev b hb (p + 1) (by omega)
    obtain ⟨t', k', i', u', a', s', e1, e2, e3⟩ := ih (i + 1) t1 q k1 i1 u1 a1 s1 (by omega) g2 g3 (by omega)
    refine ⟨t', k', i', u', a', s', Ev.step step (Ev.bind hv (Ev.pos c1 (Ev.pos c2 (Ev.bind g1 ?_)))), e2, e3⟩
    rw [wrap_succ i (by omega)]; exact e1
   ·exact ⟨t, kind, id, up, at_, s, Ev.step step (Ev.bind hv (Ev.pos c1 (Ev.neg c2 (Ev.pure rfl)))), ht, h⟩
  ·exact ⟨t, kind, id, up, at_, s, Ev.step step (Ev.bind hv (Ev.neg c1 (Ev.pure rfl))), ht, h⟩
theorem drawOpWhere_ev (l : List Int) (h : ∀ x ∈ l, (Lit.int .u8 x).wf = true) : ∃ t kind id up at_ s, Ev (fun k => spec_DrawOpWhere.f k l) (t, kind, id, up, at_, s) ∧ Drawn t ∧ OpNum kind id up at_ s := by
 have hb := RdOk.open_ l h
 obtain ⟨t1, k1, i1, u1, a1, s1, q, g1, g2, g3, g4, g5⟩ := fits_ev _ hb 0 (by omega)
 obtain ⟨t', k', i', u', a', s', e1, e2, e3⟩ := drawOpWhere_loop _ hb 4 0 t1 q k1 i1 u1 a1 s1 (by omega) g2 g3 (by omega)
 exact ⟨t', k', i', u', a', s', Ev.bindc (l6Open_eq l) (Ev.bind g1 e1), e2, e3⟩
end Go.Proofs.YtaajcbbbmpdcnaaDoor.P
