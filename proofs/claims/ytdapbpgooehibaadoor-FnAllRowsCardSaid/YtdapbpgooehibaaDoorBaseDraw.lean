/- What the draws of outlines give: no draw runs out or panics; some rows, few, such as memory can hold. Condition: the bytes that a reader reads. -/
import Derived.Test.YtdapbpgooehibaaDoorBaseWhere
import Derived.Test.YtdapbpgooehibaaDoorBaseRd
import Derived.Test.YtdapbpgooehibaaDoorPx6
import Derived.Test.YtdapbpgooehibaaDoorPx6
import Derived.Test.YtdapbpgooehibaaDoorPx6
import Derived.Test.YtdapbpgooehibaaDoorPx7
namespace Go.Proofs.YtdapbpgooehibaaDoor.P
open Go.RowKit Go.Proofs.YtdapbpgooehibaaDoorW.PrintWords Go.Proofs.YtdapbpgooehibaaDoorW.PrintLast
set_option linter.unusedVariables false
set_option linter.unusedSimpArgs false

def RowFit (x : S29) : Prop := (0 ≤ x.f0 ∧ x.f0 ≤ 100) ∧ (-9223372036854775808 ≤ x.f1 ∧ x.f1 ≤ 9223372036854775807) ∧ x.f2.size ≤ 7
/-- Rows while they grow. -/
structure Grown (t : List S29) (m : Nat) : Prop where
  three : 3 ≤ t.length
  few : t.length ≤ m
  fit : ∀ x ∈ t, RowFit x
  doc : ∃ x ∈ t, x.f0 = 1
  found : ∃ x ∈ t, x.f0 = 3
/-- Rows as they are drawn. -/
def Drawn (t : List S29) : Prop := 1 ≤ t.length ∧ t.length ≤ 20 ∧ ∀ x ∈ t, RowFit x
theorem Drawn.fits {t : List S29} (h : Drawn t) : RowsFit t := ⟨by have := h.2.1; omega, fun x hx => by obtain ⟨a, b, c⟩ := h.2.2 x hx; exact ⟨by omega, b, by omega⟩⟩
theorem place_mem {t : List S29} {id : Int} (h : ∃ x ∈ t, x.f0 = id) : ∃ i, placeOf t t.length id = some i := by
  cases hp : placeOf t t.length id with
  | some i => exact ⟨i, rfl⟩
  | none =>
    obtain ⟨x, hx, e⟩ := h
    obtain ⟨i, hi, rfl⟩ := List.getElem_of_mem hx
    have := Tree.firstB_none.1 hp i hi
    simp only [beq_eq_false_iff_ne] at this
    exact absurd (by unfold idAt; rw [rowAt_get hi]; exact e) this
theorem fit_at {t : List S29} (h : ∀ x ∈ t, RowFit x) {i : Nat} (hi : i < t.length) : RowFit (rowAt t i) := by rw [rowAt_get hi]; exact h _ (List.getElem_mem _)
theorem place_has {t : List S29} {id : Int} {i : Nat} (h : i < t.length) (e : idAt t i = id) : ∃ x ∈ t, x.f0 = id := ⟨t[i], List.getElem_mem _, by rw [← e]; unfold idAt; rw [rowAt_get h]⟩
/-- One row put among others. -/
theorem put_one (l : List S29) (hl : l.length ≤ 1099511627776) (id : Int) (text : ByteArray) (up at_ : Int) (hu : ∃ x ∈ l, x.f0 = up) (ha : at_ ≤ 0 ∨ ∃ x ∈ l, x.f0 = at_) :
    ∃ (p : Nat) (d : Int), p ≤ l.length ∧ Ev (fun k => spec_l3Put.f k l [(⟨id, 0, text⟩ : S29)] up at_) (l.take p ++ [(⟨id, wrap64 (0 + d), text⟩ : S29)] ++ l.drop p) := by
  obtain ⟨u, hu⟩ := place_mem hu
  have hul := place_lt hu
  have tail : ∀ (p : Nat) (d : Int), p ≤ l.length → Ev (fun k => spec_l3Put.j0 k l [(⟨id, 0, text⟩ : S29)] d (p : Int)) (l.take p ++ [(⟨id, wrap64 (0 + d), text⟩ : S29)] ++ l.drop p) := by
    intro p d hp
    have hlen : (l.take p).length ≤ 1099511627776 := by rw [List.length_take]; omega
    have hlen2 : (l.drop p).length ≤ 1099511627776 := by rw [List.length_drop]; omega
    refine Ev.step (fun k => by simp only [spec_l3Put.j0]; rfl) ?_
    refine Ev.bindc rfl (Ev.pos (by omega) (Ev.pos (by omega) (Ev.bindc rfl (Ev.pos (by simp only [List.length_nil, Int.toNat_natCast]; omega) ?_))))
    rw [List.nil_append, Int.toNat_natCast]
    refine Ev.step (fun k => by simp only [spec_l3Put.l0]; rw [if_pos (by simp), if_pos (by omega), if_pos (by omega)]) ?_
    refine Ev.step (fun k => by
      simp only [spec_l3Put.l0]
      rw [if_neg (by rw [wrap64_id (a := 0 + 1) (by omega)]; simp), if_pos (by omega), if_pos (by omega)]
      simp only [Option.bind_some, Int.toNat_natCast]
      rw [if_pos (by rw [List.length_append]; simp only [List.length_cons, List.length_nil]; omega)]
      rfl) (Ev.pure rfl)
  have hw : wrap64 ((u : Int) + 1) = ((u + 1 : Nat) : Int) := wrap_succ u (by omega)
  obtain ⟨d, hd⟩ : ∃ d, d = wrap64 (wrap64 ((rd_T29 l (u : Int)).f1 + 1) - (rd_T29 [(⟨id, 0, text⟩ : S29)] 0).f1) := ⟨_, rfl⟩
  unfold spec_l3Put.f
  rcases ha with ha | ha
  · refine ⟨u + 1, d, by omega, Ev.bind (l2At_ev l hl up) ?_⟩
    rw [hu]
    simp only [placeInt]
    refine Ev.pos (by omega) (Ev.pos (by omega) (Ev.pos (by simp) (Ev.neg (by omega) ?_)))
    rw [hw, ← hd]
    exact tail (u + 1) d (by omega)
  · obtain ⟨a, ha⟩ := place_mem ha
    have hal := place_lt ha
    obtain ⟨e1, e2, _, _⟩ := Tree.endOf_spec (D := depthAt l) hal
    by_cases h0 : at_ > 0
    · refine ⟨Tree.endOf (depthAt l) l.length a, d, e2, Ev.bind (l2At_ev l hl up) ?_⟩
      rw [hu]
      simp only [placeInt]
      refine Ev.pos (by omega) (Ev.pos (by omega) (Ev.pos (by simp) (Ev.pos h0 (Ev.bind (l2At_ev l hl at_) ?_))))
      rw [ha]
      simp only [placeInt]
      rw [← hd]
      exact Ev.bind (l2End_ev l hl a hal) (tail _ d e2)
    · refine ⟨u + 1, d, by omega, Ev.bind (l2At_ev l hl up) ?_⟩
      rw [hu]
      simp only [placeInt]
      refine Ev.pos (by omega) (Ev.pos (by omega) (Ev.pos (by simp) (Ev.neg h0 ?_)))
      rw [hw, ← hd]
      exact tail (u + 1) d (by omega)
/-- A row made, among rows that grow. -/
theorem make_ev (t : List S29) (m : Nat) (hm : m ≤ 1000) (h : Grown t m) (id up at_ : Int) (text : ByteArray) (hid : 0 ≤ id ∧ id ≤ 100) (hup : ∃ x ∈ t, x.f0 = up) (htx : text.size ≤ 7) : ∃ t', Ev (fun k => spec_l3Do.f k t 1 id up at_ text) t' ∧ Grown t' (m + 1) := by
  have hl : t.length ≤ 1099511627776 := by have := h.few; omega
  unfold spec_l3Do.f
  cases hw : (where3 t 1 id up at_).2.2 with
  | false =>
    refine ⟨t, Ev.bind (l2At_ev t hl id) (Ev.neg (by decide) (Ev.bind (l3Where_ev t hl 1 id up at_ text) (Ev.neg (by rw [hw]; decide) (Ev.bindc rfl (Ev.pos (by simp only [List.length_nil]; omega) (Ev.pure (List.nil_append _))))))), ⟨h.three, by have := h.few; omega, h.fit, h.doc, h.found⟩⟩
  | true =>
    have hr : (∃ x ∈ t, x.f0 = (where3 t 1 id up at_).1) ∧ ((where3 t 1 id up at_).2.1 ≤ 0 ∨ ∃ x ∈ t, x.f0 = (where3 t 1 id up at_).2.1) := by
      unfold where3 at hw ⊢
      split at hw
      · cases hw
      · rename_i hc
        rw [if_neg hc]
        obtain ⟨u, hu⟩ := place_mem hup
        rw [hu, if_pos (show (some u).isSome = true from rfl)]
        refine ⟨hup, ?_⟩
        dsimp only
        unfold atOf
        by_cases ha : at_ ∈ kidIds t up ∧ at_ ≠ id
        · rw [if_pos ha]
          obtain ⟨j, hj, e⟩ := kidIds_mem ha.1
          exact .inr (place_has hj e)
        · rw [if_neg ha]; exact .inl (Int.le_refl _)
    obtain ⟨p, d, hp, hput⟩ := put_one t hl id text _ _ hr.1 hr.2
    refine ⟨_, Ev.bind (l2At_ev t hl id) (Ev.neg (by decide) (Ev.bind (l3Where_ev t hl 1 id up at_ text) (Ev.pos hw (Ev.pos rfl (Ev.bind hput (Ev.pure rfl)))))), ?_⟩
    have hmem : ∀ x, x ∈ t → x ∈ t.take p ++ [(⟨id, wrap64 (0 + d), text⟩ : S29)] ++ t.drop p := fun x hx => by
      rw [← List.take_append_drop p t] at hx
      rcases List.mem_append.1 hx with hx | hx
      · simp [hx]
      · simp [hx]
    have hlen : (t.take p ++ [(⟨id, wrap64 (0 + d), text⟩ : S29)] ++ t.drop p).length = t.length + 1 := by simp; omega
    refine ⟨by have := h.three; omega, by have := h.few; omega, fun x hx => ?_, h.doc.elim fun x hx => ⟨x, hmem x hx.1, hx.2⟩, h.found.elim fun x hx => ⟨x, hmem x hx.1, hx.2⟩⟩
    simp only [List.mem_append, List.mem_singleton] at hx
    rcases hx with (hx | rfl) | hx
    · exact h.fit x (List.mem_of_mem_take hx)
    · exact ⟨hid, wrap64_rng _, htx⟩
    · exact h.fit x (List.mem_of_mem_drop hx)
theorem id_ev (b : List Int) (hb : RdOk b) (p : Int) (hp : 0 ≤ p ∧ p ≤ 900000000) : ∃ v, Ev (fun k => spec_l71Id.f k b p) (v, p + 1 + 1) ∧ 0 ≤ v ∧ v ≤ 100 := by
  obtain ⟨x, hx, x0, x1⟩ := pick_ev b hb p 3 (by omega) (by omega)
  obtain ⟨y, hy, y0, y1⟩ := pick_ev b hb (p + 1) 4 (by omega) (by omega)
  refine ⟨10 * (1 + x) + 1 + y, ?_, by omega, by omega⟩
  unfold spec_l71Id.f
  refine Ev.bind hx (Ev.bind hy (Ev.pure ?_))
  simp only
  rw [wrap64_id (a := 1 + x) (by omega), wrap64_id (a := 10 * (1 + x)) (by omega), wrap64_id (a := 10 * (1 + x) + 1) (by omega), wrap64_id (a := 10 * (1 + x) + 1 + y) (by omega)]
theorem set_fit {t : List S29} (h : ∀ x ∈ t, RowFit x) (i : Nat) (y : S29) (hy : RowFit y) : ∀ x ∈ t.set i y, RowFit x := fun x hx => by
  rcases List.mem_or_eq_of_mem_set hx with hx | rfl
  · exact h x hx
  · exact hy
/-- The last pass over drawn rows, and the seldom spoiling. -/
theorem tree_end (b : List Int) (hb : RdOk b) : ∀ (d i : Nat) (t : List S29) (p : Int), i + d = t.length → 3 ≤ t.length → t.length ≤ 14 → (∀ x ∈ t, RowFit x) → 0 ≤ p ∧ p + d ≤ 900000000 → ∃ t' q, Ev (fun k => spec_l71Tree.l1 k t (i : Int) b p) (t', q) ∧ Drawn t' ∧ p ≤ q ∧ q ≤ p + d + 10 := by
  intro d
  induction d with
  | zero =>
    intro i t p hi h3 h14 hf hp
    have step : ∀ k, spec_l71Tree.l1 (k + 1) t (i : Int) b p = _ := fun k => by simp only [spec_l71Tree.l1]; rw [if_neg (by omega)]
    obtain ⟨v, hv, v0, v1⟩ := pick_ev b hb p 24 (by omega) (by omega)
    obtain ⟨j, hj, j0, j1⟩ := pick_ev b hb (p + 1) (t.length : Int) (by omega) (by omega)
    obtain ⟨e, he, e0, e1⟩ := pick_ev b hb (p + 1 + 1) 5 (by omega) (by omega)
    have hjn : rd_T29 t j = rowAt t j.toNat := by
      obtain ⟨n, rfl⟩ := Int.eq_ofNat_of_zero_le j0
      rw [rd_row t (by omega)]; rfl
    have hjf := fit_at hf (i := j.toNat) (by omega)
    by_cases c0 : v = 0
    · refine ⟨_, _, Ev.step step (Ev.bind hv (Ev.pos c0 (Ev.bind hj (Ev.bind he (Ev.pos j0 (Ev.pos j1 (Ev.pure rfl))))))), ⟨by simp; omega, by simp; omega, set_fit hf _ _ ?_⟩, by omega, by omega⟩
      rw [hjn]
      exact ⟨hjf.1, by dsimp only; omega, hjf.2.2⟩
    · by_cases c1 : v = 1
      · refine ⟨_, _, Ev.step step (Ev.bind hv (Ev.neg c0 (Ev.pos c1 (Ev.bind hj (Ev.pos j0 (Ev.pos j1 (Ev.pos (by omega) (Ev.pure rfl)))))))), ⟨by simp, by simp; omega, fun x hx => ?_⟩, by omega, by omega⟩
        rcases List.mem_append.1 hx with hx | hx
        · exact hf x hx
        · rw [List.mem_singleton.1 hx, hjn]; exact hjf
      · by_cases c2 : v = 2
        · exact ⟨_, _, Ev.step step (Ev.bind hv (Ev.neg c0 (Ev.neg c1 (Ev.pos c2 (Ev.pos (by omega) (Ev.pure rfl)))))), ⟨by simp; omega, by simp; omega, fun x hx => hf x (List.mem_of_mem_drop hx)⟩, by omega, by omega⟩
        · exact ⟨_, _, Ev.step step (Ev.bind hv (Ev.neg c0 (Ev.neg c1 (Ev.neg c2 (Ev.pure rfl))))), ⟨by omega, by omega, hf⟩, by omega, by omega⟩
  | succ d ih =>
    intro i t p hi h3 h14 hf hp
    have hil : i < t.length := by omega
    have hfi := fit_at hf hil
    have step : ∀ k, spec_l71Tree.l1 (k + 1) t (i : Int) b p = _ := fun k => by simp only [spec_l71Tree.l1]; rw [if_pos (by omega), if_pos (by omega), rd_row t hil, wrap_succ i (by omega)]
    have htx : Ev (fun k => spec_l1Text.f k ((rowAt t i).f2)) (textB (rowAt t i).f2) := specText_ev _ (by have := hfi.2.2; omega)
    by_cases c : textB (rowAt t i).f2 = true
    · obtain ⟨t', q, h1, h2, h4, h5⟩ := ih (i + 1) t p (by omega) h3 h14 hf (by omega)
      exact ⟨t', q, Ev.step step (Ev.bind htx (Ev.pos c h1)), h2, h4, by omega⟩
    · obtain ⟨v, hv, v0, v1⟩ := pick_ev b hb p 2 (by omega) (by omega)
      by_cases c0 : v = 0
      · obtain ⟨t', q, h1, h2, h4, h5⟩ := ih (i + 1) (t.set i ⟨(rowAt t i).f0, (rowAt t i).f1, (⟨#[]⟩ : ByteArray)⟩) (p + 1) (by simp; omega) (by simpa using h3) (by simpa using h14) (set_fit hf _ _ ⟨hfi.1, hfi.2.1, by show (0 : Nat) ≤ 7; omega⟩) (by omega)
        exact ⟨t', q, Ev.step step (Ev.bind htx (Ev.neg c (Ev.bind hv (Ev.pos c0 h1)))), h2, by omega, by omega⟩
      · obtain ⟨t', q, h1, h2, h4, h5⟩ := ih (i + 1) t (p + 1) (by omega) h3 h14 hf (by omega)
        exact ⟨t', q, Ev.step step (Ev.bind htx (Ev.neg c (Ev.bind hv (Ev.neg c0 h1)))), h2, by omega, by omega⟩
theorem tree_loop_ev (b : List Int) (hb : RdOk b) : ∀ (n : Nat) (t : List S29) (m : Nat) (p : Int), m + n ≤ 14 → Grown t m → 0 ≤ p ∧ p + 20 * n ≤ 800000000 → ∃ t' q, Ev (fun k => spec_l71Tree.l0 k t (n : Int) b p) (t', q) ∧ Drawn t' ∧ p ≤ q ∧ q ≤ p + 20 * n + 30 := by
  intro n
  induction n with
  | zero =>
    intro t m p hm h hp
    obtain ⟨t', q, h1, h2, h3, h4⟩ := tree_end b hb t.length 0 t p (by omega) h.three (by have := h.few; omega) h.fit (by have := h.few; omega)
    exact ⟨t', q, Ev.step (fun k => by simp only [spec_l71Tree.l0]; rw [if_neg (by omega)]; rfl) h1, h2, h3, by have := h.few; omega⟩
  | succ n ih =>
    intro t m p hm h hp
    have hlen := h.few
    have h3 := h.three
    have hw : wrap64 (((n + 1 : Nat) : Int) - 1) = (n : Int) := by rw [show ((n + 1 : Nat) : Int) - 1 = (n : Int) by omega]; exact wrap64_id (by omega)
    -- behind the draws of the place: the row itself
    have made : ∀ (up at_ p' : Int), (∃ x ∈ t, x.f0 = up) → 0 ≤ p' ∧ p' + 20 * n ≤ 800000000 - 9 → ∃ i s q1 q2, Ev (fun k => spec_l71Id.f k b p') (i, q1) ∧ Ev (fun k => spec_l71Text.f k b q1) (s, q2) ∧ ∃ t1, Ev (fun k => spec_l3Do.f k t 1 i up at_ s) t1 ∧ ∃ t' q, Ev (fun k => spec_l71Tree.l0 k t1 (n : Int) b q2) (t', q) ∧ Drawn t' ∧ p' ≤ q ∧ q ≤ p' + 20 * n + 39 := by
      intro up at_ p' hup hp'
      obtain ⟨i, hi, i0, i1⟩ := id_ev b hb p' (by omega)
      obtain ⟨s, q2, hs, s1, q0, q1⟩ := text_ev b hb (p' + 1 + 1) (by omega)
      obtain ⟨t1, ht, hg⟩ := make_ev t m (by omega) h i up at_ s ⟨i0, i1⟩ hup s1
      obtain ⟨t', q, a1, a2, a3, a4⟩ := ih t1 (m + 1) q2 (by omega) hg (by omega)
      exact ⟨i, s, _, q2, hi, hs, t1, ht, t', q, a1, a2, by omega, by omega⟩
    have j3 : ∀ (up : Int) (kids : List Int) (z : Bool) (p' : Int), (∃ x ∈ t, x.f0 = up) → (z = true → 0 < kids.length) → 0 ≤ p' ∧ p' + 20 * n ≤ 800000000 - 10 → ∃ t' q, Ev (fun k => spec_l71Tree.j3 k t ((n + 1 : Nat) : Int) up kids 0 z b p') (t', q) ∧ Drawn t' ∧ p' ≤ q ∧ q ≤ p' + 20 * n + 40 := by
      intro up kids z p' hup hz hp'
      cases z with
      | false =>
        obtain ⟨i, s, q1, q2, hi, hs, t1, ht, t', q, a1, a2, a3, a4⟩ := made up 0 p' hup (by omega)
        refine ⟨t', q, Ev.step (fun k => by simp only [spec_l71Tree.j3]; rw [if_neg (by decide)]) ?_, a2, a3, by omega⟩
        rw [hw]
        exact Ev.bind hi (Ev.bind hs (Ev.bind ht a1))
      | true =>
        obtain ⟨v, hv, v0, v1⟩ := pick_ev b hb p' (kids.length : Int) (by omega) (by have := hz rfl; omega)
        obtain ⟨i, s, q1, q2, hi, hs, t1, ht, t', q, a1, a2, a3, a4⟩ := made up (rd kids v) (p' + 1) hup (by omega)
        refine ⟨t', q, Ev.step (fun k => by simp only [spec_l71Tree.j3]; rw [if_pos trivial]) ?_, a2, by omega, by omega⟩
        rw [hw]
        exact Ev.bind hv (Ev.pos v0 (Ev.pos v1 (Ev.bind hi (Ev.bind hs (Ev.bind ht a1)))))
    have j2 : ∀ (up p' : Int), (∃ x ∈ t, x.f0 = up) → 0 ≤ p' ∧ p' + 20 * n ≤ 800000000 - 11 → ∃ t' q, Ev (fun k => spec_l71Tree.j2 k t ((n + 1 : Nat) : Int) up b p') (t', q) ∧ Drawn t' ∧ p' ≤ q ∧ q ≤ p' + 20 * n + 41 := by
      intro up p' hup hp'
      have step : ∀ k, spec_l71Tree.j2 (k + 1) t ((n + 1 : Nat) : Int) up b p' = _ := fun k => by simp only [spec_l71Tree.j2]; rfl
      by_cases c : ((kidIds t up).length : Int) > 0
      · obtain ⟨v, hv, v0, v1⟩ := pick_ev b hb p' 2 (by omega) (by omega)
        obtain ⟨t', q, a1, a2, a3, a4⟩ := j3 up (kidIds t up) (v == 0) (p' + 1) hup (fun _ => by omega) (by omega)
        exact ⟨t', q, Ev.step step (Ev.bind (l2Kids_ev t (by omega) up) (Ev.pos c (Ev.bind hv a1))), a2, by omega, by omega⟩
      · obtain ⟨t', q, a1, a2, a3, a4⟩ := j3 up (kidIds t up) false p' hup (fun h => by cases h) (by omega)
        exact ⟨t', q, Ev.step step (Ev.bind (l2Kids_ev t (by omega) up) (Ev.neg c a1)), a2, by omega, by omega⟩
    have j1 : ∀ (z : Bool) (p' : Int), 0 ≤ p' ∧ p' + 20 * n ≤ 800000000 - 12 → ∃ t' q, Ev (fun k => spec_l71Tree.j1 k t ((n + 1 : Nat) : Int) 1 z b p') (t', q) ∧ Drawn t' ∧ p' ≤ q ∧ q ≤ p' + 20 * n + 42 := by
      intro z p' hp'
      cases z with
      | false =>
        obtain ⟨t', q, a1, a2, a3, a4⟩ := j2 1 p' h.doc (by omega)
        exact ⟨t', q, Ev.step (fun k => by simp only [spec_l71Tree.j1]; rw [if_neg (by decide)]) a1, a2, a3, by omega⟩
      | true =>
        obtain ⟨v, hv, v0, v1⟩ := pick_ev b hb p' (t.length : Int) (by omega) (by omega)
        obtain ⟨w, rfl⟩ := Int.eq_ofNat_of_zero_le v0
        have hwl : w < t.length := by omega
        obtain ⟨t', q, a1, a2, a3, a4⟩ := j2 (rd_T29 t (w : Int)).f0 (p' + 1) (place_has hwl (by rw [rd_row t hwl]; rfl)) (by omega)
        exact ⟨t', q, Ev.step (fun k => by simp only [spec_l71Tree.j1]; rw [if_pos trivial]) (Ev.bind hv (Ev.pos v0 (Ev.pos v1 a1))), a2, by omega, by omega⟩
    by_cases c : (t.length : Int) > 3
    · obtain ⟨v, hv, v0, v1⟩ := pick_ev b hb p 3 (by omega) (by omega)
      obtain ⟨t', q, a1, a2, a3, a4⟩ := j1 (decide (v > 0)) (p + 1) (by omega)
      exact ⟨t', q, Ev.step (fun k => by simp only [spec_l71Tree.l0]; rw [if_pos (by omega), if_pos c]) (Ev.bind hv a1), a2, by omega, by omega⟩
    · obtain ⟨t', q, a1, a2, a3, a4⟩ := j1 false p (by omega)
      exact ⟨t', q, Ev.step (fun k => by simp only [spec_l71Tree.l0]; rw [if_pos (by omega), if_neg c]) a1, a2, by omega, by omega⟩
/-- An outline drawn. -/
theorem tree_ev (b : List Int) (hb : RdOk b) (p : Int) (hp : 0 ≤ p ∧ p ≤ 700000000) : ∃ t q, Ev (fun k => spec_l71Tree.f k b p) (t, q) ∧ Drawn t ∧ p ≤ q ∧ q ≤ p + 300 := by
  obtain ⟨v, hv, v0, v1⟩ := pick_ev b hb p 11 (by omega) (by omega)
  obtain ⟨n, rfl⟩ := Int.eq_ofNat_of_zero_le v0
  have hg : Grown [(⟨1, 0, (⟨#[]⟩ : ByteArray)⟩ : S29), ⟨2, 0, (⟨#[]⟩ : ByteArray)⟩, ⟨3, 0, (⟨#[]⟩ : ByteArray)⟩] 3 := by
    refine ⟨by simp, by simp, fun x hx => ?_, ⟨_, List.mem_cons_self, rfl⟩, ⟨⟨3, 0, (⟨#[]⟩ : ByteArray)⟩, by simp, rfl⟩⟩
    simp only [List.mem_cons, List.not_mem_nil, or_false] at hx
    rcases hx with rfl | rfl | rfl <;> exact ⟨by decide, by decide, by decide⟩
  obtain ⟨t, q, h1, h2, h3, h4⟩ := tree_loop_ev b hb n _ 3 (p + 1) (by omega) hg (by omega)
  exact ⟨t, q, Ev.bindc (show spec_TreeNew.f = some _ from rfl) (Ev.bind hv h1), h2, by omega, by omega⟩
end Go.Proofs.YtdapbpgooehibaaDoor.P
