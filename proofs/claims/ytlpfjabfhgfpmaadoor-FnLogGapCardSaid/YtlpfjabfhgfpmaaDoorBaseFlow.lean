/- A change done by the reference, on rows as they grow in a drawn log: it answers, and the rows stay such. Conditions: few rows, small depths, a change as the draws give it. -/
import Derived.Test.YtlpfjabfhgfpmaaDoorBaseTw
import Derived.Test.YtlpfjabfhgfpmaaDoorPx9
import Derived.Test.YtlpfjabfhgfpmaaDoorPx10
namespace Go.Proofs.YtlpfjabfhgfpmaaDoor.P
open Go.RowKit Go.Proofs.YtlpfjabfhgfpmaaDoorW.PrintWords Go.Proofs.YtlpfjabfhgfpmaaDoorW.PrintLast
set_option linter.unusedVariables false
set_option linter.unusedSimpArgs false
def RowFlow (B : Nat) (x : S105) : Prop := (0 ≤ x.f0 ∧ x.f0 ≤ 100) ∧ (0 ≤ x.f1 ∧ x.f1 ≤ B) ∧ x.f2.size ≤ 7 ∧ (x.f0 = 3 → x.f1 = 0)
structure Flow (t : List S105) (m B : Nat) : Prop where
 few : t.length ≤ m
 fit : ∀ x ∈ t, RowFlow B x
 found : ∃ x ∈ t, x.f0 = 3
theorem RowFlow.mono {B C : Nat} (h : B ≤ C) {x : S105} (hx : RowFlow B x) : RowFlow C x := ⟨hx.1, ⟨hx.2.1.1, by have := hx.2.1.2; omega⟩, hx.2.2⟩
theorem Flow.mono {t : List S105} {m n B C : Nat} (h : Flow t m B) (hm : m ≤ n) (hB : B ≤ C) : Flow t n C := ⟨by have := h.few; omega, fun x hx => (h.fit x hx).mono hB, h.found⟩
theorem flow_at {t : List S105} {B : Nat} (h : ∀ x ∈ t, RowFlow B x) {i : Nat} (hi : i < t.length) : RowFlow B (rowAt t i) := by rw [rowAt_get hi]; exact h _ (List.getElem_mem _)
theorem place_mem {t : List S105} {id : Int} (h : ∃ x ∈ t, x.f0 = id) : ∃ i, placeOf t t.length id = some i := by
 cases hp : placeOf t t.length id with
 | some i => exact ⟨i, rfl⟩
 | none =>
  obtain ⟨x, hx, e⟩ := h
  obtain ⟨i, hi, rfl⟩ := List.getElem_of_mem hx
  have := Tree.firstB_none.1 hp i hi
  simp only [beq_eq_false_iff_ne] at this
  exact absurd (by unfold idAt; rw [rowAt_get hi]; exact e) this
theorem place_has {t : List S105} {id : Int} {i : Nat} (h : i < t.length) (e : idAt t i = id) : ∃ x ∈ t, x.f0 = id := ⟨t[i], List.getElem_mem _, by rw [← e]; unfold idAt; rw [rowAt_get h]⟩
def shift (d : Int) (x : S105) : S105 := ⟨x.f0, wrap64 (x.f1 + d), x.f2⟩
theorem put_loop (l rows : List S105) (d : Int) (p : Nat) (hl : l.length ≤ 1099511627776) (hr : rows.length ≤ 1099511627776) (hp : p ≤ l.length) : ∀ (n i : Nat) (out : List S105), i + n = rows.length → out.length ≤ 1099511627776 + i → Ev (fun k => spec_l3Put.l0 k l rows d (p : Int) out (i : Int)) (out ++ (rows.drop i).map (shift d) ++ l.drop p) := by
 intro n
 induction n with
 | zero =>
  intro i out hi ho
  refine Ev.step (f := fun _ => some (out ++ l.drop p)) (fun k => by
   simp only [spec_l3Put.l0]
   rw [if_neg (by omega), if_pos (by omega), if_pos (by omega)]
   simp only [Option.bind_some, Int.toNat_natCast]
   rw [if_pos (by rw [List.length_drop]; omega)]) (Ev.pure ?_)
  rw [show rows.drop i = [] from List.drop_of_length_le (by omega), List.map_nil, List.append_nil]
 | succ n ih =>
  intro i out hi ho
  have hlt : i < rows.length := by omega
  refine Ev.step (f := fun k => spec_l3Put.l0 k l rows d (p : Int) (out ++ [shift d rows[i]]) ((i + 1 : Nat) : Int)) (fun k => by
   simp only [spec_l3Put.l0]
   rw [if_pos (by omega), if_pos (by omega), if_pos (by omega), wrap_succ i (by omega), rd_row rows hlt, rowAt_get hlt]; rfl) ?_
  refine Ev.cong (ih (i + 1) (out ++ [shift d rows[i]]) (by omega) (by simp; omega)) ?_
  rw [List.drop_eq_getElem_cons hlt, List.map_cons]
  simp
theorem put_ev (l rows : List S105) (hl : l.length ≤ 1099511627776) (hr : rows.length ≤ 1099511627776) (h0 : 0 < rows.length) (up at_ : Int) (u : Nat) (hu : placeOf l l.length up = some u) (ha : at_ ≤ 0 ∨ ∃ x ∈ l, x.f0 = at_) :
  ∃ p : Nat, p ≤ l.length ∧ Ev (fun k => spec_l3Put.f k l rows up at_) (l.take p ++ rows.map (shift (wrap64 (wrap64 (depthAt l u + 1) - depthAt rows 0))) ++ l.drop p) := by
 have hul := place_lt hu
 have hw : wrap64 ((u : Int) + 1) = ((u + 1 : Nat) : Int) := wrap_succ u (by omega)
 have hd : wrap64 (wrap64 ((rd_T105 l (u : Int)).f1 + 1) - (rd_T105 rows 0).f1) = wrap64 (wrap64 (depthAt l u + 1) - depthAt rows 0) := by
  rw [rd_row l hul, show (0 : Int) = ((0 : Nat) : Int) from rfl, rd_row rows h0]; rfl
 have tail : ∀ (p : Nat) (d : Int), p ≤ l.length → Ev (fun k => spec_l3Put.j0 k l rows d (p : Int)) (l.take p ++ rows.map (shift d) ++ l.drop p) := by
  intro p d hp
  refine Ev.step (fun k => by simp only [spec_l3Put.j0]; rfl) ?_
  refine Ev.bindc rfl (Ev.pos (by omega) (Ev.pos (by omega) (Ev.bindc rfl (Ev.pos (by rw [List.length_take, List.length_nil]; omega) ?_))))
  rw [List.nil_append, Int.toNat_natCast]
  refine Ev.cong (put_loop l rows d p hl hr hp rows.length 0 (l.take p) (by omega) (by rw [List.length_take]; omega)) ?_
  rw [List.drop_zero]
 unfold spec_l3Put.f
 rcases ha with ha | ha
 ·refine ⟨u + 1, by omega, Ev.bind (l2At_ev l hl up) ?_⟩
  rw [hu]
  simp only [placeInt]
  refine Ev.pos (by omega) (Ev.pos (by omega) (Ev.pos (by omega) (Ev.neg (by omega) ?_)))
  rw [hw, hd]
  exact tail (u + 1) _ (by omega)
 ·obtain ⟨a, ha⟩ := place_mem ha
  have hal := place_lt ha
  obtain ⟨e1, e2, _, _⟩ := Tree.endOf_spec (D := depthAt l) hal
  by_cases hz : at_ > 0
  ·refine ⟨Tree.endOf (depthAt l) l.length a, e2, Ev.bind (l2At_ev l hl up) ?_⟩
   rw [hu]
   simp only [placeInt]
   refine Ev.pos (by omega) (Ev.pos (by omega) (Ev.pos (by omega) (Ev.pos hz (Ev.bind (l2At_ev l hl at_) ?_))))
   rw [ha]
   simp only [placeInt]
   rw [hd]
   exact Ev.bind (l2End_ev l hl a hal) (tail _ _ e2)
  ·refine ⟨u + 1, by omega, Ev.bind (l2At_ev l hl up) ?_⟩
   rw [hu]
   simp only [placeInt]
   refine Ev.pos (by omega) (Ev.pos (by omega) (Ev.pos (by omega) (Ev.neg hz ?_)))
   rw [hw, hd]
   exact tail (u + 1) _ (by omega)
theorem kidIds_place {l : List S105} {id x : Int} (h : x ∈ kidIds l id) : ∃ u j, placeOf l l.length id = some u ∧ u < j ∧ j < Tree.endOf (depthAt l) l.length u ∧ idAt l j = x ∧ depthAt l j = wrap64 (depthAt l u + 1) := by
 unfold kidIds at h
 cases hp : placeOf l l.length id with
 | none => rw [hp] at h; cases h
 | some u =>
  rw [hp] at h
  obtain ⟨a1, a2, _, _⟩ := Tree.endOf_spec (D := depthAt l) (place_lt hp)
  simp only [segIds, List.mem_map, List.mem_filter, List.mem_range'_1, decide_eq_true_eq] at h
  obtain ⟨j, ⟨⟨h1, h2⟩, h3⟩, e⟩ := h
  exact ⟨u, j, rfl, by omega, by omega, e, h3⟩
theorem rest_has {l : List S105} {a e j : Nat} (hj : j < l.length) (h : ¬ (a ≤ j ∧ j < e)) : ∃ x ∈ l.take a ++ l.drop e, x.f0 = idAt l j := by
 refine ⟨l[j], ?_, by unfold idAt; rw [rowAt_get hj]⟩
 by_cases h1 : j < a
 ·exact List.mem_append.2 (.inl (List.mem_take_iff_getElem.2 ⟨j, by omega, rfl⟩))
 ·refine List.mem_append.2 (.inr ?_)
  have h2 : e ≤ j := by omega
  have h3 : (l.drop e)[j - e]'(by simp; omega) = l[j] := by rw [List.getElem_drop]; congr 1; omega
  rw [← h3]; exact List.getElem_mem _
theorem flow_put {l rows : List S105} {B m : Nat} (hB : 1 ≤ B) (hBB : B ≤ 100000000) (hl : ∀ x ∈ l, RowFlow B x) (hf : ∃ x ∈ l, x.f0 = 3) (hr : ∀ x ∈ rows, RowFlow B x ∧ x.f0 ≠ 3) (u : Nat) (hu : u < l.length) (hd : ∀ x ∈ rows, depthAt rows 0 ≤ x.f1) (p : Nat) (hp : p ≤ l.length) (hm : l.length + rows.length ≤ m) :
  Flow (l.take p ++ rows.map (shift (wrap64 (wrap64 (depthAt l u + 1) - depthAt rows 0))) ++ l.drop p) m (4 * B) := by
 have hul := flow_at hl hu
 have hmem : ∀ x, x ∈ l → x ∈ l.take p ++ rows.map (shift (wrap64 (wrap64 (depthAt l u + 1) - depthAt rows 0))) ++ l.drop p := fun x hx => by
  rw [← List.take_append_drop p l] at hx
  rcases List.mem_append.1 hx with hx | hx
  ·simp [hx]
  ·simp [hx]
 refine ⟨by simp; omega, fun x hx => ?_, hf.elim fun x hx => ⟨x, hmem x hx.1, hx.2⟩⟩
 rcases List.mem_append.1 hx with hx | hx
 ·rcases List.mem_append.1 hx with hx | hx
  ·exact (hl x (List.mem_of_mem_take hx)).mono (by omega)
  ·obtain ⟨y, hy, rfl⟩ := List.mem_map.1 hx
   obtain ⟨⟨a1, a2, a3, a4⟩, a5⟩ := hr y hy
   have h0 := hd y hy
   have hz : 0 ≤ depthAt rows 0 ∧ depthAt rows 0 ≤ B := by
    have hlen : 0 < rows.length := List.length_pos_of_mem hy
    unfold depthAt; rw [rowAt_get hlen]; exact (hr _ (List.getElem_mem hlen)).1.2.1
   have hdu : 0 ≤ depthAt l u ∧ depthAt l u ≤ B := hul.2.1
   have e1 : wrap64 (depthAt l u + 1) = depthAt l u + 1 := wrap64_id (by omega)
   have e2 : wrap64 (depthAt l u + 1 - depthAt rows 0) = depthAt l u + 1 - depthAt rows 0 := wrap64_id (by omega)
   have e3 : wrap64 (y.f1 + (depthAt l u + 1 - depthAt rows 0)) = y.f1 + (depthAt l u + 1 - depthAt rows 0) := wrap64_id (by omega)
   unfold shift RowFlow
   dsimp only
   rw [e1, e2, e3]
   exact ⟨a1, ⟨by omega, by omega⟩, a3, fun h => absurd h a5⟩
 ·exact (hl x (List.mem_of_mem_drop hx)).mono (by omega)
theorem copy_ev {t : List S105} (h : t.length ≤ 1000) : Ev (fun _ => (some (([] : List S105) : List S105)).bind fun y => if y.length + t.length < 4398046511104 then some (y ++ t) else none) t :=
 Ev.bindc rfl (Ev.pos (by rw [List.length_nil]; omega) (Ev.pure (List.nil_append _)))
theorem do_ev (t : List S105) (m B : Nat) (hm : m ≤ 100) (hB : 1 ≤ B) (hBB : B ≤ 100000000) (h : Flow t m B) (kind id up at_ : Int) (text : ByteArray) (hk : kind = 1 ∨ kind = 2 ∨ kind = 3) (hid : (0 ≤ id ∧ id ≤ 100) ∧ id ≠ 3) (htx : text.size ≤ 7) :
  ∃ t', Ev (fun k => spec_l3Do.f k t kind id up at_ text) t' ∧ Flow t' (m + 1) (4 * B) := by
 have hl : t.length ≤ 1099511627776 := by have := h.few; omega
 have hfew := h.few
 have keep : Flow t (m + 1) (4 * B) := h.mono (by omega) (by omega)
 unfold spec_l3Do.f
 by_cases k2 : kind = 2
 ·cases hp : placeOf t t.length id with
  | none =>
   refine ⟨t, Ev.bind (l2At_ev t hl id) (Ev.pos k2 (Ev.bindc rfl (Ev.pos (by rw [List.length_nil]; omega) (Ev.bindc rfl ?_)))), keep⟩
   rw [hp, List.nil_append]
   exact Ev.neg (by simp [placeInt]) (Ev.pure rfl)
  | some i =>
   have hi := place_lt hp
   refine ⟨t.set i ⟨(rowAt t i).f0, (rowAt t i).f1, text⟩, Ev.bind (l2At_ev t hl id) (Ev.pos k2 (Ev.bindc rfl (Ev.pos (by rw [List.length_nil]; omega) (Ev.bindc rfl ?_)))), ?_⟩
   ·rw [hp, List.nil_append]
    refine Ev.pos (by simp [placeInt]) (Ev.pos (by simp [placeInt]) (Ev.pos (by simp only [placeInt]; omega) (Ev.pure ?_)))
    simp only [placeInt, rd_row t hi, Int.toNat_natCast]
   ·have hx := flow_at h.fit hi
    refine ⟨by rw [List.length_set]; omega, fun x hx2 => ?_, ?_⟩
    ·rcases List.mem_or_eq_of_mem_set hx2 with hx2 | rfl
     ·exact (h.fit x hx2).mono (by omega)
     ·exact ⟨hx.1, ⟨hx.2.1.1, by have := hx.2.1.2; dsimp only; omega⟩, htx, hx.2.2.2⟩
    ·obtain ⟨x, hx2, e⟩ := h.found
     obtain ⟨j, hj, rfl⟩ := List.getElem_of_mem hx2
     by_cases c : i = j
     ·subst c
      have e3 : idAt t i = 3 := by unfold idAt; rw [rowAt_get hi]; exact e
      exact absurd (place_id hp ▸ e3) hid.2
     ·exact ⟨t[j], by rw [← List.getElem_set_ne (h := c) (hj := by simpa using hj)]; exact List.getElem_mem _, e⟩
 have hwh := l3Where_ev t hl kind id up at_ text
 cases hw : (where3 t kind id up at_).2.2 with
 | false =>
  exact ⟨t, Ev.bind (l2At_ev t hl id) (Ev.neg k2 (Ev.bind hwh (Ev.neg (by rw [hw]; decide) (copy_ev (by omega))))), keep⟩
 | true =>
  have hc : ¬ (kind = 2 ∨ (placeOf t t.length id).isSome ≠ (kind == 3) ∨ ((placeOf t t.length id).isSome = true ∧ underB t up id = true)) := by
   intro hc; unfold where3 at hw; rw [if_pos hc] at hw; cases hw
  have hv : where3 t kind id up at_ = if (placeOf t t.length up).isSome = true then (up, atOf (kidIds t up) id at_ 0, true) else (3, 0, true) := by unfold where3; rw [if_neg hc]
  by_cases k1 : kind = 1
  ·have hr : (∃ x ∈ t, x.f0 = (where3 t kind id up at_).1) ∧ ((where3 t kind id up at_).2.1 ≤ 0 ∨ ∃ x ∈ t, x.f0 = (where3 t kind id up at_).2.1) := by
    rw [hv]
    by_cases hu : (placeOf t t.length up).isSome = true
    ·rw [if_pos hu]
     obtain ⟨u, hu⟩ := Option.isSome_iff_exists.1 hu
     refine ⟨place_has (place_lt hu) (place_id hu), ?_⟩
     dsimp only
     unfold atOf
     by_cases ha : at_ ∈ kidIds t up ∧ at_ ≠ id
     ·rw [if_pos ha]
      obtain ⟨j, hj, e⟩ := kidIds_mem ha.1
      exact .inr (place_has hj e)
     ·rw [if_neg ha]; exact .inl (Int.le_refl _)
    ·rw [if_neg hu]
     exact ⟨h.found, .inl (Int.le_refl _)⟩
   obtain ⟨u, hu⟩ := place_mem hr.1
   obtain ⟨p, hp, hput⟩ := put_ev t [(⟨id, 0, text⟩ : S105)] hl (by simp) (by simp) _ _ u hu hr.2
   refine ⟨_, Ev.bind (l2At_ev t hl id) (Ev.neg k2 (Ev.bind hwh (Ev.pos hw (Ev.pos k1 (Ev.bind hput (Ev.pure rfl)))))), ?_⟩
   refine flow_put hB hBB h.fit h.found ?_ u (place_lt hu) ?_ p hp (by simp; omega)
   ·intro x hx
    rw [List.mem_singleton.1 hx]
    exact ⟨⟨hid.1, ⟨by dsimp only; omega, by dsimp only; omega⟩, htx, fun e => rfl⟩, hid.2⟩
   ·intro x hx
    rw [List.mem_singleton.1 hx]; exact Int.le_refl _
  ·have k3 : kind = 3 := by omega
   have hs : (placeOf t t.length id).isSome = true := by
    rcases hb : (placeOf t t.length id).isSome with _ | _
    ·exact absurd (.inr (.inl (by rw [hb, k3]; decide))) hc
    ·rfl
   obtain ⟨a, ha⟩ := Option.isSome_iff_exists.1 hs
   have hal := place_lt ha
   have hnu : underB t up id = false := by
    rcases hb : underB t up id with _ | _
    ·rfl
    ·exact absurd (.inr (.inr ⟨hs, hb⟩)) hc
   obtain ⟨e1, e2, e3, _⟩ := Tree.endOf_spec (D := depthAt t) hal
   generalize he : Tree.endOf (depthAt t) t.length a = e at e1 e2 e3
   have out3 : ∀ j, j < t.length → idAt t j = 3 → ¬ (a ≤ j ∧ j < e) := by
    rintro j hj h3 ⟨c1, c2⟩
    by_cases c : j = a
    ·rw [c, place_id ha] at h3; exact hid.2 h3
    ·have h5 := e3 j (by omega) c2
     have h6 := (flow_at h.fit hj).2.2.2 h3
     have h7 := (flow_at h.fit hal).2.1.1
     have h8 : depthAt t j = 0 := h6
     have h9 : 0 ≤ depthAt t a := h7
     omega
   have found : ∃ x ∈ t.take a ++ t.drop e, x.f0 = 3 := by
    obtain ⟨x, hx, e⟩ := h.found
    obtain ⟨j, hj, rfl⟩ := List.getElem_of_mem hx
    have h3 : idAt t j = 3 := by unfold idAt; rw [rowAt_get hj]; exact e
    rw [← h3]; exact rest_has hj (out3 j hj h3)
   have hr : (∃ x ∈ t.take a ++ t.drop e, x.f0 = (where3 t kind id up at_).1) ∧ ((where3 t kind id up at_).2.1 ≤ 0 ∨ ∃ x ∈ t.take a ++ t.drop e, x.f0 = (where3 t kind id up at_).2.1) := by
    rw [hv]
    by_cases hu : (placeOf t t.length up).isSome = true
    ·rw [if_pos hu]
     obtain ⟨u, hu⟩ := Option.isSome_iff_exists.1 hu
     have hul := place_lt hu
     have hout : ¬ (a ≤ u ∧ u < e) := fun c => by
      have h5 := (underB_some hu ha).2 ((Tree.under_end hal hul).2 (by rw [he]; exact c))
      rw [hnu] at h5; cases h5
     refine ⟨by have := rest_has hul hout; rwa [place_id hu] at this, ?_⟩
     dsimp only
     unfold atOf
     by_cases hat : at_ ∈ kidIds t up ∧ at_ ≠ id
     ·rw [if_pos hat]
      obtain ⟨u2, j, p1, p2, p3, p4, p5⟩ := kidIds_place hat.1
      obtain rfl : u = u2 := by rw [hu] at p1; exact Option.some.inj p1
      obtain ⟨f1, f2, f3, _⟩ := Tree.endOf_spec (D := depthAt t) hul
      have hjl : j < t.length := by omega
      have hdu := (flow_at h.fit hul).2.1
      rw [wrap64_id (a := depthAt t u + 1) (by have := hdu.1; have := hdu.2; unfold depthAt; omega)] at p5
      refine .inr ?_
      rw [← p4]
      refine rest_has hjl (fun c => ?_)
      have hja : j ≠ a := fun e => hat.2 (by rw [← p4, e, place_id ha])
      have h5 := e3 j (by omega) c.2
      have h6 : u < a := by omega
      have h7 := f3 a h6 (by omega)
      omega
     ·rw [if_neg hat]; exact .inl (Int.le_refl _)
    ·rw [if_neg hu]
     exact ⟨found, .inl (Int.le_refl _)⟩
   have hlen3 : (t.take a ++ t.drop e).length = a + (t.length - e) := by rw [List.length_append, List.length_take, List.length_drop]; omega
   have hlen1 : (t.take a ++ t.drop e).length ≤ t.length := by omega
   have hlen2 : ((t.take e).drop a).length = e - a := by simp; omega
   obtain ⟨u, hu⟩ := place_mem hr.1
   obtain ⟨p, hp, hput⟩ := put_ev (t.take a ++ t.drop e) ((t.take e).drop a) (by omega) (by omega) (by omega) _ _ u hu hr.2
   obtain ⟨R, hR⟩ : ∃ R, R = (t.take a ++ t.drop e).take p ++ ((t.take e).drop a).map (shift (wrap64 (wrap64 (depthAt (t.take a ++ t.drop e) u + 1) - depthAt ((t.take e).drop a) 0))) ++ (t.take a ++ t.drop e).drop p := ⟨_, rfl⟩
   rw [← hR] at hput
   refine ⟨R, Ev.bind (l2At_ev t hl id) (Ev.neg k2 (Ev.bind hwh (Ev.pos hw (Ev.neg k1 ?_)))), ?_⟩
   ·rw [ha]
    simp only [placeInt]
    have h2 := l2End_ev t hl a hal
    rw [he] at h2
    refine Ev.bind h2 (Ev.bindc rfl (Ev.pos (by omega) (Ev.pos (by omega) (Ev.pos (by omega) (Ev.bindc rfl (Ev.pos (by rw [List.length_nil, Int.toNat_natCast, Int.toNat_natCast]; omega) (Ev.bindc rfl (Ev.pos (by omega) (Ev.bindc rfl (Ev.pos (by rw [List.length_nil, List.length_take]; omega) (Ev.bindc rfl (Ev.pos (by omega) (Ev.bindc rfl (Ev.pos (by rw [List.nil_append, List.length_take, List.length_drop]; omega) (Ev.bind ?_ (Ev.pure rfl))))))))))))))))
    simp only [Int.toNat_natCast, List.nil_append]
    exact hput
   ·have hseg : ∀ x ∈ (t.take e).drop a, ∃ j, a ≤ j ∧ j < e ∧ ∃ hj : j < t.length, x = t[j] := by
     intro x hx
     obtain ⟨q, hq, rfl⟩ := List.getElem_of_mem hx
     have hq2 := hq
     rw [hlen2] at hq2
     exact ⟨a + q, by omega, by omega, by omega, by rw [List.getElem_drop, List.getElem_take]⟩
    have hd0 : depthAt ((t.take e).drop a) 0 = depthAt t a := by
     unfold depthAt
     rw [rowAt_get (by omega), rowAt_get hal, List.getElem_drop, List.getElem_take]
     rfl
    rw [hR]
    refine flow_put hB hBB (fun x hx => ?_) found (fun x hx => ?_) u (place_lt hu) (fun x hx => ?_) p hp (by omega)
    ·rcases List.mem_append.1 hx with hx | hx
     ·exact h.fit x (List.mem_of_mem_take hx)
     ·exact h.fit x (List.mem_of_mem_drop hx)
    ·obtain ⟨j, j1, j2, hj, rfl⟩ := hseg x hx
     refine ⟨h.fit _ (List.getElem_mem hj), fun e => ?_⟩
     exact out3 j hj (by unfold idAt; rw [rowAt_get hj]; exact e) ⟨j1, j2⟩
    ·obtain ⟨j, j1, j2, hj, rfl⟩ := hseg x hx
     rw [hd0]
     by_cases c : j = a
     ·subst c; unfold depthAt; rw [rowAt_get hj]; exact Int.le_refl _
     ·have h5 := e3 j (by omega) j2
      unfold depthAt at h5 ⊢
      rw [rowAt_get hj] at h5
      omega
end Go.Proofs.YtlpfjabfhgfpmaaDoor.P
