/- OpOk of the reference answers by the plain word 'opB'; what a drawn change is like. Numbers of 64 bits, texts of any length. -/
import Derived.Test.YtkoodlmedgfdjaaGreatDoorBaseRowOk
import Derived.Test.YtkoodlmedgfdjaaGreatDoorBaseRd
import Derived.Test.YtkoodlmedgfdjaaGreatDoorPlainOp
import Derived.Test.YtkoodlmedgfdjaaGreatDoorPx2
import Derived.Test.YtkoodlmedgfdjaaGreatDoorPx2
import Derived.Test.YtkoodlmedgfdjaaGreatDoorPx3
import Derived.Test.YtkoodlmedgfdjaaGreatDoorPx4
namespace Go.Proofs.YtkoodlmedgfdjaaGreatDoor.P
open Go.RowKit Go.Proofs.YtkoodlmedgfdjaaGreatDoorW.PrintWords Go.Proofs.YtkoodlmedgfdjaaGreatDoorW.PrintLast
set_option linter.unusedVariables false
set_option linter.unusedSimpArgs false

/-- A number of 64 bits. -/
abbrev I64 (a : Int) : Prop := -9223372036854775808 ≤ a ∧ a ≤ 9223372036854775807
theorem l3Id_eq (a : Int) (ha : I64 a) : spec_l3Id.f a = some (madeB a || rootB a) := by
  unfold spec_l3Id.f
  rw [l1Root_eq, l1Made_eq a ha]
  cases rootB a <;> cases madeB a <;> rfl
theorem specOpOk_ev (kind id up at_ : Int) (s : ByteArray) (hi : I64 id) (hu : I64 up) (ha : I64 at_) (hs : s.size ≤ 9223372036854775806) : Ev (fun k => spec_OpOk.f k kind id up at_ s) (opB kind id up at_ s) := by
  unfold spec_OpOk.f opB
  refine Ev.bindc (l1Made_eq id hi) ?_
  by_cases hm : madeB id = true
  · refine Ev.pos hm ?_
    rw [if_pos hm]
    refine Ev.bind (specText_ev s hs) ?_
    cases ht : textB s with
    | false =>
      refine Ev.step (f := fun _ => some false) (fun k => by simp only [spec_OpOk.j0]; rw [if_pos (by rfl)]) (Ev.pure ?_)
      have he : ¬ s.toList.isEmpty = true := by
        intro h
        rw [List.isEmpty_iff] at h
        unfold textB at ht
        rw [h, List.all_nil, Bool.and_true, decide_eq_false_iff_not] at ht
        have : s.toList.length = s.size := by rw [Lib.toList_data]; simp
        rw [h] at this
        simp at this; omega
      rw [Bool.and_false, Bool.and_false, Bool.eq_false_iff.2 he, Bool.and_false]
      split
      · rfl
      · split
        · rfl
        · split <;> rfl
    | true =>
      refine Ev.step (fun k => by simp only [spec_OpOk.j0]; rw [if_neg (by decide)]) ?_
      by_cases k1 : kind = 1
      · refine Ev.pos k1 ?_
        rw [if_pos k1]
        unfold placeB
        refine Ev.bindc (l3Id_eq up hu) ?_
        cases hp : (madeB up || rootB up) with
        | false => exact Ev.neg (by decide) (Ev.pure rfl)
        | true =>
          refine Ev.pos rfl ?_
          by_cases hz : at_ = 0
          · refine Ev.pos hz (Ev.pure ?_); rw [decide_eq_true hz]; rfl
          · refine Ev.neg hz (Ev.bindc (l1Made_eq at_ ha) (Ev.pure ?_)); rw [decide_eq_false hz]; cases madeB at_ <;> rfl
      · refine Ev.neg k1 ?_
        rw [if_neg k1]
        by_cases k2 : kind = 2
        · refine Ev.pos k2 ?_
          rw [if_pos k2]
          by_cases hz : up = 0
          · refine Ev.pos hz (Ev.pure ?_); rw [decide_eq_true hz, Bool.true_and, Bool.and_true]; rfl
          · refine Ev.neg hz (Ev.pure ?_); rw [decide_eq_false hz]; rfl
        · refine Ev.neg k2 ?_
          rw [if_neg k2]
          by_cases k3 : kind = 3
          · refine Ev.pos k3 ?_
            rw [if_pos k3]
            unfold placeB
            refine Ev.bindc (l3Id_eq up hu) ?_
            cases hp : (madeB up || rootB up) with
            | false => exact Ev.neg (by decide) (Ev.pure rfl)
            | true =>
              refine Ev.pos rfl ?_
              by_cases hz : at_ = 0
              · refine Ev.pos hz (Ev.pure ?_); rw [decide_eq_true hz, beq_nil_isEmpty]; rfl
              · refine Ev.neg hz (Ev.bindc (l1Made_eq at_ ha) ?_)
                rw [decide_eq_false hz]
                cases madeB at_ with
                | false => exact Ev.neg (by decide) (Ev.pure rfl)
                | true => refine Ev.pos rfl (Ev.pure ?_); rw [beq_nil_isEmpty]; rfl
          · refine Ev.neg k3 (Ev.pure ?_)
            rw [if_neg k3]
  · refine Ev.neg hm (Ev.step (f := fun _ => some false) (fun k => by simp only [spec_OpOk.j0]; rw [if_pos trivial]) (Ev.pure ?_))
    rw [if_neg hm]
theorem opid_ev (b : List Int) (hb : RdOk b) (p : Int) (hp : 0 ≤ p ∧ p ≤ 900000000) : ∃ v, Ev (fun k => spec_l71Id.f k b p) (v, p + 1 + 1) ∧ 11 ≤ v ∧ v ≤ 34 ∧ madeB v = true := by
  obtain ⟨x, hx, x0, x1⟩ := pick_ev b hb p 3 (by omega) (by omega)
  obtain ⟨y, hy, y0, y1⟩ := pick_ev b hb (p + 1) 4 (by omega) (by omega)
  refine ⟨10 * (1 + x) + 1 + y, ?_, by omega, by omega, by rw [madeB_iff]; omega⟩
  unfold spec_l71Id.f
  refine Ev.bind hx (Ev.bind hy (Ev.pure ?_))
  dsimp only
  rw [wrap64_id (a := 1 + x) (by omega), wrap64_id (a := 10 * (1 + x)) (by omega), wrap64_id (a := 10 * (1 + x) + 1) (by omega), wrap64_id (a := 10 * (1 + x) + 1 + y) (by omega)]
/-- What a drawn change is like. -/
structure OpLike (kind id up at_ : Int) (s : ByteArray) : Prop where
  kind : 0 ≤ kind ∧ kind ≤ 50
  id : 0 ≤ id ∧ id ≤ 50
  up : 0 ≤ up ∧ up ≤ 50
  at_ : 0 ≤ at_ ∧ at_ ≤ 50
  text : s.size ≤ 7
theorem op_tail (b : List Int) (hb : RdOk b) (q : Int) (hq : 0 ≤ q ∧ q ≤ 900000000) (kind id up at_ : Int) (s : ByteArray) (h : OpLike kind id up at_ s) :
    ∃ kind' id' up' at' s' q', Ev (fun k => spec_l71Op.j1 k b q kind id up at_ s) (kind', id', up', at', s', q') ∧ OpLike kind' id' up' at' s' ∧ q ≤ q' ∧ q' ≤ q + 2 := by
  obtain ⟨v, hv, v0, v1⟩ := pick_ev b hb q 30 (by omega) (by omega)
  obtain ⟨a, ha, a0, a1⟩ := pick_ev b hb (q + 1) 5 (by omega) (by omega)
  obtain ⟨c, hc, c0, c1⟩ := pick_ev b hb (q + 1) 50 (by omega) (by omega)
  by_cases g0 : v = 0
  · refine ⟨a, id, up, at_, s, q + 1 + 1, ?_, ⟨by omega, h.id, h.up, h.at_, h.text⟩, by omega, by omega⟩
    refine Ev.step (fun k => by simp only [spec_l71Op.j1]; rfl) ?_
    exact Ev.bind hv (Ev.pos g0 (Ev.bind ha (Ev.pure rfl)))
  by_cases g1 : v = 1
  · refine ⟨kind, c, up, at_, s, q + 1 + 1, ?_, ⟨h.kind, by omega, h.up, h.at_, h.text⟩, by omega, by omega⟩
    refine Ev.step (fun k => by simp only [spec_l71Op.j1]; rfl) ?_
    exact Ev.bind hv (Ev.neg g0 (Ev.pos g1 (Ev.bind hc (Ev.pure rfl))))
  by_cases g2 : v = 2
  · refine ⟨kind, id, c, at_, s, q + 1 + 1, ?_, ⟨h.kind, h.id, by omega, h.at_, h.text⟩, by omega, by omega⟩
    refine Ev.step (fun k => by simp only [spec_l71Op.j1]; rfl) ?_
    exact Ev.bind hv (Ev.neg g0 (Ev.neg g1 (Ev.pos g2 (Ev.bind hc (Ev.pure rfl)))))
  by_cases g3 : v = 3
  · refine ⟨kind, id, up, c, s, q + 1 + 1, ?_, ⟨h.kind, h.id, h.up, by omega, h.text⟩, by omega, by omega⟩
    refine Ev.step (fun k => by simp only [spec_l71Op.j1]; rfl) ?_
    exact Ev.bind hv (Ev.neg g0 (Ev.neg g1 (Ev.neg g2 (Ev.pos g3 (Ev.bind hc (Ev.pure rfl))))))
  refine ⟨kind, id, up, at_, s, q + 1, ?_, h, by omega, by omega⟩
  refine Ev.step (fun k => by simp only [spec_l71Op.j1]; rfl) ?_
  exact Ev.bind hv (Ev.neg g0 (Ev.neg g1 (Ev.neg g2 (Ev.neg g3 (Ev.pure rfl)))))
theorem op_ev (b : List Int) (hb : RdOk b) (p : Int) (hp : 0 ≤ p ∧ p ≤ 800000000) :
    ∃ kind id up at_ s q, Ev (fun k => spec_l71Op.f k b p) (kind, id, up, at_, s, q) ∧ OpLike kind id up at_ s ∧ p ≤ q ∧ q ≤ p + 30 := by
  obtain ⟨i, hi, i0, i1, _⟩ := opid_ev b hb p (by omega)
  obtain ⟨s, q, hs, s1, q0, q1⟩ := text_ev b hb (p + 1 + 1) (by omega)
  obtain ⟨u, hu, u0, u1, _⟩ := opid_ev b hb q (by omega)
  obtain ⟨x, hx, x0, x1⟩ := pick_ev b hb (q + 1 + 1) 5 (by omega) (by omega)
  obtain ⟨a, ha, a0, a1, _⟩ := opid_ev b hb (q + 1 + 1 + 1) (by omega)
  obtain ⟨y, hy, y0, y1⟩ := pick_ev b hb (q + 1 + 1 + 1 + 1 + 1) 2 (by omega) (by omega)
  obtain ⟨z, hz, z0, z1⟩ := pick_ev b hb (q + 1 + 1 + 1 + 1 + 1 + 1) 5 (by omega) (by omega)
  have hX : 0 ≤ rd [1, 1, u, 2, 3] x ∧ rd [1, 1, u, 2, 3] x ≤ 50 := by
    have : x = 0 ∨ x = 1 ∨ x = 2 ∨ x = 3 ∨ x = 4 := by omega
    rcases this with rfl | rfl | rfl | rfl | rfl <;> simp [rd] <;> omega
  have hY : 0 ≤ rd [0, a] y ∧ rd [0, a] y ≤ 50 := by
    have : y = 0 ∨ y = 1 := by omega
    rcases this with rfl | rfl <;> simp [rd] <;> omega
  have fin : ∀ c : Bool, ∃ kind id up at_ s' q', Ev (fun k => spec_l71Op.j0 k (rd [1, 1, u, 2, 3] x) (rd [0, a] y) z c b (q + 1 + 1 + 1 + 1 + 1 + 1 + 1) 2 i 0 0 s) (kind, id, up, at_, s', q') ∧ OpLike kind id up at_ s' ∧ q + 1 + 1 + 1 + 1 + 1 + 1 + 1 ≤ q' ∧ q' ≤ q + 1 + 1 + 1 + 1 + 1 + 1 + 1 + 2 := by
    intro c
    cases c with
    | true =>
      obtain ⟨k', i', u', a', s', q', h1, h2, h3⟩ := op_tail b hb (q + 1 + 1 + 1 + 1 + 1 + 1 + 1) (by omega) 1 i (rd [1, 1, u, 2, 3] x) (rd [0, a] y) s ⟨by omega, by omega, hX, hY, s1⟩
      exact ⟨k', i', u', a', s', q', Ev.step (fun k => by simp only [spec_l71Op.j0]; rw [if_pos trivial]) h1, h2, h3⟩
    | false =>
      by_cases z2 : z = 2
      · obtain ⟨k', i', u', a', s', q', h1, h2, h3⟩ := op_tail b hb (q + 1 + 1 + 1 + 1 + 1 + 1 + 1) (by omega) 3 i (rd [1, 1, u, 2, 3] x) (rd [0, a] y) ⟨#[]⟩ ⟨by omega, by omega, hX, hY, by decide⟩
        exact ⟨k', i', u', a', s', q', Ev.step (fun k => by simp only [spec_l71Op.j0]; rw [if_neg (by decide), if_pos z2]) h1, h2, h3⟩
      · by_cases z3 : z = 3
        · obtain ⟨k', i', u', a', s', q', h1, h2, h3⟩ := op_tail b hb (q + 1 + 1 + 1 + 1 + 1 + 1 + 1) (by omega) 3 i (rd [1, 1, u, 2, 3] x) (rd [0, a] y) ⟨#[]⟩ ⟨by omega, by omega, hX, hY, by decide⟩
          exact ⟨k', i', u', a', s', q', Ev.step (fun k => by simp only [spec_l71Op.j0]; rw [if_neg (by decide), if_neg z2, if_pos z3]) h1, h2, h3⟩
        · obtain ⟨k', i', u', a', s', q', h1, h2, h3⟩ := op_tail b hb (q + 1 + 1 + 1 + 1 + 1 + 1 + 1) (by omega) 2 i 0 0 s ⟨by omega, by omega, by omega, by omega, s1⟩
          exact ⟨k', i', u', a', s', q', Ev.step (fun k => by simp only [spec_l71Op.j0]; rw [if_neg (by decide), if_neg z2, if_neg z3]) h1, h2, h3⟩
  unfold spec_l71Op.f
  by_cases zz : z = 0
  · obtain ⟨k', i', u', a', s', q', h1, h2, h3, h4⟩ := fin (z == 0)
    exact ⟨k', i', u', a', s', q', Ev.bind hi (Ev.bind hs (Ev.bind hu (Ev.bindc rfl (Ev.bind hx (Ev.pos x0 (Ev.pos (by show x < 5; exact x1) (Ev.bind ha (Ev.bindc rfl (Ev.bind hy (Ev.pos y0 (Ev.pos (by show y < 2; exact y1) (Ev.bind hz (Ev.pos zz h1))))))))))))), h2, by omega, by omega⟩
  · obtain ⟨k', i', u', a', s', q', h1, h2, h3, h4⟩ := fin (z == 1)
    exact ⟨k', i', u', a', s', q', Ev.bind hi (Ev.bind hs (Ev.bind hu (Ev.bindc rfl (Ev.bind hx (Ev.pos x0 (Ev.pos (by show x < 5; exact x1) (Ev.bind ha (Ev.bindc rfl (Ev.bind hy (Ev.pos y0 (Ev.pos (by show y < 2; exact y1) (Ev.bind hz (Ev.neg zz h1))))))))))))), h2, by omega, by omega⟩
end Go.Proofs.YtkoodlmedgfdjaaGreatDoor.P
