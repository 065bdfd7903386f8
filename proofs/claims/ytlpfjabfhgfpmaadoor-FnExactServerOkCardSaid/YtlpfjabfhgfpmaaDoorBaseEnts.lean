/- What the exact laws' own helpers on entries answer. Conditions: 64-bit numbers, texts and entries as memory can hold them. -/
import Derived.Test.YtlpfjabfhgfpmaaDoorBaseLog
import Derived.Test.YtlpfjabfhgfpmaaDoorPx1
import Derived.Test.YtlpfjabfhgfpmaaDoorPx5
import Derived.Test.YtlpfjabfhgfpmaaDoorPx6
namespace Go.Proofs.YtlpfjabfhgfpmaaDoor.P
open Go.RowKit Go.Proofs.YtlpfjabfhgfpmaaDoorW.PrintWords Go.Proofs.YtlpfjabfhgfpmaaDoorW.PrintLast
set_option linter.unusedVariables false
set_option linter.unusedSimpArgs false

theorem rdL_ent (l : List S50) (i : Nat) (h : i < l.length) : rd_T50 l (i : Int) = l[i] := by simp [rd_T50, h]
def convEnt (x : S50) : S26 := ⟨x.f0, x.f1, ⟨x.f2.f0, x.f2.f1, x.f2.f2, x.f2.f3, x.f2.f4⟩⟩
theorem szEntryS_loop (l : List S50) (hl : l.length ≤ 2199023255552) (hs : ∀ x ∈ l, x.f2.f4.size ≤ 140737488351232) : ∀ (d i : Nat) (left : Int), i + d = l.length → 0 ≤ left ∧ left ≤ 1048576 → ∃ t, Ev (fun k => laws_szEntryS.l0 k l left (i : Int)) t := by
  intro d
  induction d with
  | zero =>
    intro i left hi hleft
    exact ⟨left, Ev.step (f := fun _ => some left) (fun k => by simp only [laws_szEntryS.l0]; rw [if_neg (by omega)]) (Ev.pure rfl)⟩
  | succ d ih =>
    intro i left hi hleft
    have hlt : i < l.length := by omega
    have hx := hs l[i] (List.getElem_mem _)
    have hw : wrap64 (left - (l[i].f2.f4.size : Int)) = left - (l[i].f2.f4.size : Int) := wrap64_id (by omega)
    have hws : wrap64 ((i : Int) + 1) = ((i + 1 : Nat) : Int) := by rw [wrap64_id (by omega)]; omega
    by_cases hn : left - (l[i].f2.f4.size : Int) < 0
    · refine ⟨-1, ?_⟩
      refine Ev.step (fun k => by simp only [laws_szEntryS.l0]; rw [if_pos (by omega), if_pos (by omega), rdL_ent l i hlt]) ?_
      refine Ev.bindc (a := (-1 : Int)) ?_ (Ev.pos (by decide) (Ev.pure rfl))
      unfold laws_szEntry.f laws_szOp.f; rw [hw, if_pos hn]; rfl
    · obtain ⟨t, ht⟩ := ih (i + 1) (left - (l[i].f2.f4.size : Int)) (by omega) (by omega)
      refine ⟨t, ?_⟩
      refine Ev.step (fun k => by simp only [laws_szEntryS.l0]; rw [if_pos (by omega), if_pos (by omega), rdL_ent l i hlt, hws]) ?_
      refine Ev.bindc (a := left - (l[i].f2.f4.size : Int)) ?_ (Ev.neg hn ht)
      unfold laws_szEntry.f laws_szOp.f; rw [hw, if_neg hn]; simp only [Option.bind_some]; rw [if_neg hn]
/-- How much is left behind entries: below 0, or there are few. -/
theorem szEntryS_ev (l : List S50) (hl : l.length * 64 ≤ 140737488351232) (hs : ∀ x ∈ l, x.f2.f4.size ≤ 140737488351232) : ∃ t, Ev (fun k => laws_szEntryS.f k l 1048576) t ∧ (¬ t < 0 → l.length ≤ 1048576) := by
  unfold laws_szEntryS.f
  have hw : wrap64 (1048576 - (l.length : Int)) = 1048576 - (l.length : Int) := wrap64_id (by omega)
  rw [hw]
  by_cases hn : 1048576 - (l.length : Int) < 0
  · exact ⟨-1, Ev.pos hn (Ev.pure rfl), fun h => absurd (by decide) h⟩
  · obtain ⟨t, ht⟩ := szEntryS_loop l (by omega) hs l.length 0 (1048576 - (l.length : Int)) (by omega) (by omega)
    exact ⟨t, Ev.neg hn ht, fun _ => by omega⟩
theorem toEntryS_loop (l : List S50) (hl : l.length ≤ 1099511627776) : ∀ (d i : Nat), i + d = l.length → Ev (fun k => laws_toEntryS.l0 k l ((l.take i).map convEnt ++ List.replicate d z26) (i : Int)) (l.map convEnt) := by
  intro d
  induction d with
  | zero =>
    intro i hi
    refine Ev.step (f := fun _ => some ((l.take i).map convEnt ++ [])) (fun k => by simp only [laws_toEntryS.l0]; rw [if_neg (by omega)]; rfl) (Ev.pure ?_)
    rw [List.append_nil, List.take_of_length_le (by omega)]
  | succ d ih =>
    intro i hi
    have hlt : i < l.length := by omega
    have hlen : ((l.take i).map convEnt).length = i := by simp; omega
    refine Ev.step (fun k => by simp only [laws_toEntryS.l0]; rw [if_pos (by omega), if_pos (by omega), rdL_ent l i hlt, wrapS i (by omega)]) ?_
    refine Ev.bindc rfl (Ev.pos (by simp; omega) ?_)
    have e : ((l.take i).map convEnt ++ List.replicate (d + 1) z26).set (i : Int).toNat (convEnt l[i]) = (l.take (i + 1)).map convEnt ++ List.replicate d z26 := by
      rw [Int.toNat_natCast, List.set_append_right _ _ (by omega), hlen, Nat.sub_self, List.replicate_succ, List.set_cons_zero, List.take_succ_eq_append_getElem hlt, List.map_append, List.append_assoc]; rfl
    have h2 := ih (i + 1) (by omega)
    rw [← e] at h2
    exact h2
theorem toEntryS_ev (l : List S50) (hl : l.length ≤ 1048576) : Ev (fun k => laws_toEntryS.f k l) (l.map convEnt) := by
  unfold laws_toEntryS.f
  refine Ev.pos (by omega) (Ev.pos (by omega) ?_)
  have := toEntryS_loop l (by omega) l.length 0 (by omega)
  simpa using this
theorem eqEntry_same (x : S26) : laws_eqEntry.f x.f0 x.f1 x.f2.f0 x.f2.f1 x.f2.f2 x.f2.f3 x.f2.f4 x.f0 x.f1 x.f2.f0 x.f2.f1 x.f2.f2 x.f2.f3 x.f2.f4 = some true := by
  unfold laws_eqEntry.f laws_eqOp.f
  rw [if_pos rfl, if_pos rfl, if_pos rfl, if_pos rfl, if_pos rfl, if_pos rfl, if_pos rfl]
  rfl
theorem eqEntryS_loop (l : List S26) (hl : l.length ≤ 1099511627776) : ∀ (d i : Nat), i + d = l.length → Ev (fun k => laws_eqEntryS.l0 k l l (i : Int)) true := by
  intro d
  induction d with
  | zero =>
    intro i hi
    exact Ev.step (f := fun _ => some true) (fun k => by simp only [laws_eqEntryS.l0]; rw [if_neg (by omega)]) (Ev.pure rfl)
  | succ d ih =>
    intro i hi
    refine Ev.step (fun k => by simp only [laws_eqEntryS.l0]; rw [if_pos (by omega), if_pos (by omega), if_pos (by omega), wrapS i (by omega)]) ?_
    exact Ev.bindc (a := true) (eqEntry_same _) (Ev.pos rfl (ih (i + 1) (by omega)))
theorem eqEntryS_ev (l : List S26) (hl : l.length ≤ 1099511627776) : Ev (fun k => laws_eqEntryS.f k l l) true := by
  unfold laws_eqEntryS.f
  exact Ev.pos rfl (eqEntryS_loop l hl l.length 0 (by omega))
theorem entsFit_conv (l : List S50) (hl : l.length ≤ 1048576) (h : ∀ x_ ∈ l, (Lit.int .i64 x_.f0).wf = true ∧ (Lit.int .i64 x_.f1).wf = true ∧ (Lit.int .i64 x_.f2.f0).wf = true ∧ (Lit.int .i64 x_.f2.f1).wf = true ∧ (Lit.int .i64 x_.f2.f2).wf = true ∧ (Lit.int .i64 x_.f2.f3).wf = true ∧ x_.f2.f4.size ≤ 140737488351232) : EntsFit (l.map convEnt) := by
  refine ⟨by simp; omega, fun x hx => ?_⟩
  obtain ⟨y, hy, rfl⟩ := List.mem_map.1 hx
  obtain ⟨h1, h2, h3, h4, h5, h6, h7⟩ := h y hy
  exact ⟨wf64.1 h1, wf64.1 h2, wf64.1 h3, wf64.1 h4, wf64.1 h5, wf64.1 h6, h7⟩
end Go.Proofs.YtlpfjabfhgfpmaaDoor.P
