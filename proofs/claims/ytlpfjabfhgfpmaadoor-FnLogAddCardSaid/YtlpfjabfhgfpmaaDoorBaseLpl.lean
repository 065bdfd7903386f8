/- What the laws' own words on entries answer. Conditions: entries that memory can hold. -/
import Derived.Test.YtlpfjabfhgfpmaaDoorBaseAdd
import Derived.Test.YtlpfjabfhgfpmaaDoorPx12
import Derived.Test.YtlpfjabfhgfpmaaDoorPx12
namespace Go.Proofs.YtlpfjabfhgfpmaaDoor.P
open Go.RowKit Go.Proofs.YtlpfjabfhgfpmaaDoorW.PrintWords Go.Proofs.YtlpfjabfhgfpmaaDoorW.PrintLast
set_option linter.unusedVariables false
set_option linter.unusedSimpArgs false
theorem lpLog_loop (l : List S26) (hl : l.length ≤ 1099511627776) : ∀ (d i : Nat), i + d = l.length → Ev (fun k => laws_lpLog.l0 k l l (i : Int)) true := by
 intro d
 induction d with
 | zero =>
  intro i hi
  exact Ev.step (f := fun _ => some true) (fun k => by simp only [laws_lpLog.l0]; rw [if_neg (by omega)]) (Ev.pure rfl)
 | succ d ih =>
  intro i hi
  refine Ev.step (fun k => by simp only [laws_lpLog.l0]; rw [if_pos (by omega), if_pos (by omega), if_pos (by omega), if_neg (by simp), wrapS i (by omega)]) ?_
  exact ih (i + 1) (by omega)
theorem lpLog_ev (l : List S26) (hl : l.length ≤ 1099511627776) : Ev (fun k => laws_lpLog.f k l l) true := by
 unfold laws_lpLog.f
 exact Ev.pos rfl (lpLog_loop l hl l.length 0 (by omega))
theorem lpHas_loop (l : List S26) (hl : l.length ≤ 1099511627776) (e : S26) : ∀ (d i : Nat), i + d = l.length → Ev (fun k => laws_lpHas.l0 k l (i : Int) e.f0 e.f1 e.f2.f0 e.f2.f1 e.f2.f2 e.f2.f3 e.f2.f4) (hasE (l.drop i) e) := by
 intro d
 induction d with
 | zero =>
  intro i hi
  refine Ev.step (f := fun _ => some false) (fun k => by simp only [laws_lpHas.l0]; rw [if_neg (by omega)]) (Ev.pure ?_)
  rw [List.drop_of_length_le (by omega)]; rfl
 | succ d ih =>
  intro i hi
  have hlt : i < l.length := by omega
  rw [List.drop_eq_getElem_cons hlt]
  unfold hasE
  rw [List.any_cons]
  refine Ev.step (f := fun k => if sameE l[i] e = true then some true else laws_lpHas.l0 k l ((i + 1 : Nat) : Int) e.f0 e.f1 e.f2.f0 e.f2.f1 e.f2.f2 e.f2.f3 e.f2.f4) (fun k => by simp only [laws_lpHas.l0]; rw [if_pos (by omega), if_pos (by omega), rd_ent l i hlt, wrapS i (by omega)]; rfl) ?_
  by_cases h : sameE l[i] e = true
  ·rw [h, Bool.true_or]; exact Ev.pos rfl (Ev.pure rfl)
  ·rw [Bool.eq_false_iff.2 h, Bool.false_or]; exact Ev.neg (by decide) (ih (i + 1) (by omega))
theorem lpHas_ev (l : List S26) (hl : l.length ≤ 1099511627776) (e : S26) : Ev (fun k => laws_lpHas.f k l e.f0 e.f1 e.f2.f0 e.f2.f1 e.f2.f2 e.f2.f3 e.f2.f4) (hasE l e) :=
 lpHas_loop l hl e l.length 0 (by omega)
end Go.Proofs.YtlpfjabfhgfpmaaDoor.P
