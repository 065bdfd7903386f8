/- The program's tally by a walk: a map of how often each number has been counted. Condition: fewer than a million counts. -/
import Derived.Test.YtlpfjabfhgfpmaaDoorProg
import Derived.Test.YtlpfjabfhgfpmaaDoorZ
import Derived.Test.YtlpfjabfhgfpmaaDoorGen
import Derived.Test.YtlpfjabfhgfpmaaDoorV
import Derived.Maps.OwnOps
import Derived.Maps.Views
import Derived.WalkKit
import Derived.KernelRfl
namespace Go.Proofs.YtlpfjabfhgfpmaaDoor
open Go Go.RowKit Go.Maps Go.Proofs.YtlpfjabfhgfpmaaDoorW.PrintWords Go.Proofs.YtlpfjabfhgfpmaaDoorW.PrintLast Go.Proofs.YtlpfjabfhgfpmaaDoorW.PrintMore
set_option linter.unusedVariables false
set_option linter.unusedSimpArgs false
theorem isKey_int (x : Int) : WideAt.IsKeyLit (.int .i64 x) := by simp [WideAt.IsKeyLit]
def IsTally (D : DataW Unit) (seen : List Int) : Prop := IsMap D ∧ ∀ x : Int, D.atKey (.int .i64 x) (.lit (.int .i64 0)) = .lit (.int .i64 (seen.count x : Int))
theorem isTally_nil : IsTally (.map []) [] := ⟨isMap_empty, fun x => rfl⟩
theorem isTally_put {D : DataW Unit} {seen : List Int} (h : IsTally D seen) (x : Int) : IsTally (D.put (.int .i64 x) (.lit (.int .i64 ((seen.count x : Int) + 1)))) (seen ++ [x]) := by
 refine ⟨h.1.put _ _, fun y => ?_⟩
 by_cases e : y = x
 ·subst e
  rw [atKey_put_same h.1 (isKey_int y)]; simp
 ·rw [atKey_put_other (fun z => e (by simpa using z)), h.2 y]
  rw [List.count_append, List.count_singleton]
  have : (x == y) = false := beq_eq_false_iff_ne.2 (fun z => e z.symm)
  simp [this]
def TallyAt (b : Nat) (seen : List Int) (W : World) : Prop := ∃ D : DataW Unit, W.ownsMap Tryd.prog 3 (plainElem Tryd.prog 3) b seen.length D ∧ IsTally D seen
theorem TallyAt.lt {b : Nat} {seen : List Int} {W : World} (h : TallyAt b seen W) : b < W.heap.size := by obtain ⟨D, h, _⟩ := h; exact h.lt
theorem TallyAt.drew {b : Nat} {seen : List Int} {W : World} (h : TallyAt b seen W) : TallyAt b seen W.drew := h
theorem TallyAt.below {b : Nat} {seen : List Int} {W W' : World} (h : TallyAt b seen W) (hb : Below W.heap.size W W') : TallyAt b seen W' := by
 have hl := h.lt
 obtain ⟨D, ⟨es, clock, h0, h1⟩, hD⟩ := h
 exact ⟨D, ⟨es, clock, (hb.block b hl).trans h0, h1⟩, hD⟩
theorem TallyAt.far {b : Nat} {seen : List Int} {W : World} (h : TallyAt b seen W) {a : Addr} (ha : b ≠ a.block) (u : Value) : TallyAt b seen (W.setCell a u) := by
 obtain ⟨D, ⟨es, clock, h0, h1⟩, hD⟩ := h
 exact ⟨D, ⟨es, clock, (Below.heap_setCell W a u b ha).trans h0, h1⟩, hD⟩
theorem tally_made (w : World) : TallyAt w.heap.size [] (w.alloc (.map #[] 0)) := ⟨_, World.ownsMap_made w _ _ _, isTally_nil⟩
theorem keyed_int : Keyed Tryd.prog 3 := int_keyed Tryd.underlying3
theorem zero_int (w : World) : (zeroValue 3).run Tryd.prog w = .ok (.int .i64 0) w := by kernel_rfl
theorem wf_count {seen : List Int} (h : seen.length ≤ 1000000) (x : Int) : (Lit.int .i64 ((seen.count x : Int) + 1)).wf = true := by
 have := List.count_le_length (a := x) (l := seen)
 exact WalkArith.wf_i64 (by omega)
set_option maxHeartbeats 2000000 in
set_option maxRecDepth 100000 in
theorem add_calls (b : Nat) (x : Int) (seen : List Int) (w : World) (h : TallyAt b seen w) (hl : seen.length ≤ 1000000) (hx : (Lit.int .i64 x).wf = true) :
  Calls Tryd.prog 46 #[.map (some b), .int .i64 x] w fun e w' => e = .returned (.int .i64 ((seen.count x : Int) + 1)) ∧ TallyAt b (seen ++ [x]) w' ∧ w.grownBy w' (some b) := by
 obtain ⟨D, hown, hD⟩ := h
 have hc : seen.count x ≤ seen.length := List.count_le_length
 have hw : IntKind.i64.wrap ((seen.count x : Int) + 1) = (seen.count x : Int) + 1 := by rw [i64_w]; exact wrap64_id (by omega)
 have hwf := wf_count hl x
 have hk := keyOf_int_mk Tryd.underlying3 hx
 go_enter Tryd.func46, Tryd.ntmps46
 go_wp2_with (first | (at_lookup; refine wpList_lookup_own_int _ rfl _ _ 72 rfl 3 3 .i64 keyed_int Tryd.underlying72 Tryd.underlying3 (zero_int _) b _ _ rfl hown2 _ _ rfl hk ?_; intro c2 hat2 hwc2; obtain rfl : c2 = (seen.count x : Int) + 1 := by (have e := hD2.2 x; rw [hat2] at e; simpa using e)) | (at_lookup; refine wpList_lookup_own_int _ rfl _ _ 72 rfl 3 3 .i64 keyed_int Tryd.underlying72 Tryd.underlying3 (zero_int _) b _ _ rfl hown _ _ rfl hk ?_; intro c hat hwc; obtain rfl : c = (seen.count x : Int) := by (have e := hD.2 x; rw [hat] at e; simpa using e)) | (at_mapUpdate; refine wpList_mapUpdate_own _ rfl _ _ _ 72 rfl 3 3 keyed_int Tryd.underlying72 _ b _ _ rfl hown (by unfold maxLen; omega) _ _ _ rfl rfl hk _ [] (plainElem_int Tryd.underlying3 hwf) ?_; intro w1 hown2 hgrow; have hD2 := isTally_put hD x))
 go_ret
 exact ⟨rfl, ⟨_, by simpa using hown2, hD2⟩, hgrow⟩
end Go.Proofs.YtlpfjabfhgfpmaaDoor
