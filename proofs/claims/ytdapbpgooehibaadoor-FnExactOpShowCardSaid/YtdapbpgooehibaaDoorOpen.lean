/- Arguments of laws opened: a struct, or a slice of structs, that came in, as plain numbers and texts. For every value that can be read as data. -/
import Derived.Test.YtdapbpgooehibaaDoorPx0
import Derived.ChangeArms
import Derived.Deep.Slices
import Derived.WideShapes
import Derived.SizedLaws
import Derived.ProofKit
namespace Go.Proofs.YtdapbpgooehibaaDoor
open Go.RowKit Go.WideShapes Go.ChangeShapes Go.Proofs.YtdapbpgooehibaaDoorW.PrintWords Go.Proofs.YtdapbpgooehibaaDoorW.PrintLast Go.Proofs.YtdapbpgooehibaaDoor.P
set_option linter.unusedVariables false
set_option linter.unusedSimpArgs false
theorem list5 {α : Type} {l : List α} (h : l.length = 5) : ∃ c0 c1 c2 c3 c4, l = [c0, c1, c2, c3, c4] := by
  match l, h with
  | [c0, c1, c2, c3, c4], _ => exact ⟨c0, c1, c2, c3, c4, rfl⟩
theorem weights_all_mem {H : Type} {P : Program} {e : TypeId} : ∀ {ds : List (DataW H)} {d : DataW H}, d ∈ ds → ∀ {b : Nat}, b ∈ d.weights P e → b ∈ DataW.weightsAll P e ds
  | [], _, h, _, _ => by cases h
  | x :: r, d, h, b, hb => by
    simp only [DataW.weightsAll]
    rcases List.mem_cons.1 h with rfl | h
    · exact List.mem_append.2 (.inl hb)
    · exact List.mem_append.2 (.inr (weights_all_mem h hb))
theorem add_add (a : Addr) (i j : Nat) : (a.add i).add j = a.add (i + j) := by
  unfold Addr.add; by_cases hi : i = 0 <;> by_cases hj : j = 0 <;> simp [hi, hj, Nat.add_assoc]
theorem cells_get {W : World} {base : Nat} {a : Addr} : ∀ {n : Nat} {cs : List Value}, W.cells? base a n = some cs → ∀ (i : Nat) (u : Value), cs[i]? = some u → W.cell? (a.add i) = some u := by
  intro n cs h i u hu
  obtain ⟨_, hl, hc⟩ := World.cells?_some h
  have hi : i < n := by have := (List.getElem?_eq_some_iff.1 hu).1; omega
  rw [hc i hi]; exact hu
set_option maxRecDepth 20000 in
theorem cells_of34 {H : Type} {enc : TypeId × Value → H} {w : World} {base : Nat} {spare : Nat → Bool} {held : Bool} {fuel : Nat} {cs : List Value} {x : DataW H × List MemPlace} (h : DataW.trod enc Tryd.prog w base spare held fuel 34 cs = some x) :
    ∃ (a0 : Int) (a1 : Int) (a2 : Int) (a3 : Int) (a4 : ByteArray), cs = [.int .i64 a0, .int .i64 a1, .int .i64 a2, .int .i64 a3, .string a4] ∧ x.1 = .agg [.lit (.int .i64 a0), .lit (.int .i64 a1), .lit (.int .i64 a2), .lit (.int .i64 a3), .lit (.string a4.data.toList)] ∧ (Lit.int .i64 a0).wf = true ∧ (Lit.int .i64 a1).wf = true ∧ (Lit.int .i64 a2).wf = true ∧ (Lit.int .i64 a3).wf = true := by
  obtain ⟨xs, n, rfl, rfl, hl, hlen, hf⟩ := DataW.trod_struct Tryd.underlying34 h
  have hl2 : cs.length = 5 := hl.trans (by kernel_rfl)
  obtain ⟨c0, c1, c2, c3, c4, rfl⟩ := list5 hl2
  obtain ⟨x0, x1, x2, x3, x4, rfl⟩ := list5 (show xs.length = 5 from hlen)
  have z0 : Tryd.prog.cellsOf 3 = 1 := by kernel_rfl
  have g0 : DataW.trod enc Tryd.prog w base spare held n 3 (List.take (Tryd.prog.cellsOf 3) (List.drop 0 [c0, c1, c2, c3, c4])) = [x0, x1, x2, x3, x4][0]? := hf 0 _ rfl
  rw [z0] at g0
  replace g0 : DataW.trod enc Tryd.prog w base spare held n 3 [c0] = some x0 := g0
  obtain ⟨a0, e0, y0', w0_0⟩ := DataW.trod_int Tryd.underlying3 g0
  have y0 : x0.1 = .lit (.int .i64 a0) := by rw [y0']
  have z1 : Tryd.prog.cellsOf 3 = 1 := by kernel_rfl
  have g1 : DataW.trod enc Tryd.prog w base spare held n 3 (List.take (Tryd.prog.cellsOf 3) (List.drop 1 [c0, c1, c2, c3, c4])) = [x0, x1, x2, x3, x4][1]? := hf 1 _ rfl
  rw [z1] at g1
  replace g1 : DataW.trod enc Tryd.prog w base spare held n 3 [c1] = some x1 := g1
  obtain ⟨a1, e1, y1', w1_0⟩ := DataW.trod_int Tryd.underlying3 g1
  have y1 : x1.1 = .lit (.int .i64 a1) := by rw [y1']
  have z2 : Tryd.prog.cellsOf 3 = 1 := by kernel_rfl
  have g2 : DataW.trod enc Tryd.prog w base spare held n 3 (List.take (Tryd.prog.cellsOf 3) (List.drop 2 [c0, c1, c2, c3, c4])) = [x0, x1, x2, x3, x4][2]? := hf 2 _ rfl
  rw [z2] at g2
  replace g2 : DataW.trod enc Tryd.prog w base spare held n 3 [c2] = some x2 := g2
  obtain ⟨a2, e2, y2', w2_0⟩ := DataW.trod_int Tryd.underlying3 g2
  have y2 : x2.1 = .lit (.int .i64 a2) := by rw [y2']
  have z3 : Tryd.prog.cellsOf 3 = 1 := by kernel_rfl
  have g3 : DataW.trod enc Tryd.prog w base spare held n 3 (List.take (Tryd.prog.cellsOf 3) (List.drop 3 [c0, c1, c2, c3, c4])) = [x0, x1, x2, x3, x4][3]? := hf 3 _ rfl
  rw [z3] at g3
  replace g3 : DataW.trod enc Tryd.prog w base spare held n 3 [c3] = some x3 := g3
  obtain ⟨a3, e3, y3', w3_0⟩ := DataW.trod_int Tryd.underlying3 g3
  have y3 : x3.1 = .lit (.int .i64 a3) := by rw [y3']
  have z4 : Tryd.prog.cellsOf 9 = 1 := by kernel_rfl
  have g4 : DataW.trod enc Tryd.prog w base spare held n 9 (List.take (Tryd.prog.cellsOf 9) (List.drop 4 [c0, c1, c2, c3, c4])) = [x0, x1, x2, x3, x4][4]? := hf 4 _ rfl
  rw [z4] at g4
  replace g4 : DataW.trod enc Tryd.prog w base spare held n 9 [c4] = some x4 := g4
  obtain ⟨a4, e4, y4', _⟩ := DataW.trod_string Tryd.underlying9 g4
  have y4 : x4.1 = .lit (.string a4.data.toList) := by rw [y4']
  refine ⟨a0, a1, a2, a3, a4, ?_, ?_, w0_0, w1_0, w2_0, w3_0⟩
  · simp only [List.cons.injEq, and_true] at e0 e1 e2 e3 e4
    simp [*]
  · simp only [List.map_cons, List.map_nil]
    exact congrArg DataW.agg (by rw [show x0.1 = _ from y0, show x1.1 = _ from y1, show x2.1 = _ from y2, show x3.1 = _ from y3, show x4.1 = _ from y4])
set_option maxRecDepth 20000 in
theorem open_val34 {H : Type} {enc : TypeId × Value → H} {W : World} {base : Nat} {spare : Nat → Bool} {held : Bool} {r : Reach} {b0 : Nat} {v : Value} {d : DataW H} {p : List MemPlace} {ts : List TypeId} {ds : List (DataW H)} {j : Nat} (hv : Value.okWide Tryd.prog W r b0 34 v) (h : DataW.Trod enc Tryd.prog W base spare held 34 v d p) (hsz : (DataW.weightsEach Tryd.prog ts ds).all (· ≤ reachBytes) = true) (ht : ts[j]? = some 34) (hd : ds[j]? = some d) :
    ∃ (a0 : Int) (a1 : Int) (a2 : Int) (a3 : Int) (a4 : ByteArray), v = .agg #[.int .i64 a0, .int .i64 a1, .int .i64 a2, .int .i64 a3, .string a4] ∧ (Lit.int .i64 a0).wf = true ∧ (Lit.int .i64 a1).wf = true ∧ (Lit.int .i64 a2).wf = true ∧ (Lit.int .i64 a3).wf = true ∧ a4.size ≤ 140737488351232 := by
  obtain ⟨cs, rfl, hs⟩ := okWide_struct Tryd.underlying34 hv
  obtain ⟨fuel, hf⟩ := h
  obtain ⟨a0, a1, a2, a3, a4, e, ed, w0, w1, w2, w3⟩ := cells_of34 (show DataW.trod enc Tryd.prog W base spare held fuel 34 cs.toList = some (d, p) from hf)
  replace ed : d = _ := ed
  have hw := fun b (hb : b ∈ DataW.weights Tryd.prog 34 d) => List.all_eq_true.1 hsz _ (DataW.weights_mem_each ht hd b hb)
  subst ed
  have s0 := hw a4.data.toList.length (by simp [DataW.weights, DataW.weightsEach, Tryd.underlying34])
  refine ⟨a0, a1, a2, a3, a4, congrArg Value.agg (Array.toList_inj.1 e), w0, w1, w2, w3, by have z := of_decide_eq_true s0; simpa [reachBytes] using z⟩
end Go.Proofs.YtdapbpgooehibaaDoor
