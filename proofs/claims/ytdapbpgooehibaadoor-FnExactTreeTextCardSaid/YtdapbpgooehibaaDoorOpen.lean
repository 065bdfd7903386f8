/- Arguments of laws opened: a struct, or a slice of structs, that came in, as plain numbers and texts. For every value that can be read as data. -/
import Derived.Test.YtdapbpgooehibaaDoorPx0
import Derived.ChangeArms
import Derived.Deep.Slices
import Derived.WideShapes
import Derived.SizedLaws
import Derived.ProofKit
namespace Go.Proofs.YtdapbpgooehibaaDoor
open Go.RowKit Go.WideShapes Go.ChangeShapes Go.Proofs.YtdapbpgooehibaaDoorW.PrintWords Go.Proofs.YtdapbpgooehibaaDoorW.PrintLast Go.Proofs.YtdapbpgooehibaaDoor.P
set_option linter.unusedVariables false
set_option linter.unusedSimpArgs false
theorem list3 {α : Type} {l : List α} (h : l.length = 3) : ∃ c0 c1 c2, l = [c0, c1, c2] := by
  match l, h with
  | [c0, c1, c2], _ => exact ⟨c0, c1, c2, rfl⟩
theorem weights_all_mem {H : Type} {P : Program} {e : TypeId} : ∀ {ds : List (DataW H)} {d : DataW H}, d ∈ ds → ∀ {b : Nat}, b ∈ d.weights P e → b ∈ DataW.weightsAll P e ds
  | [], _, h, _, _ => by cases h
  | x :: r, d, h, b, hb => by
    simp only [DataW.weightsAll]
    rcases List.mem_cons.1 h with rfl | h
    · exact List.mem_append.2 (.inl hb)
    · exact List.mem_append.2 (.inr (weights_all_mem h hb))
theorem add_add (a : Addr) (i j : Nat) : (a.add i).add j = a.add (i + j) := by
  unfold Addr.add; by_cases hi : i = 0 <;> by_cases hj : j = 0 <;> simp [hi, hj, Nat.add_assoc]
theorem cells_get {W : World} {base : Nat} {a : Addr} : ∀ {n : Nat} {cs : List Value}, W.cells? base a n = some cs → ∀ (i : Nat) (u : Value), cs[i]? = some u → W.cell? (a.add i) = some u := by
  intro n cs h i u hu
  obtain ⟨_, hl, hc⟩ := World.cells?_some h
  have hi : i < n := by have := (List.getElem?_eq_some_iff.1 hu).1; omega
  rw [hc i hi]; exact hu
set_option maxRecDepth 20000 in
theorem cells_of74 {H : Type} {enc : TypeId × Value → H} {w : World} {base : Nat} {spare : Nat → Bool} {held : Bool} {fuel : Nat} {cs : List Value} {x : DataW H × List MemPlace} (h : DataW.trod enc Tryd.prog w base spare held fuel 74 cs = some x) :
    ∃ (a0 : Int) (a1 : Int) (a2 : ByteArray), cs = [.int .i64 a0, .int .i64 a1, .string a2] ∧ x.1 = .agg [.lit (.int .i64 a0), .lit (.int .i64 a1), .lit (.string a2.data.toList)] ∧ (Lit.int .i64 a0).wf = true ∧ (Lit.int .i64 a1).wf = true := by
  obtain ⟨xs, n, rfl, rfl, hl, hlen, hf⟩ := DataW.trod_struct Tryd.underlying74 h
  have hl2 : cs.length = 3 := hl.trans (by kernel_rfl)
  obtain ⟨c0, c1, c2, rfl⟩ := list3 hl2
  obtain ⟨x0, x1, x2, rfl⟩ := list3 (show xs.length = 3 from hlen)
  have z0 : Tryd.prog.cellsOf 3 = 1 := by kernel_rfl
  have g0 : DataW.trod enc Tryd.prog w base spare held n 3 (List.take (Tryd.prog.cellsOf 3) (List.drop 0 [c0, c1, c2])) = [x0, x1, x2][0]? := hf 0 _ rfl
  rw [z0] at g0
  replace g0 : DataW.trod enc Tryd.prog w base spare held n 3 [c0] = some x0 := g0
  obtain ⟨a0, e0, y0', w0_0⟩ := DataW.trod_int Tryd.underlying3 g0
  have y0 : x0.1 = .lit (.int .i64 a0) := by rw [y0']
  have z1 : Tryd.prog.cellsOf 3 = 1 := by kernel_rfl
  have g1 : DataW.trod enc Tryd.prog w base spare held n 3 (List.take (Tryd.prog.cellsOf 3) (List.drop 1 [c0, c1, c2])) = [x0, x1, x2][1]? := hf 1 _ rfl
  rw [z1] at g1
  replace g1 : DataW.trod enc Tryd.prog w base spare held n 3 [c1] = some x1 := g1
  obtain ⟨a1, e1, y1', w1_0⟩ := DataW.trod_int Tryd.underlying3 g1
  have y1 : x1.1 = .lit (.int .i64 a1) := by rw [y1']
  have z2 : Tryd.prog.cellsOf 9 = 1 := by kernel_rfl
  have g2 : DataW.trod enc Tryd.prog w base spare held n 9 (List.take (Tryd.prog.cellsOf 9) (List.drop 2 [c0, c1, c2])) = [x0, x1, x2][2]? := hf 2 _ rfl
  rw [z2] at g2
  replace g2 : DataW.trod enc Tryd.prog w base spare held n 9 [c2] = some x2 := g2
  obtain ⟨a2, e2, y2', _⟩ := DataW.trod_string Tryd.underlying9 g2
  have y2 : x2.1 = .lit (.string a2.data.toList) := by rw [y2']
  refine ⟨a0, a1, a2, ?_, ?_, w0_0, w1_0⟩
  · simp only [List.cons.injEq, and_true] at e0 e1 e2
    simp [*]
  · simp only [List.map_cons, List.map_nil]
    exact congrArg DataW.agg (by rw [show x0.1 = _ from y0, show x1.1 = _ from y1, show x2.1 = _ from y2])
set_option maxRecDepth 20000 in
set_option linter.constructorNameAsVariable false in
theorem row_of41 {H : Type} {enc : TypeId × Value → H} {W : World} {held : Bool} {fuel : Nat} {c0 : Value} {d : DataW H} {p : List MemPlace} (hf2 : DataW.trod enc Tryd.prog W 0 (fun _ => true) held fuel 41 [c0] = some (d, p)) (hw : ∀ b, b ∈ DataW.weights Tryd.prog 41 d → decide (b ≤ reachBytes) = true) :
    ∃ (A : Option Addr) (c : Nat) (l : List S74), [c0] = [.slice A l.length c] ∧ Kd.C k74 W A l.length l ∧ l.length ≤ c ∧ l.length * 32 ≤ 140737488351232 ∧ ∀ x_ ∈ l, (Lit.int .i64 x_.f0).wf = true ∧ (Lit.int .i64 x_.f1).wf = true ∧ x_.f2.size ≤ 140737488351232 := by
  rcases Deep.open_slice Tryd.underlying41 hf2 with ⟨hcs, hx⟩ | ⟨x, len, cap, m, n, D, Pl, hcs, _, hl, hm, hmm, hx, hcell⟩
  · exact ⟨none, 0, [], hcs, Kd.C_nil _ _, by simp, by simp, by simp⟩
  · obtain ⟨hx, _⟩ := Prod.mk.inj hx
    simp only [if_true] at hmm
    subst hmm
    have hC : Tryd.prog.cellsOf 74 = 3 := by kernel_rfl
    rw [hC] at hcell
    have each : ∀ i, ∃ s : S74, i < len → W.cells? 0 (x.add (i * 3)) 3 = some [.int .i64 s.f0, .int .i64 s.f1, .string s.f2] ∧ D i = .agg [.lit (.int .i64 s.f0), .lit (.int .i64 s.f1), .lit (.string s.f2.data.toList)] ∧ (Lit.int .i64 s.f0).wf = true ∧ (Lit.int .i64 s.f1).wf = true := by
      intro i
      by_cases hi : i < len
      · obtain ⟨cs', h1, h2⟩ := hcell i (by omega)
        obtain ⟨a0, a1, a2, e1, e2, w0, w1⟩ := cells_of74 h2
        exact ⟨(⟨a0, a1, a2⟩ : S74), fun _ => ⟨by rw [h1, e1], e2, w0, w1⟩⟩
      · exact ⟨z74, fun h => absurd h hi⟩
    obtain ⟨f, hfn⟩ := Classical.axiomOfChoice each
    have hlen : ((List.range len).map f).length = len := by simp
    have hwt : (len + (m - len)) * 32 ≤ 140737488351232 := by
      have := hw ((len + (m - len)) * Tryd.prog.bytesOf 74) (by rw [hx]; simp [DataW.weights, Tryd.underlying41])
      rw [show Tryd.prog.bytesOf 74 = 32 by kernel_rfl] at this
      have z := of_decide_eq_true this
      simpa [reachBytes] using z
    refine ⟨some x, m, (List.range len).map f, by rw [hlen]; exact hcs, ⟨rfl, by omega, fun _ => ⟨x, rfl, fun j q hj => ?_⟩⟩, by omega, by omega, fun q hq => ?_⟩
    · have hjl : j < len := by have := (List.getElem?_eq_some_iff.1 hj).1; omega
      have hq : f j = q := by simpa [hjl] using hj
      obtain ⟨h1, _⟩ := hfn j hjl
      rw [hq] at h1
      refine ⟨[.int .i64 q.f0, .int .i64 q.f1, .string q.f2], rfl, k74_mk _ _, fun i u hu => ?_⟩
      have h2 := cells_get h1 i u hu
      show W.cell? (x.add (j * 3 + i)) = some u
      rw [← add_add]; exact h2
    · obtain ⟨i, hi, rfl⟩ := List.mem_map.1 hq
      have hil : i < len := List.mem_range.1 hi
      obtain ⟨_, hD, w0, w1⟩ := hfn i hil
      have s0 := hw (f i).f2.data.toList.length (by rw [hx]; simp only [DataW.weights, Tryd.underlying41]; refine List.mem_cons_of_mem _ (List.mem_append.2 (.inl (weights_all_mem (List.mem_map.2 ⟨i, hi, rfl⟩) ?_))); rw [hD]; simp [DataW.weights, DataW.weightsEach, Tryd.underlying41, Tryd.underlying74])
      exact ⟨w0, w1, by have z := of_decide_eq_true s0; simpa [reachBytes] using z⟩
set_option maxRecDepth 20000 in
set_option linter.constructorNameAsVariable false in
theorem open_row41 {H : Type} {enc : TypeId × Value → H} {W : World} {held : Bool} {r : Reach} {b0 : Nat} {v : Value} {d : DataW H} {p : List MemPlace} {ts : List TypeId} {ds : List (DataW H)} {j : Nat} (hv : Value.okWide Tryd.prog W r b0 41 v) (h : DataW.Trod enc Tryd.prog W 0 (fun _ => true) held 41 v d p) (hsz : (DataW.weightsEach Tryd.prog ts ds).all (· ≤ reachBytes) = true) (ht : ts[j]? = some 41) (hd : ds[j]? = some d) :
    ∃ (A : Option Addr) (c : Nat) (l : List S74), v = .slice A l.length c ∧ Kd.C k74 W A l.length l ∧ l.length ≤ c ∧ l.length * 32 ≤ 140737488351232 ∧ ∀ x_ ∈ l, (Lit.int .i64 x_.f0).wf = true ∧ (Lit.int .i64 x_.f1).wf = true ∧ x_.f2.size ≤ 140737488351232 := by
  obtain ⟨a, len, cap, rfl⟩ := okWide_slice Tryd.underlying41 hv
  obtain ⟨fuel, hf⟩ := h
  have hf2 : DataW.trod enc Tryd.prog W 0 (fun _ => true) held fuel 41 [.slice a len cap] = some (d, p) := by first | exact hf | simpa only [Value.cells] using hf | simpa [Value.cells] using hf
  obtain ⟨A_, c_, l_, e_, h1, h2, h3, h4⟩ := row_of41 hf2 (fun b hb => List.all_eq_true.1 hsz _ (DataW.weights_mem_each ht hd b hb))
  exact ⟨A_, c_, l_, by simpa using e_, h1, h2, h3, h4⟩
end Go.Proofs.YtdapbpgooehibaaDoor
