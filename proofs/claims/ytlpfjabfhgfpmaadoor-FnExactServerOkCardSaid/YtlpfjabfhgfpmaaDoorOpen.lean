/- Arguments of laws opened: a struct, or a slice of structs, that came in, as plain numbers and texts. For every value that can be read as data. -/
import Derived.Test.YtlpfjabfhgfpmaaDoorPx0
import Derived.ChangeArms
import Derived.Deep.Slices
import Derived.WideShapes
import Derived.SizedLaws
import Derived.ProofKit
namespace Go.Proofs.YtlpfjabfhgfpmaaDoor
open Go.RowKit Go.WideShapes Go.ChangeShapes Go.Proofs.YtlpfjabfhgfpmaaDoorW.PrintWords Go.Proofs.YtlpfjabfhgfpmaaDoorW.PrintLast Go.Proofs.YtlpfjabfhgfpmaaDoor.P
set_option linter.unusedVariables false
set_option linter.unusedSimpArgs false
theorem list3 {α : Type} {l : List α} (h : l.length = 3) : ∃ c0 c1 c2, l = [c0, c1, c2] := by
  match l, h with
  | [c0, c1, c2], _ => exact ⟨c0, c1, c2, rfl⟩
theorem list5 {α : Type} {l : List α} (h : l.length = 5) : ∃ c0 c1 c2 c3 c4, l = [c0, c1, c2, c3, c4] := by
  match l, h with
  | [c0, c1, c2, c3, c4], _ => exact ⟨c0, c1, c2, c3, c4, rfl⟩
theorem list7 {α : Type} {l : List α} (h : l.length = 7) : ∃ c0 c1 c2 c3 c4 c5 c6, l = [c0, c1, c2, c3, c4, c5, c6] := by
  match l, h with
  | [c0, c1, c2, c3, c4, c5, c6], _ => exact ⟨c0, c1, c2, c3, c4, c5, c6, rfl⟩
theorem weights_all_mem {H : Type} {P : Program} {e : TypeId} : ∀ {ds : List (DataW H)} {d : DataW H}, d ∈ ds → ∀ {b : Nat}, b ∈ d.weights P e → b ∈ DataW.weightsAll P e ds
  | [], _, h, _, _ => by cases h
  | x :: r, d, h, b, hb => by
    simp only [DataW.weightsAll]
    rcases List.mem_cons.1 h with rfl | h
    · exact List.mem_append.2 (.inl hb)
    · exact List.mem_append.2 (.inr (weights_all_mem h hb))
theorem add_add (a : Addr) (i j : Nat) : (a.add i).add j = a.add (i + j) := by
  unfold Addr.add; by_cases hi : i = 0 <;> by_cases hj : j = 0 <;> simp [hi, hj, Nat.add_assoc]
theorem cells_get {W : World} {base : Nat} {a : Addr} : ∀ {n : Nat} {cs : List Value}, W.cells? base a n = some cs → ∀ (i : Nat) (u : Value), cs[i]? = some u → W.cell? (a.add i) = some u := by
  intro n cs h i u hu
  obtain ⟨_, hl, hc⟩ := World.cells?_some h
  have hi : i < n := by have := (List.getElem?_eq_some_iff.1 hu).1; omega
  rw [hc i hi]; exact hu
set_option maxRecDepth 20000 in
theorem cells_of48 {H : Type} {enc : TypeId × Value → H} {w : World} {base : Nat} {spare : Nat → Bool} {held : Bool} {fuel : Nat} {cs : List Value} {x : DataW H × List MemPlace} (h : DataW.trod enc Tryd.prog w base spare held fuel 48 cs = some x) :
    ∃ (a0 : Int) (a1 : Int) (a2 : Int) (a3 : Int) (a4 : ByteArray), cs = [.int .i64 a0, .int .i64 a1, .int .i64 a2, .int .i64 a3, .string a4] ∧ x.1 = .agg [.lit (.int .i64 a0), .lit (.int .i64 a1), .lit (.int .i64 a2), .lit (.int .i64 a3), .lit (.string a4.data.toList)] ∧ (Lit.int .i64 a0).wf = true ∧ (Lit.int .i64 a1).wf = true ∧ (Lit.int .i64 a2).wf = true ∧ (Lit.int .i64 a3).wf = true := by
  obtain ⟨xs, n, rfl, rfl, hl, hlen, hf⟩ := DataW.trod_struct Tryd.underlying48 h
  have hl2 : cs.length = 5 := hl.trans (by kernel_rfl)
  obtain ⟨c0, c1, c2, c3, c4, rfl⟩ := list5 hl2
  obtain ⟨x0, x1, x2, x3, x4, rfl⟩ := list5 (show xs.length = 5 from hlen)
  have z0 : Tryd.prog.cellsOf 3 = 1 := by kernel_rfl
  have g0 : DataW.trod enc Tryd.prog w base spare held n 3 (List.take (Tryd.prog.cellsOf 3) (List.drop 0 [c0, c1, c2, c3, c4])) = [x0, x1, x2, x3, x4][0]? := hf 0 _ rfl
  rw [z0] at g0
  replace g0 : DataW.trod enc Tryd.prog w base spare held n 3 [c0] = some x0 := g0
  obtain ⟨a0, e0, y0', w0_0⟩ := DataW.trod_int Tryd.underlying3 g0
  have y0 : x0.1 = .lit (.int .i64 a0) := by rw [y0']
  have z1 : Tryd.prog.cellsOf 3 = 1 := by kernel_rfl
  have g1 : DataW.trod enc Tryd.prog w base spare held n 3 (List.take (Tryd.prog.cellsOf 3) (List.drop 1 [c0, c1, c2, c3, c4])) = [x0, x1, x2, x3, x4][1]? := hf 1 _ rfl
  rw [z1] at g1
  replace g1 : DataW.trod enc Tryd.prog w base spare held n 3 [c1] = some x1 := g1
  obtain ⟨a1, e1, y1', w1_0⟩ := DataW.trod_int Tryd.underlying3 g1
  have y1 : x1.1 = .lit (.int .i64 a1) := by rw [y1']
  have z2 : Tryd.prog.cellsOf 3 = 1 := by kernel_rfl
  have g2 : DataW.trod enc Tryd.prog w base spare held n 3 (List.take (Tryd.prog.cellsOf 3) (List.drop 2 [c0, c1, c2, c3, c4])) = [x0, x1, x2, x3, x4][2]? := hf 2 _ rfl
  rw [z2] at g2
  replace g2 : DataW.trod enc Tryd.prog w base spare held n 3 [c2] = some x2 := g2
  obtain ⟨a2, e2, y2', w2_0⟩ := DataW.trod_int Tryd.underlying3 g2
  have y2 : x2.1 = .lit (.int .i64 a2) := by rw [y2']
  have z3 : Tryd.prog.cellsOf 3 = 1 := by kernel_rfl
  have g3 : DataW.trod enc Tryd.prog w base spare held n 3 (List.take (Tryd.prog.cellsOf 3) (List.drop 3 [c0, c1, c2, c3, c4])) = [x0, x1, x2, x3, x4][3]? := hf 3 _ rfl
  rw [z3] at g3
  replace g3 : DataW.trod enc Tryd.prog w base spare held n 3 [c3] = some x3 := g3
  obtain ⟨a3, e3, y3', w3_0⟩ := DataW.trod_int Tryd.underlying3 g3
  have y3 : x3.1 = .lit (.int .i64 a3) := by rw [y3']
  have z4 : Tryd.prog.cellsOf 9 = 1 := by kernel_rfl
  have g4 : DataW.trod enc Tryd.prog w base spare held n 9 (List.take (Tryd.prog.cellsOf 9) (List.drop 4 [c0, c1, c2, c3, c4])) = [x0, x1, x2, x3, x4][4]? := hf 4 _ rfl
  rw [z4] at g4
  replace g4 : DataW.trod enc Tryd.prog w base spare held n 9 [c4] = some x4 := g4
  obtain ⟨a4, e4, y4', _⟩ := DataW.trod_string Tryd.underlying9 g4
  have y4 : x4.1 = .lit (.string a4.data.toList) := by rw [y4']
  refine ⟨a0, a1, a2, a3, a4, ?_, ?_, w0_0, w1_0, w2_0, w3_0⟩
  · simp only [List.cons.injEq, and_true] at e0 e1 e2 e3 e4
    simp [*]
  · simp only [List.map_cons, List.map_nil]
    exact congrArg DataW.agg (by rw [show x0.1 = _ from y0, show x1.1 = _ from y1, show x2.1 = _ from y2, show x3.1 = _ from y3, show x4.1 = _ from y4])
set_option maxRecDepth 20000 in
theorem cells_of50 {H : Type} {enc : TypeId × Value → H} {w : World} {base : Nat} {spare : Nat → Bool} {held : Bool} {fuel : Nat} {cs : List Value} {x : DataW H × List MemPlace} (h : DataW.trod enc Tryd.prog w base spare held fuel 50 cs = some x) :
    ∃ (a0 : Int) (a1 : Int) (a2 : Int) (a3 : Int) (a4 : Int) (a5 : Int) (a6 : ByteArray), cs = [.int .i64 a0, .int .i64 a1, .int .i64 a2, .int .i64 a3, .int .i64 a4, .int .i64 a5, .string a6] ∧ x.1 = .agg [.lit (.int .i64 a0), .lit (.int .i64 a1), .agg [.lit (.int .i64 a2), .lit (.int .i64 a3), .lit (.int .i64 a4), .lit (.int .i64 a5), .lit (.string a6.data.toList)]] ∧ (Lit.int .i64 a0).wf = true ∧ (Lit.int .i64 a1).wf = true ∧ (Lit.int .i64 a2).wf = true ∧ (Lit.int .i64 a3).wf = true ∧ (Lit.int .i64 a4).wf = true ∧ (Lit.int .i64 a5).wf = true := by
  obtain ⟨xs, n, rfl, rfl, hl, hlen, hf⟩ := DataW.trod_struct Tryd.underlying50 h
  have hl2 : cs.length = 7 := hl.trans (by kernel_rfl)
  obtain ⟨c0, c1, c2, c3, c4, c5, c6, rfl⟩ := list7 hl2
  obtain ⟨x0, x1, x2, rfl⟩ := list3 (show xs.length = 3 from hlen)
  have z0 : Tryd.prog.cellsOf 3 = 1 := by kernel_rfl
  have g0 : DataW.trod enc Tryd.prog w base spare held n 3 (List.take (Tryd.prog.cellsOf 3) (List.drop 0 [c0, c1, c2, c3, c4, c5, c6])) = [x0, x1, x2][0]? := hf 0 _ rfl
  rw [z0] at g0
  replace g0 : DataW.trod enc Tryd.prog w base spare held n 3 [c0] = some x0 := g0
  obtain ⟨a0, e0, y0', w0_0⟩ := DataW.trod_int Tryd.underlying3 g0
  have y0 : x0.1 = .lit (.int .i64 a0) := by rw [y0']
  have z1 : Tryd.prog.cellsOf 3 = 1 := by kernel_rfl
  have g1 : DataW.trod enc Tryd.prog w base spare held n 3 (List.take (Tryd.prog.cellsOf 3) (List.drop 1 [c0, c1, c2, c3, c4, c5, c6])) = [x0, x1, x2][1]? := hf 1 _ rfl
  rw [z1] at g1
  replace g1 : DataW.trod enc Tryd.prog w base spare held n 3 [c1] = some x1 := g1
  obtain ⟨a1, e1, y1', w1_0⟩ := DataW.trod_int Tryd.underlying3 g1
  have y1 : x1.1 = .lit (.int .i64 a1) := by rw [y1']
  have z2 : Tryd.prog.cellsOf 48 = 5 := by kernel_rfl
  have g2 : DataW.trod enc Tryd.prog w base spare held n 48 (List.take (Tryd.prog.cellsOf 48) (List.drop 2 [c0, c1, c2, c3, c4, c5, c6])) = [x0, x1, x2][2]? := hf 2 _ rfl
  rw [z2] at g2
  replace g2 : DataW.trod enc Tryd.prog w base spare held n 48 [c2, c3, c4, c5, c6] = some x2 := g2
  obtain ⟨a2, a3, a4, a5, a6, e2, y2, w2_0, w2_1, w2_2, w2_3⟩ := cells_of48 g2
  refine ⟨a0, a1, a2, a3, a4, a5, a6, ?_, ?_, w0_0, w1_0, w2_0, w2_1, w2_2, w2_3⟩
  · simp only [List.cons.injEq, and_true] at e0 e1 e2
    simp [*]
  · simp only [List.map_cons, List.map_nil]
    exact congrArg DataW.agg (by rw [show x0.1 = _ from y0, show x1.1 = _ from y1, show x2.1 = _ from y2])
set_option maxRecDepth 20000 in
set_option linter.constructorNameAsVariable false in
theorem row_of30 {H : Type} {enc : TypeId × Value → H} {W : World} {held : Bool} {fuel : Nat} {c0 : Value} {d : DataW H} {p : List MemPlace} (hf2 : DataW.trod enc Tryd.prog W 0 (fun _ => true) held fuel 30 [c0] = some (d, p)) (hw : ∀ b, b ∈ DataW.weights Tryd.prog 30 d → decide (b ≤ reachBytes) = true) :
    ∃ (A : Option Addr) (c : Nat) (l : List S50), [c0] = [.slice A l.length c] ∧ Kd.C k50 W A l.length l ∧ l.length ≤ c ∧ l.length * 64 ≤ 140737488351232 ∧ ∀ x_ ∈ l, (Lit.int .i64 x_.f0).wf = true ∧ (Lit.int .i64 x_.f1).wf = true ∧ (Lit.int .i64 x_.f2.f0).wf = true ∧ (Lit.int .i64 x_.f2.f1).wf = true ∧ (Lit.int .i64 x_.f2.f2).wf = true ∧ (Lit.int .i64 x_.f2.f3).wf = true ∧ x_.f2.f4.size ≤ 140737488351232 := by
  rcases Deep.open_slice Tryd.underlying30 hf2 with ⟨hcs, hx⟩ | ⟨x, len, cap, m, n, D, Pl, hcs, _, hl, hm, hmm, hx, hcell⟩
  · exact ⟨none, 0, [], hcs, Kd.C_nil _ _, by simp, by simp, by simp⟩
  · obtain ⟨hx, _⟩ := Prod.mk.inj hx
    simp only [if_true] at hmm
    subst hmm
    have hC : Tryd.prog.cellsOf 50 = 7 := by kernel_rfl
    rw [hC] at hcell
    have each : ∀ i, ∃ s : S50, i < len → W.cells? 0 (x.add (i * 7)) 7 = some [.int .i64 s.f0, .int .i64 s.f1, .int .i64 s.f2.f0, .int .i64 s.f2.f1, .int .i64 s.f2.f2, .int .i64 s.f2.f3, .string s.f2.f4] ∧ D i = .agg [.lit (.int .i64 s.f0), .lit (.int .i64 s.f1), .agg [.lit (.int .i64 s.f2.f0), .lit (.int .i64 s.f2.f1), .lit (.int .i64 s.f2.f2), .lit (.int .i64 s.f2.f3), .lit (.string s.f2.f4.data.toList)]] ∧ (Lit.int .i64 s.f0).wf = true ∧ (Lit.int .i64 s.f1).wf = true ∧ (Lit.int .i64 s.f2.f0).wf = true ∧ (Lit.int .i64 s.f2.f1).wf = true ∧ (Lit.int .i64 s.f2.f2).wf = true ∧ (Lit.int .i64 s.f2.f3).wf = true := by
      intro i
      by_cases hi : i < len
      · obtain ⟨cs', h1, h2⟩ := hcell i (by omega)
        obtain ⟨a0, a1, a2, a3, a4, a5, a6, e1, e2, w0, w1, w2, w3, w4, w5⟩ := cells_of50 h2
        exact ⟨(⟨a0, a1, (⟨a2, a3, a4, a5, a6⟩ : S48)⟩ : S50), fun _ => ⟨by rw [h1, e1], e2, w0, w1, w2, w3, w4, w5⟩⟩
      · exact ⟨z50, fun h => absurd h hi⟩
    obtain ⟨f, hfn⟩ := Classical.axiomOfChoice each
    have hlen : ((List.range len).map f).length = len := by simp
    have hwt : (len + (m - len)) * 64 ≤ 140737488351232 := by
      have := hw ((len + (m - len)) * Tryd.prog.bytesOf 50) (by rw [hx]; simp [DataW.weights, Tryd.underlying30])
      rw [show Tryd.prog.bytesOf 50 = 64 by kernel_rfl] at this
      have z := of_decide_eq_true this
      simpa [reachBytes] using z
    refine ⟨some x, m, (List.range len).map f, by rw [hlen]; exact hcs, ⟨rfl, by omega, fun _ => ⟨x, rfl, fun j q hj => ?_⟩⟩, by omega, by omega, fun q hq => ?_⟩
    · have hjl : j < len := by have := (List.getElem?_eq_some_iff.1 hj).1; omega
      have hq : f j = q := by simpa [hjl] using hj
      obtain ⟨h1, _⟩ := hfn j hjl
      rw [hq] at h1
      refine ⟨[.int .i64 q.f0, .int .i64 q.f1, .int .i64 q.f2.f0, .int .i64 q.f2.f1, .int .i64 q.f2.f2, .int .i64 q.f2.f3, .string q.f2.f4], rfl, k50_mk _ _, fun i u hu => ?_⟩
      have h2 := cells_get h1 i u hu
      show W.cell? (x.add (j * 7 + i)) = some u
      rw [← add_add]; exact h2
    · obtain ⟨i, hi, rfl⟩ := List.mem_map.1 hq
      have hil : i < len := List.mem_range.1 hi
      obtain ⟨_, hD, w0, w1, w2, w3, w4, w5⟩ := hfn i hil
      have s0 := hw (f i).f2.f4.data.toList.length (by rw [hx]; simp only [DataW.weights, Tryd.underlying30]; refine List.mem_cons_of_mem _ (List.mem_append.2 (.inl (weights_all_mem (List.mem_map.2 ⟨i, hi, rfl⟩) ?_))); rw [hD]; simp [DataW.weights, DataW.weightsEach, Tryd.underlying30, Tryd.underlying48, Tryd.underlying50])
      exact ⟨w0, w1, w2, w3, w4, w5, by have z := of_decide_eq_true s0; simpa [reachBytes] using z⟩
set_option maxRecDepth 20000 in
set_option linter.constructorNameAsVariable false in
theorem open_val40 {H : Type} {enc : TypeId × Value → H} {W : World} {held : Bool} {r : Reach} {b0 : Nat} {v : Value} {d : DataW H} {p : List MemPlace} {ts : List TypeId} {ds : List (DataW H)} {j : Nat} (hv : Value.okWide Tryd.prog W r b0 40 v) (h : DataW.Trod enc Tryd.prog W 0 (fun _ => true) held 40 v d p) (hsz : (DataW.weightsEach Tryd.prog ts ds).all (· ≤ reachBytes) = true) (ht : ts[j]? = some 40) (hd : ds[j]? = some d) :
    ∃ (A_0 : Option Addr) (c_0 : Nat) (l_0 : List S50) (a_1 : Int) (a_2 : Bool), v = .agg #[.slice A_0 l_0.length c_0, .int .i64 a_1, .bool a_2] ∧ Kd.C k50 W A_0 l_0.length l_0 ∧ l_0.length ≤ c_0 ∧ l_0.length * 64 ≤ 140737488351232 ∧ (∀ x_ ∈ l_0, (Lit.int .i64 x_.f0).wf = true ∧ (Lit.int .i64 x_.f1).wf = true ∧ (Lit.int .i64 x_.f2.f0).wf = true ∧ (Lit.int .i64 x_.f2.f1).wf = true ∧ (Lit.int .i64 x_.f2.f2).wf = true ∧ (Lit.int .i64 x_.f2.f3).wf = true ∧ x_.f2.f4.size ≤ 140737488351232) ∧ (Lit.int .i64 a_1).wf = true := by
  obtain ⟨cs, rfl, hs⟩ := okWide_struct Tryd.underlying40 hv
  obtain ⟨fuel, hf⟩ := h
  have hw0 := fun b (hb : b ∈ DataW.weights Tryd.prog 40 d) => List.all_eq_true.1 hsz _ (DataW.weights_mem_each ht hd b hb)
  obtain ⟨xs, n, rfl, hx, hl, hlen, hg⟩ := DataW.trod_struct Tryd.underlying40 (show DataW.trod enc Tryd.prog W 0 (fun _ => true) held fuel 40 cs.toList = some (d, p) from hf)
  obtain ⟨rfl, _⟩ := Prod.mk.inj hx
  obtain ⟨c0, c1, c2, hcs⟩ := list3 (hl.trans (by kernel_rfl) : cs.toList.length = 3)
  obtain ⟨x0, x1, x2, rfl⟩ := list3 (show xs.length = 3 from hlen)
  rw [hcs] at hg
  have z0 : Tryd.prog.cellsOf 30 = 1 := by kernel_rfl
  have g0 : DataW.trod enc Tryd.prog W 0 (fun _ => true) held n 30 (List.take (Tryd.prog.cellsOf 30) (List.drop 0 [c0, c1, c2])) = [x0, x1, x2][0]? := hg 0 _ rfl
  rw [z0] at g0
  replace g0 : DataW.trod enc Tryd.prog W 0 (fun _ => true) held n 30 [c0] = some (x0.1, x0.2) := g0
  have hw0 := fun b (hb : b ∈ DataW.weights Tryd.prog 30 x0.1) => hw0 b (by simp only [DataW.weights, Tryd.underlying40, List.map_cons, List.map_nil]; exact DataW.weights_mem_each (j := 0) rfl rfl b hb)
  obtain ⟨A_0, c_0, l_0, e0, hr0, hc0, u0, y0⟩ := row_of30 g0 hw0
  have z1 : Tryd.prog.cellsOf 3 = 1 := by kernel_rfl
  have g1 : DataW.trod enc Tryd.prog W 0 (fun _ => true) held n 3 (List.take (Tryd.prog.cellsOf 3) (List.drop 1 [c0, c1, c2])) = [x0, x1, x2][1]? := hg 1 _ rfl
  rw [z1] at g1
  replace g1 : DataW.trod enc Tryd.prog W 0 (fun _ => true) held n 3 [c1] = some (x1.1, x1.2) := g1
  obtain ⟨a_1, e1, _, y1⟩ := DataW.trod_int Tryd.underlying3 g1
  have z2 : Tryd.prog.cellsOf 4 = 1 := by kernel_rfl
  have g2 : DataW.trod enc Tryd.prog W 0 (fun _ => true) held n 4 (List.take (Tryd.prog.cellsOf 4) (List.drop 2 [c0, c1, c2])) = [x0, x1, x2][2]? := hg 2 _ rfl
  rw [z2] at g2
  replace g2 : DataW.trod enc Tryd.prog W 0 (fun _ => true) held n 4 [c2] = some (x2.1, x2.2) := g2
  obtain ⟨a_2, e2, _⟩ := DataW.trod_bool Tryd.underlying4 g2
  simp only [List.cons.injEq, and_true] at e0 e1 e2
  subst e0 e1 e2
  refine ⟨A_0, c_0, l_0, a_1, a_2, congrArg Value.agg (Array.toList_inj.1 hcs), hr0, hc0, u0, y0, y1⟩
end Go.Proofs.YtlpfjabfhgfpmaaDoor
