/- What lies in the package-level variables, and that the program's RowWho, called where the table lies so, answers by the number alone. No condition. -/
import Derived.Test.YtkoodlmedgfdjaaGreatDoorProg
import Derived.Test.YtkoodlmedgfdjaaGreatDoorWWords
import Derived.Test.YtkoodlmedgfdjaaGreatDoorWLast
import Derived.Test.YtkoodlmedgfdjaaGreatDoorPlain
import Derived.WalkKit
import Derived.WalkSmall
namespace Go.Proofs.YtkoodlmedgfdjaaGreatDoor
open Go.RowKit Go.Proofs.YtkoodlmedgfdjaaGreatDoorW.PrintWords Go.Proofs.YtkoodlmedgfdjaaGreatDoorW.PrintLast

/-- The table: for each row number who makes it, plus 1. -/
def owners : List Int := [0, 1, 1, 1, 0, 0, 0, 0, 0, 0, 0, 2, 2, 2, 2, 2, 2, 0, 0, 0, 0, 3, 3, 3, 3, 3, 3, 0, 0, 0, 0, 4, 4, 4, 4, 4, 4]
/-- The variables lie so in this world: the table; the error of this package, which leads somewhere; a number; the two errors of strconv. -/
def TabOk (w : World) : Prop :=
  (∀ i, i < 37 → w.cell? ⟨1, i, none⟩ = some (.int .i64 (owners.getD i 0))) ∧
  (∃ a, w.cell? ⟨0, 0, none⟩ = some (.iface 141 (.pointer (some a)))) ∧
  (∃ m, w.cell? ⟨3, 0, none⟩ = some (.int .i64 m)) ∧
  (∃ tp p, w.var? Tryz.prog "strconv.ErrSyntax" = some #[.iface tp p]) ∧
  ∃ tp p, w.var? Tryz.prog "strconv.ErrRange" = some #[.iface tp p]
theorem TabOk.tab {w : World} (h : TabOk w) : ∀ i, i < 37 → w.cell? ⟨1, i, none⟩ = some (.int .i64 (owners.getD i 0)) := h.1
theorem TabOk.mal {w : World} (h : TabOk w) : ∃ a, w.cell? ⟨0, 0, none⟩ = some (.iface 141 (.pointer (some a))) := h.2.1
theorem TabOk.max {w : World} (h : TabOk w) : ∃ m, w.cell? ⟨3, 0, none⟩ = some (.int .i64 m) := h.2.2.1
theorem TabOk.syn {w : World} (h : TabOk w) : ∃ tp p, w.var? Tryz.prog "strconv.ErrSyntax" = some #[.iface tp p] := h.2.2.2.1
theorem TabOk.rng {w : World} (h : TabOk w) : ∃ tp p, w.var? Tryz.prog "strconv.ErrRange" = some #[.iface tp p] := h.2.2.2.2
theorem synAt : Tryz.prog.globalNamed "strconv.ErrSyntax" = some 4 := by kernel_rfl
theorem rngAt : Tryz.prog.globalNamed "strconv.ErrRange" = some 5 := by kernel_rfl
theorem var_lt {w : World} {n : String} {g : Nat} {cs : Array Value} (hg : Tryz.prog.globalNamed n = some g) (h : w.var? Tryz.prog n = some cs) : g < w.heap.size := by
  unfold World.var? at h
  rw [hg, Option.bind_some] at h
  rcases Nat.lt_or_ge g w.heap.size with c | c
  · exact c
  · simp [Array.getElem?_eq_none c] at h
theorem TabOk.below {w w1 : World} (h : TabOk w) (hb : Below w.heap.size w w1) : TabOk w1 :=
  ⟨fun i hi => pw_cell_below hb (h.tab i hi), let ⟨a, ha⟩ := h.mal; ⟨a, pw_cell_below hb ha⟩, let ⟨m, hm⟩ := h.max; ⟨m, pw_cell_below hb hm⟩,
   let ⟨tp, p, hv⟩ := h.syn; ⟨tp, p, var?_below hb synAt (var_lt synAt hv) hv⟩, let ⟨tp, p, hv⟩ := h.rng; ⟨tp, p, var?_below hb rngAt (var_lt rngAt hv) hv⟩⟩
theorem TabOk.drewN {w : World} (h : TabOk w) (n : Nat) : TabOk (w.drewN n) := h
theorem TabOk.drew {w : World} (h : TabOk w) : TabOk w.drew := h

/-- What a cell holds behind two stores into it. -/
theorem cell_set_set (w : World) (a : Addr) (u v : Value) (h : (w.cell? a).isSome = true) : ((w.setCell a u).setCell a v).cell? a = some v :=
  World.cell?_setCell_same' _ _ _ (by rw [World.cell?_setCell_same' _ _ _ h]; rfl)

/-- And where another store lies between the two. -/
theorem cell_set_far_set (w : World) (a b : Addr) (u v x : Value) (h : (w.cell? a).isSome = true) : (((w.setCell a u).setCell b v).setCell a x).cell? a = some x := by
  obtain ⟨c, hc⟩ := cell?_setCell_some (p := b) (x := v) (World.cell?_setCell_same' w a u h)
  exact World.cell?_setCell_same' _ _ _ (by rw [hc]; rfl)

theorem rowWho_low (a : Int) (w : World) (h : a < 0) :
    Calls Tryz.prog 42 #[.int .i64 a] w fun e w' => e = .returned (.tuple #[.int .i64 0, .bool false]) ∧ Drawn0 w w' := by
  go_enter Tryz.func42, Tryz.ntmps42
  have h1 : decide (a < 0) = true := decide_eq_true h
  go_wp2
  go_ret2
  exact ⟨rfl, Drawn0.refl _⟩

theorem rowWho_high (a : Int) (w : World) (h : 37 ≤ a) :
    Calls Tryz.prog 42 #[.int .i64 a] w fun e w' => e = .returned (.tuple #[.int .i64 0, .bool false]) ∧ Drawn0 w w' := by
  go_enter Tryz.func42, Tryz.ntmps42
  have h1 : decide (a < 0) = false := decide_eq_false (by omega)
  have h2 : decide (37 ≤ a) = true := decide_eq_true h
  go_wp2
  go_ret2
  exact ⟨rfl, Drawn0.refl _⟩

theorem rowWho_none (n : Nat) (z : Int) (w : World) (h : n < 37) (hc : w.cell? ⟨1, n, none⟩ = some (.int .i64 z)) (hz : (z == 0) = true) :
    Calls Tryz.prog 42 #[.int .i64 n] w fun e w' => e = .returned (.tuple #[.int .i64 0, .bool false]) ∧ Drawn0 w w' := by
  go_enter Tryz.func42, Tryz.ntmps42
  have h1 : decide ((n : Int) < 0) = false := decide_eq_false (by omega)
  have h2 : decide (37 ≤ (n : Int)) = false := decide_eq_false (by omega)
  go_wp2
  go_ret2
  exact ⟨rfl, Drawn0.refl _⟩

theorem rowWho_some (n : Nat) (z : Int) (w : World) (h : n < 37) (hc : w.cell? ⟨1, n, none⟩ = some (.int .i64 z)) (hz : (z == 0) = false) (hz1 : 1 ≤ z) (hz2 : z ≤ 4) :
    Calls Tryz.prog 42 #[.int .i64 n] w fun e w' => e = .returned (.tuple #[.int .i64 (z - 1), .bool true]) ∧ Drawn0 w w' := by
  go_enter Tryz.func42, Tryz.ntmps42
  have h1 : decide ((n : Int) < 0) = false := decide_eq_false (by omega)
  have h2 : decide (37 ≤ (n : Int)) = false := decide_eq_false (by omega)
  go_wp2
  go_ret2
  exact ⟨rfl, Drawn0.refl _⟩
theorem owners_tell : ∀ n : Nat, n < 37 → (owners.getD n 0 = 0 ∧ rowWho n = (0, false)) ∨ (1 ≤ owners.getD n 0 ∧ owners.getD n 0 ≤ 4 ∧ rowWho n = (owners.getD n 0 - 1, true)) := by decide
/-- RowWho answers by the number alone. -/
theorem rowWho_calls (a : Int) (w : World) (ht : TabOk w) :
    Calls Tryz.prog 42 #[.int .i64 a] w fun e w' => e = .returned (.tuple #[.int .i64 (rowWho a).1, .bool (rowWho a).2]) ∧ Drawn0 w w' := by
  by_cases h : a < 0
  · have e : rowWho a = (0, false) := by unfold rowWho; rw [if_neg (by rw [rootB_iff]; omega), if_neg (by rw [madeB_iff]; omega)]
    rw [e]; exact rowWho_low a w h
  · have h := Int.not_lt.1 h
    by_cases h2 : a < 37
    · obtain ⟨n, rfl⟩ := Int.eq_ofNat_of_zero_le h
      have hn : n < 37 := by omega
      rcases owners_tell n hn with ⟨e1, e2⟩ | ⟨e1, e2, e3⟩
      · rw [show rowWho (n : Int) = (0, false) from e2]; exact rowWho_none n _ w hn (ht.tab n hn) (by rw [e1]; rfl)
      · rw [show rowWho (n : Int) = (owners.getD n 0 - 1, true) from e3]; exact rowWho_some n _ w hn (ht.tab n hn) (beq_eq_false_iff_ne.2 (by omega)) e1 e2
    · have e : rowWho a = (0, false) := by unfold rowWho; rw [if_neg (by rw [rootB_iff]; omega), if_neg (by rw [madeB_iff]; omega)]
      rw [e]; exact rowWho_high a w (Int.not_lt.1 h2)
end Go.Proofs.YtkoodlmedgfdjaaGreatDoor
