/- What the claims' form reads out of the program's first row: a long text, told here sign by sign. No condition. -/
import Derived.Handed
import Derived.Test.YtkoodlmedgfdjaaGreatDoorRows
import Derived.JoinedOf
import Derived.KernelRfl
/- A contract for calls gives a row, where the contract may use that the world has the program's shape. (After the library's law on rows under a condition.) -/
namespace Go.Proofs.YtkoodlmedgfdjaaGreatDoor
open Go
theorem handed_shaped {H : Type} {enc : TypeId × Value → H} {a : Assume} {C : Checked} {os : Os} {f : FuncId} {fn : Func} {s : ChangeSpec} {conds : List PathCond} {apart fresh handsOn again : Bool} {X : World → Array Value → Prop}
    (hX : ∀ (w w' : World) (args : Array Value), w.heap = w'.heap → X w args → X w' args)
    (own : ownKnob C.prog.godebug = none) (started : os.Started) (noInit : C.prog.inits.idxOf? f = none) (hfn : C.prog.funcs[f]? = some fn)
    (witness : ∃ (w : World) (tape : Tape) (i : Input), w.os = os ∧ (w.forCall tape i).Shaped C.prog ∧ i.vars = [] ∧ Input.okWide C.prog (w.forCall tape i) .any w.heap.size f i ∧
      ((s.pre enc C.prog fn conds apart (w.forCall tape i).memory i.args ∧ X (w.forCall tape i).memory i.args) ∧ sizedMet enc C.prog fn (OpenSpec.ofChange s) apart (w.forCall tape i).memory i.args) ∧ a.holds C.prog (lone (Frame.enter C.prog f i.args .normal) [] (w.forCall tape i)))
    (contract : ∀ (W : World) (base : Nat) (args : Array Value) (ds gs : List (DataW H)) (before : List MemPlace), W.ShapedOpen C.prog →
      (∀ (j : Nat) t v, fn.params[j]? = some t → args[j]? = some v → Value.okWide C.prog W .any base t v) →
      DataW.Whole enc C.prog fn.params.toList s.vars apart W args.toList ds gs before →
      conds.all (PathCond.test C.prog ⟨fn.params.toList, ds, s.plain.varTypes C.prog, gs⟩) = true →
      (DataW.weightsEach C.prog (fn.params.toList ++ s.plain.varTypes C.prog) (ds ++ gs)).all (· ≤ reachBytes) = true → X W args →
      a.holds C.prog (lone (Frame.enter C.prog f args .normal) [] W) →
      Calls C.prog f args W fun e W' => ∃ v, e = .returned v ∧ s.post enc C.prog fn apart fresh handsOn again W args v W') :
    ReturnsInHanded a C os f .any (fun w args => (s.pre enc C.prog fn conds apart w args ∧ X w args) ∧ sizedMet enc C.prog fn (OpenSpec.ofChange s) apart w args) (s.post enc C.prog fn apart fresh handsOn again) := by
  refine returnsInHanded_of_calls own started noInit witness ?_
  intro w tape i _ hsh _ hok hpre hholds
  obtain ⟨_, _, _, fn', hfn', _, _, _, _, hval⟩ := hok
  obtain rfl : fn' = fn := Option.some.inj (hfn'.symm.trans hfn)
  obtain ⟨⟨⟨ds, gs, before, hw, hc⟩, hx⟩, hz⟩ := hpre
  have hw' := DataW.Whole.of_heap (w' := w.forCall tape i) (by rfl) hw
  refine (contract (w.forCall tape i) w.heap.size i.args ds gs before hsh hval hw' hc (hz.weights hw) (hX _ _ _ (by rfl) hx) hholds).mono fun e W' ⟨v, he, hp⟩ => ?_
  subst he
  exact ChangeSpec.post_blind hp
end Go.Proofs.YtkoodlmedgfdjaaGreatDoor
namespace Go.Proofs.YtkoodlmedgfdjaaGreatDoor
open Go
set_option maxRecDepth 100000
def headSigns : List Char := [Char.ofNat 104, Char.ofNat 97, Char.ofNat 114, Char.ofNat 110, Char.ofNat 101, Char.ofNat 115, Char.ofNat 115, Char.ofNat 32, Char.ofNat 49, Char.ofNat 101, Char.ofNat 50, Char.ofNat 54, Char.ofNat 50, Char.ofNat 48, Char.ofNat 102, Char.ofNat 99, Char.ofNat 57, Char.ofNat 54, Char.ofNat 99, Char.ofNat 53, Char.ofNat 48, Char.ofNat 55, Char.ofNat 53, Char.ofNat 101, Char.ofNat 97, Char.ofNat 50, Char.ofNat 50, Char.ofNat 100, Char.ofNat 57, Char.ofNat 53, Char.ofNat 101, Char.ofNat 99, Char.ofNat 99, Char.ofNat 56, Char.ofNat 98, Char.ofNat 52, Char.ofNat 49, Char.ofNat 102, Char.ofNat 100, Char.ofNat 99, Char.ofNat 97, Char.ofNat 48, Char.ofNat 50, Char.ofNat 56, Char.ofNat 102, Char.ofNat 51, Char.ofNat 54, Char.ofNat 56, Char.ofNat 54, Char.ofNat 97, Char.ofNat 99, Char.ofNat 51, Char.ofNat 53, Char.ofNat 100, Char.ofNat 102, Char.ofNat 97, Char.ofNat 57, Char.ofNat 97, Char.ofNat 54, Char.ofNat 100, Char.ofNat 51, Char.ofNat 99, Char.ofNat 49, Char.ofNat 50, Char.ofNat 49, Char.ofNat 50, Char.ofNat 54, Char.ofNat 57, Char.ofNat 55, Char.ofNat 100, Char.ofNat 56, Char.ofNat 56, Char.ofNat 32, Char.ofNat 99, Char.ofNat 117, Char.ofNat 116, Char.ofNat 32, Char.ofNat 97, Char.ofNat 116, Char.ofNat 32, Char.ofNat 108, Char.ofNat 111, Char.ofNat 111, Char.ofNat 112, Char.ofNat 46, Char.ofNat 101, Char.ofNat 120, Char.ofNat 97, Char.ofNat 109, Char.ofNat 112, Char.ofNat 108, Char.ofNat 101, Char.ofNat 47, Char.ofNat 112, Char.ofNat 108, Char.ofNat 97, Char.ofNat 115, Char.ofNat 104, Char.ofNat 101, Char.ofNat 116, Char.ofNat 47, Char.ofNat 108, Char.ofNat 97, Char.ofNat 119, Char.ofNat 115, Char.ofNat 46, Char.ofNat 70, Char.ofNat 110, Char.ofNat 79, Char.ofNat 112, Char.ofNat 66, Char.ofNat 97, Char.ofNat 99, Char.ofNat 107, Char.ofNat 32, Char.ofNat 108, Char.ofNat 111, Char.ofNat 111, Char.ofNat 112, Char.ofNat 46, Char.ofNat 101, Char.ofNat 120, Char.ofNat 97, Char.ofNat 109, Char.ofNat 112, Char.ofNat 108, Char.ofNat 101, Char.ofNat 47, Char.ofNat 112, Char.ofNat 108, Char.ofNat 97, Char.ofNat 115, Char.ofNat 104, Char.ofNat 101, Char.ofNat 116, Char.ofNat 47, Char.ofNat 108, Char.ofNat 97, Char.ofNat 119, Char.ofNat 115, Char.ofNat 46, Char.ofNat 70, Char.ofNat 110, Char.ofNat 79, Char.ofNat 112, Char.ofNat 83, Char.ofNat 116, Char.ofNat 114, Char.ofNat 105, Char.ofNat 99, Char.ofNat 116, Char.ofNat 32, Char.ofNat 108, Char.ofNat 111, Char.ofNat 111, Char.ofNat 112, Char.ofNat 46, Char.ofNat 101, Char.ofNat 120, Char.ofNat 97, Char.ofNat 109, Char.ofNat 112, Char.ofNat 108, Char.ofNat 101, Char.ofNat 47, Char.ofNat 112, Char.ofNat 108, Char.ofNat 97, Char.ofNat 115, Char.ofNat 104, Char.ofNat 101, Char.ofNat 116, Char.ofNat 47, Char.ofNat 108, Char.ofNat 97, Char.ofNat 119, Char.ofNat 115, Char.ofNat 46, Char.ofNat 70, Char.ofNat 110, Char.ofNat 79, Char.ofNat 112, Char.ofNat 67, Char.ofNat 117, Char.ofNat 116]
def headWords : List (List Char) := [[Char.ofNat 104, Char.ofNat 97, Char.ofNat 114, Char.ofNat 110, Char.ofNat 101, Char.ofNat 115, Char.ofNat 115], [Char.ofNat 49, Char.ofNat 101, Char.ofNat 50, Char.ofNat 54, Char.ofNat 50, Char.ofNat 48, Char.ofNat 102, Char.ofNat 99, Char.ofNat 57, Char.ofNat 54, Char.ofNat 99, Char.ofNat 53, Char.ofNat 48, Char.ofNat 55, Char.ofNat 53, Char.ofNat 101, Char.ofNat 97, Char.ofNat 50, Char.ofNat 50, Char.ofNat 100, Char.ofNat 57, Char.ofNat 53, Char.ofNat 101, Char.ofNat 99, Char.ofNat 99, Char.ofNat 56, Char.ofNat 98, Char.ofNat 52, Char.ofNat 49, Char.ofNat 102, Char.ofNat 100, Char.ofNat 99, Char.ofNat 97, Char.ofNat 48, Char.ofNat 50, Char.ofNat 56, Char.ofNat 102, Char.ofNat 51, Char.ofNat 54, Char.ofNat 56, Char.ofNat 54, Char.ofNat 97, Char.ofNat 99, Char.ofNat 51, Char.ofNat 53, Char.ofNat 100, Char.ofNat 102, Char.ofNat 97, Char.ofNat 57, Char.ofNat 97, Char.ofNat 54, Char.ofNat 100, Char.ofNat 51, Char.ofNat 99, Char.ofNat 49, Char.ofNat 50, Char.ofNat 49, Char.ofNat 50, Char.ofNat 54, Char.ofNat 57, Char.ofNat 55, Char.ofNat 100, Char.ofNat 56, Char.ofNat 56], [Char.ofNat 99, Char.ofNat 117, Char.ofNat 116], [Char.ofNat 97, Char.ofNat 116], [Char.ofNat 108, Char.ofNat 111, Char.ofNat 111, Char.ofNat 112, Char.ofNat 46, Char.ofNat 101, Char.ofNat 120, Char.ofNat 97, Char.ofNat 109, Char.ofNat 112, Char.ofNat 108, Char.ofNat 101, Char.ofNat 47, Char.ofNat 112, Char.ofNat 108, Char.ofNat 97, Char.ofNat 115, Char.ofNat 104, Char.ofNat 101, Char.ofNat 116, Char.ofNat 47, Char.ofNat 108, Char.ofNat 97, Char.ofNat 119, Char.ofNat 115, Char.ofNat 46, Char.ofNat 70, Char.ofNat 110, Char.ofNat 79, Char.ofNat 112, Char.ofNat 66, Char.ofNat 97, Char.ofNat 99, Char.ofNat 107], [Char.ofNat 108, Char.ofNat 111, Char.ofNat 111, Char.ofNat 112, Char.ofNat 46, Char.ofNat 101, Char.ofNat 120, Char.ofNat 97, Char.ofNat 109, Char.ofNat 112, Char.ofNat 108, Char.ofNat 101, Char.ofNat 47, Char.ofNat 112, Char.ofNat 108, Char.ofNat 97, Char.ofNat 115, Char.ofNat 104, Char.ofNat 101, Char.ofNat 116, Char.ofNat 47, Char.ofNat 108, Char.ofNat 97, Char.ofNat 119, Char.ofNat 115, Char.ofNat 46, Char.ofNat 70, Char.ofNat 110, Char.ofNat 79, Char.ofNat 112, Char.ofNat 83, Char.ofNat 116, Char.ofNat 114, Char.ofNat 105, Char.ofNat 99, Char.ofNat 116], [Char.ofNat 108, Char.ofNat 111, Char.ofNat 111, Char.ofNat 112, Char.ofNat 46, Char.ofNat 101, Char.ofNat 120, Char.ofNat 97, Char.ofNat 109, Char.ofNat 112, Char.ofNat 108, Char.ofNat 101, Char.ofNat 47, Char.ofNat 112, Char.ofNat 108, Char.ofNat 97, Char.ofNat 115, Char.ofNat 104, Char.ofNat 101, Char.ofNat 116, Char.ofNat 47, Char.ofNat 108, Char.ofNat 97, Char.ofNat 119, Char.ofNat 115, Char.ofNat 46, Char.ofNat 70, Char.ofNat 110, Char.ofNat 79, Char.ofNat 112, Char.ofNat 67, Char.ofNat 117, Char.ofNat 116]]
theorem head_text : Tryz.prog.initOrder = String.ofList headSigns := by kernel_rfl
theorem head_signs : wordsSigns Tryz.prog.initOrder.toList = headWords := by
  rw [head_text, String.toList_ofList]; kernel_rfl
theorem may_enter : Tryz.prog.mayEnter = true := by
  rw [Program.mayEnter.eq_1, head_signs]; kernel_rfl
theorem lifts_final : Tryz.prog.liftsFinal = false := by
  rw [Program.liftsFinal.eq_1, Program.headLifts.eq_1, head_signs]; kernel_rfl
theorem made_so : Tryz.prog.make = some .cut := by
  rw [Program.make.eq_1, head_signs]; kernel_rfl
theorem main_is : Tryz.prog.mainIs = some (true, ("1e2620fc96c5075ea22d95ecc8b41fdca028f3686ac35dfa9a6d3c1212697d88").toList) := by
  rw [Program.mainIs.eq_1, head_signs]; kernel_rfl
end Go.Proofs.YtkoodlmedgfdjaaGreatDoor
