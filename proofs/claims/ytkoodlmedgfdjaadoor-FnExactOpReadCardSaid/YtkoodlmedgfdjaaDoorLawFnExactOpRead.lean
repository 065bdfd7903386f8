/- The row and the tied card of the law FnExactOpRead: out of its pure statement (YtkoodlmedgfdjaaDoorPureFnExactOpRead) and the printed walk. For every input that can be read as data; condition: the listed package variables lie as the program's text lays them (none listed: no condition). -/
import Derived.Test.YtkoodlmedgfdjaaDoorRows
import Derived.Test.YtkoodlmedgfdjaaDoorPx4
import Derived.Test.YtkoodlmedgfdjaaDoorPureFnExactOpRead
import Derived.WalkKit
import Derived.ProofKit
import Derived.OpenShut
import Derived.ShutString
import Derived.ChangeOld
import Derived.Below
import Derived.SizedLaws
import Derived.OpenVars
import Derived.LaidMore
import Derived.Lib.LaidTab
import Derived.Stop.Joined
import Derived.Stop.LaidErr
import Derived.Lay
import Derived.Test.YtkoodlmedgfdjaaDoorWSized
import Derived.Test.YtkoodlmedgfdjaaDoorShaped
import Derived.Shelf.Vars
import Derived.Test.YtkoodlmedgfdjaaDoorHead
import Derived.Test.YtkoodlmedgfdjaaDoorTie
import Derived.Test.YtkoodlmedgfdjaaDoorCards
import Derived.SevenTiedAt
namespace Go.Proofs.YtkoodlmedgfdjaaDoor.fnExactOpRead
open Go.ChangeShapes Go.WideShapes Go.ChangeAt Go.RowKit Go.Proofs.YtkoodlmedgfdjaaDoorW.PrintWords Go.Proofs.YtkoodlmedgfdjaaDoorW.PrintLast
open Go.ChangeMaps (open_string shut_string)
set_option linter.unusedVariables false
set_option linter.unusedSimpArgs false
theorem own : ownKnob Tryd.prog.godebug = none := by kernel_rfl
theorem laidOut : laidOutB Tryd.prog = true := by kernel_rfl
def laid : List (String × DataW Unit) := [("math/bits.deBruijn32tab", Rows.laid_math_bits_deBruijn32tab), ("math/bits.deBruijn64tab", Rows.laid_math_bits_deBruijn64tab), ("internal/strconv.uint64pow10", Rows.laid_internal_strconv_uint64pow10), ("unicode/utf8.acceptRanges", Rows.laid_unicode_utf8_acceptRanges), ("strconv.ErrRange", Rows.laid_strconv_ErrRange), ("strconv.ErrSyntax", Rows.laid_strconv_ErrSyntax), ("loop.example/plashet/impl.rowOwners", Rows.laid_loop_example_plashet_impl_rowOwners), ("loop.example/plashet/impl.errMalformed", Rows.laid_loop_example_plashet_impl_errMalformed), ("unicode/utf8.first", Rows.laid_unicode_utf8_first)]
/-- The door's own heap meets the condition. -/
theorem door_met (os : Os) (args : Array Value) : laidMetH Tryd.prog laid ((World.laidAll Tryd.prog os laid).forCall (fun _ _ => 0) ⟨#[], args, []⟩).memory :=
  (MakeChecks.laidMetH_plain _ _ _ (by kernel_rfl)).symm ▸ laidMet_laidAll args (by kernel_rfl) (by kernel_rfl)
theorem vars_len {H : Type} {enc : TypeId × Value → H} {P : Program} {w : World} {sp : Nat → Bool} : ∀ {ns : List String} {gs : List (DataW H)} {q : List MemPlace}, DataW.TrodVars enc P w sp ns gs q → gs.length = ns.length
  | [], [], _, _ => rfl
  | [], _ :: _, _, h => h.elim
  | _ :: _, [], _, h => h.elim
  | _ :: _, _ :: _, _, h => by
    obtain ⟨_, _, _, _, _, _, _, _, _, _, h, _⟩ := h
    simp [vars_len h]
theorem tab_of_laid {W : World} (h : laidMetH Tryd.prog laid W) (hsh : W.ShapedOpen Tryd.prog) : TabOk W := by
  rw [MakeChecks.laidMetH_plain _ _ _ (by kernel_rfl)] at h
  have hT : Lib.TabIs Tryd.prog W "loop.example/plashet/impl.rowOwners" .i64 owners := Lib.tabIs_of_head (n := 37) (show Tryd.prog.globalNamed "loop.example/plashet/impl.rowOwners" = some 1 by kernel_rfl) (show (Tryd.prog.globals[1]?).map (·.type) = some 103 by kernel_rfl) Tryd.underlying103 Tryd.underlying3 (by kernel_rfl) (by kernel_rfl) (laidMet.tail (laidMet.tail (laidMet.tail (laidMet.tail (laidMet.tail (laidMet.tail h))))))
  have star : "*" ++ "errors.errorString" = "*errors.errorString" := by decide
  have rowIs : ∀ u, Tryd.prog.typeName? 3 u = some "*errors.errorString" → u = 124 := fun u h => typeName_ptr_named (nm := "errors.errorString") (by rw [star]; kernel_rfl) (by kernel_rfl) (by decide) u (by rw [star]; exact h)
  refine ⟨fun i hi => hT.cell (by kernel_rfl) i hi, ?_, ?_, ?_, ?_⟩
  · exact (by
    obtain ⟨a, s, hv, _⟩ := laid_sentinel (g := 0) (ti := 37) (tp := 124) (te := 126) (ts := 9) (laidMet.tail (laidMet.tail (laidMet.tail (laidMet.tail (laidMet.tail (laidMet.tail (laidMet.tail h))))))) (by kernel_rfl) (by kernel_rfl) Tryd.underlying37 (rowIs) Tryd.underlying124 Tryd.underlying126 rfl rfl Tryd.underlying9 (by kernel_rfl) (by kernel_rfl)
    exact ⟨a, World.var?_cell (by kernel_rfl) hv 0⟩)
  · exact Go.Proofs.cell_of_shapedOpen_int (zero := #[.int .i64 0]) (t := 3) hsh (of_decide_eq_true (by kernel_rfl)) (by kernel_rfl) rfl (by kernel_rfl) (by kernel_rfl) Tryd.underlying3
  · exact (by
    obtain ⟨a, s, hv, _⟩ := laid_sentinel (g := 2) (ti := 37) (tp := 124) (te := 126) (ts := 9) (laidMet.tail (laidMet.tail (laidMet.tail (laidMet.tail (laidMet.tail h))))) (by kernel_rfl) (by kernel_rfl) Tryd.underlying37 (rowIs) Tryd.underlying124 Tryd.underlying126 rfl rfl Tryd.underlying9 (by kernel_rfl) (by kernel_rfl)
    exact ⟨_, _, hv⟩)
  · exact (by
    obtain ⟨a, s, hv, _⟩ := laid_sentinel (g := 3) (ti := 37) (tp := 124) (te := 126) (ts := 9) (laidMet.tail (laidMet.tail (laidMet.tail (laidMet.tail h)))) (by kernel_rfl) (by kernel_rfl) Tryd.underlying37 (rowIs) Tryd.underlying124 Tryd.underlying126 rfl rfl Tryd.underlying9 (by kernel_rfl) (by kernel_rfl)
    exact ⟨_, _, hv⟩)
set_option maxRecDepth 100000 in
theorem lifted (os : Os) (started : os.Started) (H : Type) (enc : TypeId × Value → H) :
    ReturnsInHanded {} Tryd.checked os 3 .any (fun w args => (Rows.fnExactOpReadSpec.pre enc Tryd.prog Tryd.f3 [] false w args ∧ laidMetH Tryd.prog laid w) ∧ sizedMet enc Tryd.prog Tryd.f3 (OpenSpec.ofChange Rows.fnExactOpReadSpec) false w args) (Rows.fnExactOpReadSpec.post enc Tryd.prog Tryd.f3 false true false false) := by
  refine handed_shaped (C := Tryd.checked) (X := fun w _ => laidMetH Tryd.prog laid w) (fun _ _ _ hh h => h.of_heap hh) own started (by kernel_rfl) Tryd.func3
    (ChangeSpec.witness_shaped (enc := enc) (C := Tryd.checked) (os := os) (X := fun w _ => laidMetH Tryd.prog laid w) false (World.laidAll Tryd.prog os laid) #[.string ByteArray.empty] 8 (World.laidAll_os _ _ _) (World.shaped_of_ZipB (by kernel_rfl) (by kernel_rfl)) (by kernel_rfl) (by kernel_rfl) (by kernel_rfl) (door_met os _)) ?_
  intro W base args ds gs before hsh hval0 hW _ hsz0 hL _
  have hsz : (DataW.weightsEach Tryd.prog (Tryd.f3.params.toList ++ Rows.fnExactOpReadSpec.plain.varTypes Tryd.prog) (ds ++ gs)).all (· ≤ reachBytes) = true := hsz0
  have hval : ∀ (j : Nat) t v, Tryd.f3.params[j]? = some t → args[j]? = some v → Value.okWide Tryd.prog W .any base t v := hval0
  have hW' := hW
  obtain ⟨p, q, hA0, hV, rfl, hfz, hnd⟩ := hW
  have hA : DataW.TrodAll enc Tryd.prog W 0 (fun _ => true) true Tryd.f3.params.toList args.toList ds p := hA0
  rw [Tryd.params3] at hA hval hsz
  obtain ⟨v0, vs0, d0, ds0, p0, q0, hargs, rfl, rfl, h0, r0⟩ := trodAll_cons hA
  obtain ⟨rfl, rfl, rfl⟩ := trodAll_nil r0
  obtain rfl : args = #[v0] := by cases args; simp_all
  obtain ⟨g1, g2, rfl⟩ : ∃ g1 g2, gs = [g1, g2] := by
    have hl := vars_len hV
    match gs, hl with
    | [g1, g2], _ => exact ⟨g1, g2, rfl⟩
  have hV2 : DataW.TrodVars enc Tryd.prog W (fun _ => true) Rows.fnExactOpReadSpec.vars [g1, g2] q := hV
  have ht := tab_of_laid hL hsh
  obtain ⟨a0, rfl, rfl, rfl, y0⟩ := open_string Tryd.underlying9 (hval 0 9 v0 rfl rfl) h0
  have w0 : a0.size ≤ 140737488351232 := by
    have z := sized_string hsz (j := 0) (t := 9) rfl rfl
    rw [Array.length_toList] at z
    exact z
  clear hA0 hval0 hsz0 hsz
  refine (P.laws_FnExactOpRead.walk Pure.FnExactOpRead a0 W ht w0).mono fun e W' ⟨he, bel⟩ => ?_
  subst he
  exact ⟨_, rfl, _, _, _, [], _, q, hW', trodAll_mk1 (shut_bool Tryd.underlying4 _), (trodAll_cons_mk (shut_string Tryd.underlying9 y0) trodAll_mk0), bel.trodVars laidOut (by kernel_rfl) hV2, bel.frame _, fun h => by cases h⟩
set_option maxRecDepth 100000 in
theorem facts : joinedFacts Tryd.prog 3 Tryd.f3 Rows.fnExactOpReadSpec Rows.fnExactOpReadRow = true := by
  rw [joinedFacts.eq_1, may_enter, lifts_final, made_so]; kernel_rfl
theorem over : Rows.fnExactOpReadRow.holds Tryd.pinned (OpenSpec.ofChange Rows.fnExactOpReadSpec) :=
  OpenClaim.holds_of_wide 3 Tryd.f3 rfl rfl rfl rfl rfl rfl rfl ⟨rfl, rfl, rfl, rfl, rfl⟩ rfl rfl rfl rfl rfl (by kernel_rfl) Tryd.func3 facts
    (of_decide_eq_true (by kernel_rfl)) (by unfold Func.isWrapper; first | (rw [if_pos (by decide +kernel)]; kernel_rfl) | (rw [if_neg (by decide +kernel)]; exact ⟨rfl, rfl⟩))
    (fun os started H enc _ => lifted os started H enc)
theorem card : Rows.FnExactOpReadCardSaid :=
  Claim7.holds_tied_plain_at .later [] [.data, .data, .data, .data, .sentinel, .sentinel, .data, .sentinel, .pinned] true (true, "0578391fcb6c0dd7361ccff82fa90008d09219e33be0e6b143470e3b9ebdb411") true
    over (fun _ h => by cases h) (by kernel_rfl) (fun _ h => by cases h) fnExactOpRead_row_tie rfl ⟨rfl, rfl⟩ main_is rfl
    (fun f fn hf hfn => by
      obtain rfl : f = 3 := Option.some.inj ((show Tryd.prog.funcNamed "loop.example/plashet/laws.FnExactOpRead" = some 3 by kernel_rfl).symm.trans hf) |>.symm
      obtain rfl : fn = Tryd.f3 := (Option.some.inj (Tryd.func3.symm.trans hfn)).symm
      exact ⟨by kernel_rfl, fun j t ht => by
        rw [Tryd.params3] at ht
        have hm : t ∈ [9] := by simpa using Array.mem_of_getElem? ht
        have hall : ([9].all fun u => !Tryd.prog.wantsStandIn u) = true := by kernel_rfl
        exact (show Tryd.prog.wantsStandIn t = false by simpa using List.all_eq_true.1 hall t hm)⟩)
    (by kernel_rfl)
theorem proved : Rows.FnExactOpReadCardSaid := card
#print axioms proved
end Go.Proofs.YtkoodlmedgfdjaaDoor.fnExactOpRead
namespace Go.Proofs.YtkoodlmedgfdjaaDoor
/-- The row, under a short name, for the claim. -/
theorem fnExactOpRead_holds : Rows.FnExactOpReadCardSaid := fnExactOpRead.proved
end Go.Proofs.YtkoodlmedgfdjaaDoor
