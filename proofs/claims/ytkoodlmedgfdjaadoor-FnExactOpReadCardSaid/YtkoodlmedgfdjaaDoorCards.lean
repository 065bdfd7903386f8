/-
  DERIVED. GIVEN WITH THE SEED: THE CARDS: each row of YtkoodlmedgfdjaaDoorRows.lean that lists a variable, with what it lists TIED to the program's text (the seventh form; the later family's looks); each row that meets fmt, with fmt's text TOLD by the authors' own Lean function (tested against real Go, not proved from fmt's source: count such statements apart). THE CARD IS WHAT COUNTS. Prove the row's statement (the work); the ties are given (YtkoodlmedgfdjaaDoorTie.lean); close each card by the builder's one call (the guide's Derived/Test/ToyasCard.lean, 'card_holds'). Laid BY PROGRAM, IN A SANDBOX (cutbox-door.mjs). By AI agents, Wed Nov 11 2026. No macro, syntax, notation, axiom, sorry.
-/
import Derived.Test.YtkoodlmedgfdjaaDoorRows
import GoSem.ClaimSeven
namespace Go.Proofs.YtkoodlmedgfdjaaDoor
namespace Rows

/-- THE TIED CARD OF 'laws.FnExactOpRead'. -/
def fnExactOpReadCard : Claim7 := { stood := { row := fnExactOpReadRow, standIns := [], harness := (true, "0578391fcb6c0dd7361ccff82fa90008d09219e33be0e6b143470e3b9ebdb411"), looks := true }, kinds := [], alts := [], laidByText := true, laidKinds := [.data, .data, .data, .data, .sentinel, .sentinel, .data, .sentinel, .pinned], laidTests := true, laidLooks := .later }
def FnExactOpReadCardSaid : Prop := Claim7.holds Tryd.pinned (.plain (OpenSpec.ofChange fnExactOpReadSpec)) fnExactOpReadCard

/-- THE SECOND FORM's CARD OF 'laws.FnExactOpRead'. -/
def fnExactOpReadUptoCard : Claim7 := { stood := { row := fnExactOpReadUptoRow, standIns := [], harness := (true, "0578391fcb6c0dd7361ccff82fa90008d09219e33be0e6b143470e3b9ebdb411"), looks := true }, kinds := [], alts := [], laidByText := true, laidKinds := [.data, .data, .data, .data, .sentinel, .sentinel, .data, .sentinel, .pinned], laidTests := true, laidLooks := .later }
def FnExactOpReadUptoCardSaid : Prop := Claim7.holds Tryd.pinned (.plain (OpenSpec.upto fnExactOpReadSpec)) fnExactOpReadUptoCard
end Rows
end Go.Proofs.YtkoodlmedgfdjaaDoor
