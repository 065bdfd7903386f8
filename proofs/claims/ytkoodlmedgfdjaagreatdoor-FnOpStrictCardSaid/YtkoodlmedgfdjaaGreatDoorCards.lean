/-
  DERIVED. GIVEN WITH THE SEED: THE CARDS: each row of YtkoodlmedgfdjaaGreatDoorRows.lean that lists a variable, with what it lists TIED to the program's text (the seventh form; the later family's looks); each row that meets fmt, with fmt's text TOLD by the authors' own Lean function (tested against real Go, not proved from fmt's source: count such statements apart). THE CARD IS WHAT COUNTS. Prove the row's statement (the work); the ties are given (YtkoodlmedgfdjaaGreatDoorTie.lean); close each card by the builder's one call (the guide's Derived/Test/ToyasCard.lean, 'card_holds'). Laid BY PROGRAM, IN A SANDBOX (cutbox-door.mjs). By AI agents, Wed Nov 11 2026. No macro, syntax, notation, axiom, sorry.
-/
import Derived.Test.YtkoodlmedgfdjaaGreatDoorRows
import GoSem.ClaimSeven
namespace Go.Proofs.YtkoodlmedgfdjaaGreatDoor
namespace Rows

/-- THE TIED CARD OF 'laws.FnOpBack'. -/
def fnOpBackCard : Claim7 := { stood := { row := fnOpBackRow, standIns := [], harness := (true, "1e2620fc96c5075ea22d95ecc8b41fdca028f3686ac35dfa9a6d3c1212697d88"), looks := true }, kinds := [], alts := [], laidByText := true, laidKinds := [.data, .data, .data, .data, .sentinel, .sentinel, .data, .sentinel, .pinned], laidTests := true, laidLooks := .later }
def FnOpBackCardSaid : Prop := Claim7.holds Tryz.pinned (.plain (OpenSpec.ofChange fnOpBackSpec)) fnOpBackCard

/-- THE TIED CARD OF 'laws.FnOpStrict'. -/
def fnOpStrictCard : Claim7 := { stood := { row := fnOpStrictRow, standIns := [], harness := (true, "1e2620fc96c5075ea22d95ecc8b41fdca028f3686ac35dfa9a6d3c1212697d88"), looks := true }, kinds := [], alts := [], laidByText := true, laidKinds := [.data, .data, .data, .data, .sentinel, .sentinel, .data, .sentinel, .pinned], laidTests := true, laidLooks := .later }
def FnOpStrictCardSaid : Prop := Claim7.holds Tryz.pinned (.plain (OpenSpec.ofChange fnOpStrictSpec)) fnOpStrictCard

/-- THE TIED CARD OF 'laws.FnOpCut'. -/
def fnOpCutCard : Claim7 := { stood := { row := fnOpCutRow, standIns := [], harness := (true, "1e2620fc96c5075ea22d95ecc8b41fdca028f3686ac35dfa9a6d3c1212697d88"), looks := true }, kinds := [], alts := [], laidByText := true, laidKinds := [.data, .data, .data, .data, .sentinel, .sentinel, .data, .sentinel, .pinned], laidTests := true, laidLooks := .later }
def FnOpCutCardSaid : Prop := Claim7.holds Tryz.pinned (.plain (OpenSpec.ofChange fnOpCutSpec)) fnOpCutCard

/-- THE SECOND FORM's CARD OF 'laws.FnOpBack'. -/
def fnOpBackUptoCard : Claim7 := { stood := { row := fnOpBackUptoRow, standIns := [], harness := (true, "1e2620fc96c5075ea22d95ecc8b41fdca028f3686ac35dfa9a6d3c1212697d88"), looks := true }, kinds := [], alts := [], laidByText := true, laidKinds := [.data, .data, .data, .data, .sentinel, .sentinel, .data, .sentinel, .pinned], laidTests := true, laidLooks := .later }
def FnOpBackUptoCardSaid : Prop := Claim7.holds Tryz.pinned (.plain (OpenSpec.upto fnOpBackSpec)) fnOpBackUptoCard

/-- THE SECOND FORM's CARD OF 'laws.FnOpStrict'. -/
def fnOpStrictUptoCard : Claim7 := { stood := { row := fnOpStrictUptoRow, standIns := [], harness := (true, "1e2620fc96c5075ea22d95ecc8b41fdca028f3686ac35dfa9a6d3c1212697d88"), looks := true }, kinds := [], alts := [], laidByText := true, laidKinds := [.data, .data, .data, .data, .sentinel, .sentinel, .data, .sentinel, .pinned], laidTests := true, laidLooks := .later }
def FnOpStrictUptoCardSaid : Prop := Claim7.holds Tryz.pinned (.plain (OpenSpec.upto fnOpStrictSpec)) fnOpStrictUptoCard

/-- THE SECOND FORM's CARD OF 'laws.FnOpCut'. -/
def fnOpCutUptoCard : Claim7 := { stood := { row := fnOpCutUptoRow, standIns := [], harness := (true, "1e2620fc96c5075ea22d95ecc8b41fdca028f3686ac35dfa9a6d3c1212697d88"), looks := true }, kinds := [], alts := [], laidByText := true, laidKinds := [.data, .data, .data, .data, .sentinel, .sentinel, .data, .sentinel, .pinned], laidTests := true, laidLooks := .later }
def FnOpCutUptoCardSaid : Prop := Claim7.holds Tryz.pinned (.plain (OpenSpec.upto fnOpCutSpec)) fnOpCutUptoCard
end Rows
end Go.Proofs.YtkoodlmedgfdjaaGreatDoor
