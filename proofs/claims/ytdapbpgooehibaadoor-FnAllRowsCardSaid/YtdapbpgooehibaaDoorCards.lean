/-
  DERIVED. GIVEN WITH THE SEED: THE CARDS: each row of YtdapbpgooehibaaDoorRows.lean that lists a variable, with what it lists TIED to the program's text (the seventh form; the later family's looks); each row that meets fmt, with fmt's text TOLD by the authors' own Lean function (tested against real Go, not proved from fmt's source: count such statements apart). THE CARD IS WHAT COUNTS. Prove the row's statement (the work); the ties are given (YtdapbpgooehibaaDoorTie.lean); close each card by the builder's one call (the guide's Derived/Test/ToyasCard.lean, 'card_holds'). Laid BY PROGRAM, IN A SANDBOX (cutbox-door.mjs). By AI agents, Wed Nov 11 2026. No macro, syntax, notation, axiom, sorry.
-/
import Derived.Test.YtdapbpgooehibaaDoorRows
import GoSem.ClaimSeven
namespace Go.Proofs.YtdapbpgooehibaaDoor
namespace Rows

/-- THE TIED CARD OF 'laws.FnTreeForm'. -/
def fnTreeFormCard : Claim7 := { stood := { row := fnTreeFormRow, standIns := [], harness := (true, "1c0c2434b4ca54a9ece07d855f618a4b59909188926a0f117ad0d88e2b9b3036"), looks := true }, kinds := [], alts := [], laidByText := true, laidKinds := [.data], laidTests := true, laidLooks := .later }
def FnTreeFormCardSaid : Prop := Claim7.holds Tryd.pinned (.plain (OpenSpec.ofChange fnTreeFormSpec)) fnTreeFormCard

/-- THE TIED CARD OF 'laws.FnExactOpShow'. -/
def fnExactOpShowCard : Claim7 := { stood := { row := fnExactOpShowRow, standIns := [], harness := (true, "1c0c2434b4ca54a9ece07d855f618a4b59909188926a0f117ad0d88e2b9b3036"), looks := true }, kinds := [], alts := [], laidByText := true, laidKinds := [.data, .data, .data, .data], laidTests := true, laidLooks := .later }
def FnExactOpShowCardSaid : Prop := Claim7.holds Tryd.pinned (.plain (OpenSpec.ofChange fnExactOpShowSpec)) fnExactOpShowCard

/-- THE TIED CARD OF 'laws.FnOpOne'. -/
def fnOpOneCard : Claim7 := { stood := { row := fnOpOneRow, standIns := [], harness := (true, "1c0c2434b4ca54a9ece07d855f618a4b59909188926a0f117ad0d88e2b9b3036"), looks := true }, kinds := [], alts := [], laidByText := true, laidKinds := [.data, .data, .data, .data], laidTests := true, laidLooks := .later }
def FnOpOneCardSaid : Prop := Claim7.holds Tryd.pinned (.plain (OpenSpec.ofChange fnOpOneSpec)) fnOpOneCard

/-- THE TIED CARD OF 'laws.FnExactTreeText'. -/
def fnExactTreeTextCard : Claim7 := { stood := { row := fnExactTreeTextRow, standIns := [], harness := (true, "1c0c2434b4ca54a9ece07d855f618a4b59909188926a0f117ad0d88e2b9b3036"), looks := true }, kinds := [], alts := [], laidByText := true, laidKinds := [.data, .data, .data, .data], laidTests := true, laidLooks := .later }
def FnExactTreeTextCardSaid : Prop := Claim7.holds Tryd.pinned (.plain (OpenSpec.ofChange fnExactTreeTextSpec)) fnExactTreeTextCard

/-- THE TIED CARD OF 'laws.FnTreeText'. -/
def fnTreeTextCard : Claim7 := { stood := { row := fnTreeTextRow, standIns := [], harness := (true, "1c0c2434b4ca54a9ece07d855f618a4b59909188926a0f117ad0d88e2b9b3036"), looks := true }, kinds := [], alts := [], laidByText := true, laidKinds := [.data, .data, .data, .data], laidTests := true, laidLooks := .later }
def FnTreeTextCardSaid : Prop := Claim7.holds Tryd.pinned (.plain (OpenSpec.ofChange fnTreeTextSpec)) fnTreeTextCard

/-- THE TIED CARD OF 'laws.FnAllRows'. -/
def fnAllRowsCard : Claim7 := { stood := { row := fnAllRowsRow, standIns := [], harness := (true, "1c0c2434b4ca54a9ece07d855f618a4b59909188926a0f117ad0d88e2b9b3036"), looks := true }, kinds := [], alts := [], laidByText := true, laidKinds := [.data, .data, .data, .data], laidTests := true, laidLooks := .later }
def FnAllRowsCardSaid : Prop := Claim7.holds Tryd.pinned (.plain (OpenSpec.ofChange fnAllRowsSpec)) fnAllRowsCard

/-- THE SECOND FORM's CARD OF 'laws.FnTreeForm'. -/
def fnTreeFormUptoCard : Claim7 := { stood := { row := fnTreeFormUptoRow, standIns := [], harness := (true, "1c0c2434b4ca54a9ece07d855f618a4b59909188926a0f117ad0d88e2b9b3036"), looks := true }, kinds := [], alts := [], laidByText := true, laidKinds := [.data], laidTests := true, laidLooks := .later }
def FnTreeFormUptoCardSaid : Prop := Claim7.holds Tryd.pinned (.plain (OpenSpec.upto fnTreeFormSpec)) fnTreeFormUptoCard

/-- THE SECOND FORM's CARD OF 'laws.FnExactOpShow'. -/
def fnExactOpShowUptoCard : Claim7 := { stood := { row := fnExactOpShowUptoRow, standIns := [], harness := (true, "1c0c2434b4ca54a9ece07d855f618a4b59909188926a0f117ad0d88e2b9b3036"), looks := true }, kinds := [], alts := [], laidByText := true, laidKinds := [.data, .data, .data, .data], laidTests := true, laidLooks := .later }
def FnExactOpShowUptoCardSaid : Prop := Claim7.holds Tryd.pinned (.plain (OpenSpec.upto fnExactOpShowSpec)) fnExactOpShowUptoCard

/-- THE SECOND FORM's CARD OF 'laws.FnOpOne'. -/
def fnOpOneUptoCard : Claim7 := { stood := { row := fnOpOneUptoRow, standIns := [], harness := (true, "1c0c2434b4ca54a9ece07d855f618a4b59909188926a0f117ad0d88e2b9b3036"), looks := true }, kinds := [], alts := [], laidByText := true, laidKinds := [.data, .data, .data, .data], laidTests := true, laidLooks := .later }
def FnOpOneUptoCardSaid : Prop := Claim7.holds Tryd.pinned (.plain (OpenSpec.upto fnOpOneSpec)) fnOpOneUptoCard

/-- THE SECOND FORM's CARD OF 'laws.FnExactTreeText'. -/
def fnExactTreeTextUptoCard : Claim7 := { stood := { row := fnExactTreeTextUptoRow, standIns := [], harness := (true, "1c0c2434b4ca54a9ece07d855f618a4b59909188926a0f117ad0d88e2b9b3036"), looks := true }, kinds := [], alts := [], laidByText := true, laidKinds := [.data, .data, .data, .data], laidTests := true, laidLooks := .later }
def FnExactTreeTextUptoCardSaid : Prop := Claim7.holds Tryd.pinned (.plain (OpenSpec.upto fnExactTreeTextSpec)) fnExactTreeTextUptoCard

/-- THE SECOND FORM's CARD OF 'laws.FnTreeText'. -/
def fnTreeTextUptoCard : Claim7 := { stood := { row := fnTreeTextUptoRow, standIns := [], harness := (true, "1c0c2434b4ca54a9ece07d855f618a4b59909188926a0f117ad0d88e2b9b3036"), looks := true }, kinds := [], alts := [], laidByText := true, laidKinds := [.data, .data, .data, .data], laidTests := true, laidLooks := .later }
def FnTreeTextUptoCardSaid : Prop := Claim7.holds Tryd.pinned (.plain (OpenSpec.upto fnTreeTextSpec)) fnTreeTextUptoCard

/-- THE SECOND FORM's CARD OF 'laws.FnAllRows'. -/
def fnAllRowsUptoCard : Claim7 := { stood := { row := fnAllRowsUptoRow, standIns := [], harness := (true, "1c0c2434b4ca54a9ece07d855f618a4b59909188926a0f117ad0d88e2b9b3036"), looks := true }, kinds := [], alts := [], laidByText := true, laidKinds := [.data, .data, .data, .data], laidTests := true, laidLooks := .later }
def FnAllRowsUptoCardSaid : Prop := Claim7.holds Tryd.pinned (.plain (OpenSpec.upto fnAllRowsSpec)) fnAllRowsUptoCard
end Rows
end Go.Proofs.YtdapbpgooehibaaDoor
