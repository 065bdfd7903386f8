/-
  DERIVED. GIVEN WITH THE SEED: THE CARDS: each row of YtbafffcgmdmebaaDoorRows.lean that lists a variable, with what it lists TIED to the program's text (the seventh form; the later family's looks); each row that meets fmt, with fmt's text TOLD by the authors' own Lean function (tested against real Go, not proved from fmt's source: count such statements apart). THE CARD IS WHAT COUNTS. Prove the row's statement (the work); the ties are given (YtbafffcgmdmebaaDoorTie.lean); close each card by the builder's one call (the guide's Derived/Test/ToyasCard.lean, 'card_holds'). Laid BY PROGRAM, IN A SANDBOX (cutbox-door.mjs). By AI agents, Wed Nov 11 2026. No macro, syntax, notation, axiom, sorry.
-/
import Derived.Test.YtbafffcgmdmebaaDoorRows
import GoSem.ClaimSeven
namespace Go.Proofs.YtbafffcgmdmebaaDoor
namespace Rows

/-- THE TIED CARD OF 'laws.FnExactRowWho'. -/
def fnExactRowWhoCard : Claim7 := { stood := { row := fnExactRowWhoRow, standIns := [], harness := (true, "5cfe102cd31ce7a5cb4c835edddb27ee2a04bd5e93049037ac826102836665da"), looks := false }, kinds := [], alts := [], laidByText := true, laidKinds := [.data], laidTests := true, laidLooks := .later }
def FnExactRowWhoCardSaid : Prop := Claim7.holds Tryd.pinned (.plain (OpenSpec.ofChange fnExactRowWhoSpec)) fnExactRowWhoCard

/-- THE TIED CARD OF 'laws.FnMadeWho'. -/
def fnMadeWhoCard : Claim7 := { stood := { row := fnMadeWhoRow, standIns := [], harness := (true, "5cfe102cd31ce7a5cb4c835edddb27ee2a04bd5e93049037ac826102836665da"), looks := false }, kinds := [], alts := [], laidByText := true, laidKinds := [.data], laidTests := true, laidLooks := .later }
def FnMadeWhoCardSaid : Prop := Claim7.holds Tryd.pinned (.plain (OpenSpec.ofChange fnMadeWhoSpec)) fnMadeWhoCard

/-- THE TIED CARD OF 'laws.FnWho'. -/
def fnWhoCard : Claim7 := { stood := { row := fnWhoRow, standIns := [], harness := (true, "5cfe102cd31ce7a5cb4c835edddb27ee2a04bd5e93049037ac826102836665da"), looks := false }, kinds := [], alts := [], laidByText := true, laidKinds := [.data], laidTests := true, laidLooks := .later }
def FnWhoCardSaid : Prop := Claim7.holds Tryd.pinned (.plain (OpenSpec.ofChange fnWhoSpec)) fnWhoCard

/-- THE TIED CARD OF 'laws.FnExactRowOk'. -/
def fnExactRowOkCard : Claim7 := { stood := { row := fnExactRowOkRow, standIns := [], harness := (true, "5cfe102cd31ce7a5cb4c835edddb27ee2a04bd5e93049037ac826102836665da"), looks := false }, kinds := [], alts := [], laidByText := true, laidKinds := [.data], laidTests := true, laidLooks := .later }
def FnExactRowOkCardSaid : Prop := Claim7.holds Tryd.pinned (.plain (OpenSpec.ofChange fnExactRowOkSpec)) fnExactRowOkCard

/-- THE TIED CARD OF 'laws.FnExactOpOk'. -/
def fnExactOpOkCard : Claim7 := { stood := { row := fnExactOpOkRow, standIns := [], harness := (true, "5cfe102cd31ce7a5cb4c835edddb27ee2a04bd5e93049037ac826102836665da"), looks := false }, kinds := [], alts := [], laidByText := true, laidKinds := [.data], laidTests := true, laidLooks := .later }
def FnExactOpOkCardSaid : Prop := Claim7.holds Tryd.pinned (.plain (OpenSpec.ofChange fnExactOpOkSpec)) fnExactOpOkCard

/-- THE TIED CARD OF 'laws.FnRowForm'. -/
def fnRowFormCard : Claim7 := { stood := { row := fnRowFormRow, standIns := [], harness := (true, "5cfe102cd31ce7a5cb4c835edddb27ee2a04bd5e93049037ac826102836665da"), looks := false }, kinds := [], alts := [], laidByText := true, laidKinds := [.data], laidTests := true, laidLooks := .later }
def FnRowFormCardSaid : Prop := Claim7.holds Tryd.pinned (.plain (OpenSpec.ofChange fnRowFormSpec)) fnRowFormCard

/-- THE TIED CARD OF 'laws.FnExactEntryOk'. -/
def fnExactEntryOkCard : Claim7 := { stood := { row := fnExactEntryOkRow, standIns := [], harness := (true, "5cfe102cd31ce7a5cb4c835edddb27ee2a04bd5e93049037ac826102836665da"), looks := false }, kinds := [], alts := [], laidByText := true, laidKinds := [.data], laidTests := true, laidLooks := .later }
def FnExactEntryOkCardSaid : Prop := Claim7.holds Tryd.pinned (.plain (OpenSpec.ofChange fnExactEntryOkSpec)) fnExactEntryOkCard

/-- THE TIED CARD OF 'laws.FnOpForm'. -/
def fnOpFormCard : Claim7 := { stood := { row := fnOpFormRow, standIns := [], harness := (true, "5cfe102cd31ce7a5cb4c835edddb27ee2a04bd5e93049037ac826102836665da"), looks := false }, kinds := [], alts := [], laidByText := true, laidKinds := [.data], laidTests := true, laidLooks := .later }
def FnOpFormCardSaid : Prop := Claim7.holds Tryd.pinned (.plain (OpenSpec.ofChange fnOpFormSpec)) fnOpFormCard

/-- THE SECOND FORM's CARD OF 'laws.FnExactRowWho'. -/
def fnExactRowWhoUptoCard : Claim7 := { stood := { row := fnExactRowWhoUptoRow, standIns := [], harness := (true, "5cfe102cd31ce7a5cb4c835edddb27ee2a04bd5e93049037ac826102836665da"), looks := false }, kinds := [], alts := [], laidByText := true, laidKinds := [.data], laidTests := true, laidLooks := .later }
def FnExactRowWhoUptoCardSaid : Prop := Claim7.holds Tryd.pinned (.plain (OpenSpec.upto fnExactRowWhoSpec)) fnExactRowWhoUptoCard

/-- THE SECOND FORM's CARD OF 'laws.FnMadeWho'. -/
def fnMadeWhoUptoCard : Claim7 := { stood := { row := fnMadeWhoUptoRow, standIns := [], harness := (true, "5cfe102cd31ce7a5cb4c835edddb27ee2a04bd5e93049037ac826102836665da"), looks := false }, kinds := [], alts := [], laidByText := true, laidKinds := [.data], laidTests := true, laidLooks := .later }
def FnMadeWhoUptoCardSaid : Prop := Claim7.holds Tryd.pinned (.plain (OpenSpec.upto fnMadeWhoSpec)) fnMadeWhoUptoCard

/-- THE SECOND FORM's CARD OF 'laws.FnWho'. -/
def fnWhoUptoCard : Claim7 := { stood := { row := fnWhoUptoRow, standIns := [], harness := (true, "5cfe102cd31ce7a5cb4c835edddb27ee2a04bd5e93049037ac826102836665da"), looks := false }, kinds := [], alts := [], laidByText := true, laidKinds := [.data], laidTests := true, laidLooks := .later }
def FnWhoUptoCardSaid : Prop := Claim7.holds Tryd.pinned (.plain (OpenSpec.upto fnWhoSpec)) fnWhoUptoCard

/-- THE SECOND FORM's CARD OF 'laws.FnExactRowOk'. -/
def fnExactRowOkUptoCard : Claim7 := { stood := { row := fnExactRowOkUptoRow, standIns := [], harness := (true, "5cfe102cd31ce7a5cb4c835edddb27ee2a04bd5e93049037ac826102836665da"), looks := false }, kinds := [], alts := [], laidByText := true, laidKinds := [.data], laidTests := true, laidLooks := .later }
def FnExactRowOkUptoCardSaid : Prop := Claim7.holds Tryd.pinned (.plain (OpenSpec.upto fnExactRowOkSpec)) fnExactRowOkUptoCard

/-- THE SECOND FORM's CARD OF 'laws.FnExactOpOk'. -/
def fnExactOpOkUptoCard : Claim7 := { stood := { row := fnExactOpOkUptoRow, standIns := [], harness := (true, "5cfe102cd31ce7a5cb4c835edddb27ee2a04bd5e93049037ac826102836665da"), looks := false }, kinds := [], alts := [], laidByText := true, laidKinds := [.data], laidTests := true, laidLooks := .later }
def FnExactOpOkUptoCardSaid : Prop := Claim7.holds Tryd.pinned (.plain (OpenSpec.upto fnExactOpOkSpec)) fnExactOpOkUptoCard

/-- THE SECOND FORM's CARD OF 'laws.FnRowForm'. -/
def fnRowFormUptoCard : Claim7 := { stood := { row := fnRowFormUptoRow, standIns := [], harness := (true, "5cfe102cd31ce7a5cb4c835edddb27ee2a04bd5e93049037ac826102836665da"), looks := false }, kinds := [], alts := [], laidByText := true, laidKinds := [.data], laidTests := true, laidLooks := .later }
def FnRowFormUptoCardSaid : Prop := Claim7.holds Tryd.pinned (.plain (OpenSpec.upto fnRowFormSpec)) fnRowFormUptoCard

/-- THE SECOND FORM's CARD OF 'laws.FnExactEntryOk'. -/
def fnExactEntryOkUptoCard : Claim7 := { stood := { row := fnExactEntryOkUptoRow, standIns := [], harness := (true, "5cfe102cd31ce7a5cb4c835edddb27ee2a04bd5e93049037ac826102836665da"), looks := false }, kinds := [], alts := [], laidByText := true, laidKinds := [.data], laidTests := true, laidLooks := .later }
def FnExactEntryOkUptoCardSaid : Prop := Claim7.holds Tryd.pinned (.plain (OpenSpec.upto fnExactEntryOkSpec)) fnExactEntryOkUptoCard

/-- THE SECOND FORM's CARD OF 'laws.FnOpForm'. -/
def fnOpFormUptoCard : Claim7 := { stood := { row := fnOpFormUptoRow, standIns := [], harness := (true, "5cfe102cd31ce7a5cb4c835edddb27ee2a04bd5e93049037ac826102836665da"), looks := false }, kinds := [], alts := [], laidByText := true, laidKinds := [.data], laidTests := true, laidLooks := .later }
def FnOpFormUptoCardSaid : Prop := Claim7.holds Tryd.pinned (.plain (OpenSpec.upto fnOpFormSpec)) fnOpFormUptoCard
end Rows
end Go.Proofs.YtbafffcgmdmebaaDoor
