/-
  DERIVED. GIVEN WITH THE SEED: THE CARDS: each row of YtlpfjabfhgfpmaaDoorRows.lean that lists a variable, with what it lists TIED to the program's text (the seventh form; the later family's looks); each row that meets fmt, with fmt's text TOLD by the authors' own Lean function (tested against real Go, not proved from fmt's source: count such statements apart). THE CARD IS WHAT COUNTS. Prove the row's statement (the work); the ties are given (YtlpfjabfhgfpmaaDoorTie.lean); close each card by the builder's one call (the guide's Derived/Test/ToyasCard.lean, 'card_holds'). Laid BY PROGRAM, IN A SANDBOX (cutbox-door.mjs). By AI agents, Wed Nov 11 2026. No macro, syntax, notation, axiom, sorry.
-/
import Derived.Test.YtlpfjabfhgfpmaaDoorRows
import GoSem.ClaimSeven
namespace Go.Proofs.YtlpfjabfhgfpmaaDoor
namespace Rows

/-- THE TIED CARD OF 'laws.FnEntryForm'. -/
def fnEntryFormCard : Claim7 := { stood := { row := fnEntryFormRow, standIns := [], harness := (true, "b0dd59465a6ba0888f18406ad72c565b86bebcc8df55454cb2b34ef51b242385"), looks := false }, kinds := [], alts := [], laidByText := true, laidKinds := [.data], laidTests := true, laidLooks := .later }
def FnEntryFormCardSaid : Prop := Claim7.holds Tryd.pinned (.plain (OpenSpec.ofChange fnEntryFormSpec)) fnEntryFormCard

/-- THE TIED CARD OF 'laws.FnExactLogOk'. -/
def fnExactLogOkCard : Claim7 := { stood := { row := fnExactLogOkRow, standIns := [], harness := (true, "b0dd59465a6ba0888f18406ad72c565b86bebcc8df55454cb2b34ef51b242385"), looks := false }, kinds := [], alts := [], laidByText := true, laidKinds := [.data], laidTests := true, laidLooks := .later }
def FnExactLogOkCardSaid : Prop := Claim7.holds Tryd.pinned (.plain (OpenSpec.ofChange fnExactLogOkSpec)) fnExactLogOkCard

/-- THE TIED CARD OF 'laws.FnExactLogSeq'. -/
def fnExactLogSeqCard : Claim7 := { stood := { row := fnExactLogSeqRow, standIns := [], harness := (true, "b0dd59465a6ba0888f18406ad72c565b86bebcc8df55454cb2b34ef51b242385"), looks := false }, kinds := [], alts := [], laidByText := true, laidKinds := [.data], laidTests := true, laidLooks := .later }
def FnExactLogSeqCardSaid : Prop := Claim7.holds Tryd.pinned (.plain (OpenSpec.ofChange fnExactLogSeqSpec)) fnExactLogSeqCard

/-- THE TIED CARD OF 'laws.FnExactServerOk'. -/
def fnExactServerOkCard : Claim7 := { stood := { row := fnExactServerOkRow, standIns := [], harness := (true, "b0dd59465a6ba0888f18406ad72c565b86bebcc8df55454cb2b34ef51b242385"), looks := false }, kinds := [], alts := [], laidByText := true, laidKinds := [.data], laidTests := true, laidLooks := .later }
def FnExactServerOkCardSaid : Prop := Claim7.holds Tryd.pinned (.plain (OpenSpec.ofChange fnExactServerOkSpec)) fnExactServerOkCard

/-- THE TIED CARD OF 'laws.FnExactLogAdd'. -/
def fnExactLogAddCard : Claim7 := { stood := { row := fnExactLogAddRow, standIns := [], harness := (true, "b0dd59465a6ba0888f18406ad72c565b86bebcc8df55454cb2b34ef51b242385"), looks := false }, kinds := [], alts := [], laidByText := true, laidKinds := [.data], laidTests := true, laidLooks := .later }
def FnExactLogAddCardSaid : Prop := Claim7.holds Tryd.pinned (.plain (OpenSpec.ofChange fnExactLogAddSpec)) fnExactLogAddCard

/-- THE TIED CARD OF 'laws.FnLogSeq'. -/
def fnLogSeqCard : Claim7 := { stood := { row := fnLogSeqRow, standIns := [], harness := (true, "b0dd59465a6ba0888f18406ad72c565b86bebcc8df55454cb2b34ef51b242385"), looks := false }, kinds := [], alts := [], laidByText := true, laidKinds := [.data], laidTests := true, laidLooks := .later }
def FnLogSeqCardSaid : Prop := Claim7.holds Tryd.pinned (.plain (OpenSpec.ofChange fnLogSeqSpec)) fnLogSeqCard

/-- THE TIED CARD OF 'laws.FnLogGap'. -/
def fnLogGapCard : Claim7 := { stood := { row := fnLogGapRow, standIns := [], harness := (true, "b0dd59465a6ba0888f18406ad72c565b86bebcc8df55454cb2b34ef51b242385"), looks := false }, kinds := [], alts := [], laidByText := true, laidKinds := [.data], laidTests := true, laidLooks := .later }
def FnLogGapCardSaid : Prop := Claim7.holds Tryd.pinned (.plain (OpenSpec.ofChange fnLogGapSpec)) fnLogGapCard

/-- THE TIED CARD OF 'laws.FnLogTwice'. -/
def fnLogTwiceCard : Claim7 := { stood := { row := fnLogTwiceRow, standIns := [], harness := (true, "b0dd59465a6ba0888f18406ad72c565b86bebcc8df55454cb2b34ef51b242385"), looks := false }, kinds := [], alts := [], laidByText := true, laidKinds := [.data], laidTests := true, laidLooks := .later }
def FnLogTwiceCardSaid : Prop := Claim7.holds Tryd.pinned (.plain (OpenSpec.ofChange fnLogTwiceSpec)) fnLogTwiceCard

/-- THE TIED CARD OF 'laws.FnLogAdd'. -/
def fnLogAddCard : Claim7 := { stood := { row := fnLogAddRow, standIns := [], harness := (true, "b0dd59465a6ba0888f18406ad72c565b86bebcc8df55454cb2b34ef51b242385"), looks := false }, kinds := [], alts := [], laidByText := true, laidKinds := [.data], laidTests := true, laidLooks := .later }
def FnLogAddCardSaid : Prop := Claim7.holds Tryd.pinned (.plain (OpenSpec.ofChange fnLogAddSpec)) fnLogAddCard

/-- THE SECOND FORM's CARD OF 'laws.FnEntryForm'. -/
def fnEntryFormUptoCard : Claim7 := { stood := { row := fnEntryFormUptoRow, standIns := [], harness := (true, "b0dd59465a6ba0888f18406ad72c565b86bebcc8df55454cb2b34ef51b242385"), looks := false }, kinds := [], alts := [], laidByText := true, laidKinds := [.data], laidTests := true, laidLooks := .later }
def FnEntryFormUptoCardSaid : Prop := Claim7.holds Tryd.pinned (.plain (OpenSpec.upto fnEntryFormSpec)) fnEntryFormUptoCard

/-- THE SECOND FORM's CARD OF 'laws.FnExactLogOk'. -/
def fnExactLogOkUptoCard : Claim7 := { stood := { row := fnExactLogOkUptoRow, standIns := [], harness := (true, "b0dd59465a6ba0888f18406ad72c565b86bebcc8df55454cb2b34ef51b242385"), looks := false }, kinds := [], alts := [], laidByText := true, laidKinds := [.data], laidTests := true, laidLooks := .later }
def FnExactLogOkUptoCardSaid : Prop := Claim7.holds Tryd.pinned (.plain (OpenSpec.upto fnExactLogOkSpec)) fnExactLogOkUptoCard

/-- THE SECOND FORM's CARD OF 'laws.FnExactLogSeq'. -/
def fnExactLogSeqUptoCard : Claim7 := { stood := { row := fnExactLogSeqUptoRow, standIns := [], harness := (true, "b0dd59465a6ba0888f18406ad72c565b86bebcc8df55454cb2b34ef51b242385"), looks := false }, kinds := [], alts := [], laidByText := true, laidKinds := [.data], laidTests := true, laidLooks := .later }
def FnExactLogSeqUptoCardSaid : Prop := Claim7.holds Tryd.pinned (.plain (OpenSpec.upto fnExactLogSeqSpec)) fnExactLogSeqUptoCard

/-- THE SECOND FORM's CARD OF 'laws.FnExactServerOk'. -/
def fnExactServerOkUptoCard : Claim7 := { stood := { row := fnExactServerOkUptoRow, standIns := [], harness := (true, "b0dd59465a6ba0888f18406ad72c565b86bebcc8df55454cb2b34ef51b242385"), looks := false }, kinds := [], alts := [], laidByText := true, laidKinds := [.data], laidTests := true, laidLooks := .later }
def FnExactServerOkUptoCardSaid : Prop := Claim7.holds Tryd.pinned (.plain (OpenSpec.upto fnExactServerOkSpec)) fnExactServerOkUptoCard

/-- THE SECOND FORM's CARD OF 'laws.FnExactLogAdd'. -/
def fnExactLogAddUptoCard : Claim7 := { stood := { row := fnExactLogAddUptoRow, standIns := [], harness := (true, "b0dd59465a6ba0888f18406ad72c565b86bebcc8df55454cb2b34ef51b242385"), looks := false }, kinds := [], alts := [], laidByText := true, laidKinds := [.data], laidTests := true, laidLooks := .later }
def FnExactLogAddUptoCardSaid : Prop := Claim7.holds Tryd.pinned (.plain (OpenSpec.upto fnExactLogAddSpec)) fnExactLogAddUptoCard

/-- THE SECOND FORM's CARD OF 'laws.FnLogSeq'. -/
def fnLogSeqUptoCard : Claim7 := { stood := { row := fnLogSeqUptoRow, standIns := [], harness := (true, "b0dd59465a6ba0888f18406ad72c565b86bebcc8df55454cb2b34ef51b242385"), looks := false }, kinds := [], alts := [], laidByText := true, laidKinds := [.data], laidTests := true, laidLooks := .later }
def FnLogSeqUptoCardSaid : Prop := Claim7.holds Tryd.pinned (.plain (OpenSpec.upto fnLogSeqSpec)) fnLogSeqUptoCard

/-- THE SECOND FORM's CARD OF 'laws.FnLogGap'. -/
def fnLogGapUptoCard : Claim7 := { stood := { row := fnLogGapUptoRow, standIns := [], harness := (true, "b0dd59465a6ba0888f18406ad72c565b86bebcc8df55454cb2b34ef51b242385"), looks := false }, kinds := [], alts := [], laidByText := true, laidKinds := [.data], laidTests := true, laidLooks := .later }
def FnLogGapUptoCardSaid : Prop := Claim7.holds Tryd.pinned (.plain (OpenSpec.upto fnLogGapSpec)) fnLogGapUptoCard

/-- THE SECOND FORM's CARD OF 'laws.FnLogTwice'. -/
def fnLogTwiceUptoCard : Claim7 := { stood := { row := fnLogTwiceUptoRow, standIns := [], harness := (true, "b0dd59465a6ba0888f18406ad72c565b86bebcc8df55454cb2b34ef51b242385"), looks := false }, kinds := [], alts := [], laidByText := true, laidKinds := [.data], laidTests := true, laidLooks := .later }
def FnLogTwiceUptoCardSaid : Prop := Claim7.holds Tryd.pinned (.plain (OpenSpec.upto fnLogTwiceSpec)) fnLogTwiceUptoCard

/-- THE SECOND FORM's CARD OF 'laws.FnLogAdd'. -/
def fnLogAddUptoCard : Claim7 := { stood := { row := fnLogAddUptoRow, standIns := [], harness := (true, "b0dd59465a6ba0888f18406ad72c565b86bebcc8df55454cb2b34ef51b242385"), looks := false }, kinds := [], alts := [], laidByText := true, laidKinds := [.data], laidTests := true, laidLooks := .later }
def FnLogAddUptoCardSaid : Prop := Claim7.holds Tryd.pinned (.plain (OpenSpec.upto fnLogAddSpec)) fnLogAddUptoCard
end Rows
end Go.Proofs.YtlpfjabfhgfpmaaDoor
