/-
  DERIVED. GIVEN WITH THE SEED: THE CARDS: each row of YtaajcbbbmpdcnaaDoorRows.lean that lists a variable, with what it lists TIED to the program's text (the seventh form; the later family's looks); each row that meets fmt, with fmt's text TOLD by the authors' own Lean function (tested against real Go, not proved from fmt's source: count such statements apart). THE CARD IS WHAT COUNTS. Prove the row's statement (the work); the ties are given (YtaajcbbbmpdcnaaDoorTie.lean); close each card by the builder's one call (the guide's Derived/Test/ToyasCard.lean, 'card_holds'). Laid BY PROGRAM, IN A SANDBOX (cutbox-door.mjs). By AI agents, Wed Nov 11 2026. No macro, syntax, notation, axiom, sorry.
-/
import Derived.Test.YtaajcbbbmpdcnaaDoorRows
import GoSem.ClaimSeven
namespace Go.Proofs.YtaajcbbbmpdcnaaDoor
namespace Rows

/-- THE TIED CARD OF 'laws.FnExactTreeOk'. -/
def fnExactTreeOkCard : Claim7 := { stood := { row := fnExactTreeOkRow, standIns := [], harness := (true, "23d977ee05e58ea87db326604f4ad4ed5029b891e3a7cffea5a4fa9bb94bc5a4"), looks := true }, kinds := [], alts := [], laidByText := true, laidKinds := [.data], laidTests := true, laidLooks := .later }
def FnExactTreeOkCardSaid : Prop := Claim7.holds Tryd.pinned (.plain (OpenSpec.ofChange fnExactTreeOkSpec)) fnExactTreeOkCard

/-- THE TIED CARD OF 'laws.FnExactTreeUnder'. -/
def fnExactTreeUnderCard : Claim7 := { stood := { row := fnExactTreeUnderRow, standIns := [], harness := (true, "23d977ee05e58ea87db326604f4ad4ed5029b891e3a7cffea5a4fa9bb94bc5a4"), looks := true }, kinds := [], alts := [], laidByText := true, laidKinds := [.data], laidTests := true, laidLooks := .later }
def FnExactTreeUnderCardSaid : Prop := Claim7.holds Tryd.pinned (.plain (OpenSpec.ofChange fnExactTreeUnderSpec)) fnExactTreeUnderCard

/-- THE TIED CARD OF 'laws.FnExactTreeUp'. -/
def fnExactTreeUpCard : Claim7 := { stood := { row := fnExactTreeUpRow, standIns := [], harness := (true, "23d977ee05e58ea87db326604f4ad4ed5029b891e3a7cffea5a4fa9bb94bc5a4"), looks := true }, kinds := [], alts := [], laidByText := true, laidKinds := [.data], laidTests := true, laidLooks := .later }
def FnExactTreeUpCardSaid : Prop := Claim7.holds Tryd.pinned (.plain (OpenSpec.ofChange fnExactTreeUpSpec)) fnExactTreeUpCard

/-- THE TIED CARD OF 'laws.FnExactTreeAhead'. -/
def fnExactTreeAheadCard : Claim7 := { stood := { row := fnExactTreeAheadRow, standIns := [], harness := (true, "23d977ee05e58ea87db326604f4ad4ed5029b891e3a7cffea5a4fa9bb94bc5a4"), looks := true }, kinds := [], alts := [], laidByText := true, laidKinds := [.data], laidTests := true, laidLooks := .later }
def FnExactTreeAheadCardSaid : Prop := Claim7.holds Tryd.pinned (.plain (OpenSpec.ofChange fnExactTreeAheadSpec)) fnExactTreeAheadCard

/-- THE TIED CARD OF 'laws.FnExactTreeKids'. -/
def fnExactTreeKidsCard : Claim7 := { stood := { row := fnExactTreeKidsRow, standIns := [], harness := (true, "23d977ee05e58ea87db326604f4ad4ed5029b891e3a7cffea5a4fa9bb94bc5a4"), looks := true }, kinds := [], alts := [], laidByText := true, laidKinds := [.data], laidTests := true, laidLooks := .later }
def FnExactTreeKidsCardSaid : Prop := Claim7.holds Tryd.pinned (.plain (OpenSpec.ofChange fnExactTreeKidsSpec)) fnExactTreeKidsCard

/-- THE TIED CARD OF 'laws.FnExactKeyGone'. -/
def fnExactKeyGoneCard : Claim7 := { stood := { row := fnExactKeyGoneRow, standIns := [], harness := (true, "23d977ee05e58ea87db326604f4ad4ed5029b891e3a7cffea5a4fa9bb94bc5a4"), looks := true }, kinds := [], alts := [], laidByText := true, laidKinds := [.data], laidTests := true, laidLooks := .later }
def FnExactKeyGoneCardSaid : Prop := Claim7.holds Tryd.pinned (.plain (OpenSpec.ofChange fnExactKeyGoneSpec)) fnExactKeyGoneCard

/-- THE TIED CARD OF 'laws.FnTreeForm'. -/
def fnTreeFormCard : Claim7 := { stood := { row := fnTreeFormRow, standIns := [], harness := (true, "23d977ee05e58ea87db326604f4ad4ed5029b891e3a7cffea5a4fa9bb94bc5a4"), looks := true }, kinds := [], alts := [], laidByText := true, laidKinds := [.data], laidTests := true, laidLooks := .later }
def FnTreeFormCardSaid : Prop := Claim7.holds Tryd.pinned (.plain (OpenSpec.ofChange fnTreeFormSpec)) fnTreeFormCard

/-- THE TIED CARD OF 'laws.FnExactKeyOut'. -/
def fnExactKeyOutCard : Claim7 := { stood := { row := fnExactKeyOutRow, standIns := [], harness := (true, "23d977ee05e58ea87db326604f4ad4ed5029b891e3a7cffea5a4fa9bb94bc5a4"), looks := true }, kinds := [], alts := [], laidByText := true, laidKinds := [.data], laidTests := true, laidLooks := .later }
def FnExactKeyOutCardSaid : Prop := Claim7.holds Tryd.pinned (.plain (OpenSpec.ofChange fnExactKeyOutSpec)) fnExactKeyOutCard

/-- THE TIED CARD OF 'laws.FnDeep'. -/
def fnDeepCard : Claim7 := { stood := { row := fnDeepRow, standIns := [], harness := (true, "23d977ee05e58ea87db326604f4ad4ed5029b891e3a7cffea5a4fa9bb94bc5a4"), looks := true }, kinds := [], alts := [], laidByText := true, laidKinds := [.data], laidTests := true, laidLooks := .later }
def FnDeepCardSaid : Prop := Claim7.holds Tryd.pinned (.plain (OpenSpec.ofChange fnDeepSpec)) fnDeepCard

/-- THE TIED CARD OF 'laws.FnUnderThree'. -/
def fnUnderThreeCard : Claim7 := { stood := { row := fnUnderThreeRow, standIns := [], harness := (true, "23d977ee05e58ea87db326604f4ad4ed5029b891e3a7cffea5a4fa9bb94bc5a4"), looks := true }, kinds := [], alts := [], laidByText := true, laidKinds := [.data], laidTests := true, laidLooks := .later }
def FnUnderThreeCardSaid : Prop := Claim7.holds Tryd.pinned (.plain (OpenSpec.ofChange fnUnderThreeSpec)) fnUnderThreeCard

/-- THE TIED CARD OF 'laws.FnExactKeyIn'. -/
def fnExactKeyInCard : Claim7 := { stood := { row := fnExactKeyInRow, standIns := [], harness := (true, "23d977ee05e58ea87db326604f4ad4ed5029b891e3a7cffea5a4fa9bb94bc5a4"), looks := true }, kinds := [], alts := [], laidByText := true, laidKinds := [.data], laidTests := true, laidLooks := .later }
def FnExactKeyInCardSaid : Prop := Claim7.holds Tryd.pinned (.plain (OpenSpec.ofChange fnExactKeyInSpec)) fnExactKeyInCard

/-- THE TIED CARD OF 'laws.FnTreeBelow'. -/
def fnTreeBelowCard : Claim7 := { stood := { row := fnTreeBelowRow, standIns := [], harness := (true, "23d977ee05e58ea87db326604f4ad4ed5029b891e3a7cffea5a4fa9bb94bc5a4"), looks := true }, kinds := [], alts := [], laidByText := true, laidKinds := [.data], laidTests := true, laidLooks := .later }
def FnTreeBelowCardSaid : Prop := Claim7.holds Tryd.pinned (.plain (OpenSpec.ofChange fnTreeBelowSpec)) fnTreeBelowCard

/-- THE TIED CARD OF 'laws.FnKidsAll'. -/
def fnKidsAllCard : Claim7 := { stood := { row := fnKidsAllRow, standIns := [], harness := (true, "23d977ee05e58ea87db326604f4ad4ed5029b891e3a7cffea5a4fa9bb94bc5a4"), looks := true }, kinds := [], alts := [], laidByText := true, laidKinds := [.data], laidTests := true, laidLooks := .later }
def FnKidsAllCardSaid : Prop := Claim7.holds Tryd.pinned (.plain (OpenSpec.ofChange fnKidsAllSpec)) fnKidsAllCard

/-- THE TIED CARD OF 'laws.FnExactOpWhere'. -/
def fnExactOpWhereCard : Claim7 := { stood := { row := fnExactOpWhereRow, standIns := [], harness := (true, "23d977ee05e58ea87db326604f4ad4ed5029b891e3a7cffea5a4fa9bb94bc5a4"), looks := true }, kinds := [], alts := [], laidByText := true, laidKinds := [.data], laidTests := true, laidLooks := .later }
def FnExactOpWhereCardSaid : Prop := Claim7.holds Tryd.pinned (.plain (OpenSpec.ofChange fnExactOpWhereSpec)) fnExactOpWhereCard

/-- THE TIED CARD OF 'laws.FnTreeUnder'. -/
def fnTreeUnderCard : Claim7 := { stood := { row := fnTreeUnderRow, standIns := [], harness := (true, "23d977ee05e58ea87db326604f4ad4ed5029b891e3a7cffea5a4fa9bb94bc5a4"), looks := true }, kinds := [], alts := [], laidByText := true, laidKinds := [.data], laidTests := true, laidLooks := .later }
def FnTreeUnderCardSaid : Prop := Claim7.holds Tryd.pinned (.plain (OpenSpec.ofChange fnTreeUnderSpec)) fnTreeUnderCard

/-- THE TIED CARD OF 'laws.FnTreeUp'. -/
def fnTreeUpCard : Claim7 := { stood := { row := fnTreeUpRow, standIns := [], harness := (true, "23d977ee05e58ea87db326604f4ad4ed5029b891e3a7cffea5a4fa9bb94bc5a4"), looks := true }, kinds := [], alts := [], laidByText := true, laidKinds := [.data], laidTests := true, laidLooks := .later }
def FnTreeUpCardSaid : Prop := Claim7.holds Tryd.pinned (.plain (OpenSpec.ofChange fnTreeUpSpec)) fnTreeUpCard

/-- THE TIED CARD OF 'laws.FnAhead'. -/
def fnAheadCard : Claim7 := { stood := { row := fnAheadRow, standIns := [], harness := (true, "23d977ee05e58ea87db326604f4ad4ed5029b891e3a7cffea5a4fa9bb94bc5a4"), looks := true }, kinds := [], alts := [], laidByText := true, laidKinds := [.data], laidTests := true, laidLooks := .later }
def FnAheadCardSaid : Prop := Claim7.holds Tryd.pinned (.plain (OpenSpec.ofChange fnAheadSpec)) fnAheadCard

/-- THE TIED CARD OF 'laws.FnTreeKids'. -/
def fnTreeKidsCard : Claim7 := { stood := { row := fnTreeKidsRow, standIns := [], harness := (true, "23d977ee05e58ea87db326604f4ad4ed5029b891e3a7cffea5a4fa9bb94bc5a4"), looks := true }, kinds := [], alts := [], laidByText := true, laidKinds := [.data], laidTests := true, laidLooks := .later }
def FnTreeKidsCardSaid : Prop := Claim7.holds Tryd.pinned (.plain (OpenSpec.ofChange fnTreeKidsSpec)) fnTreeKidsCard

/-- THE TIED CARD OF 'laws.FnWhere'. -/
def fnWhereCard : Claim7 := { stood := { row := fnWhereRow, standIns := [], harness := (true, "23d977ee05e58ea87db326604f4ad4ed5029b891e3a7cffea5a4fa9bb94bc5a4"), looks := true }, kinds := [], alts := [], laidByText := true, laidKinds := [.data], laidTests := true, laidLooks := .later }
def FnWhereCardSaid : Prop := Claim7.holds Tryd.pinned (.plain (OpenSpec.ofChange fnWhereSpec)) fnWhereCard

/-- THE SECOND FORM's CARD OF 'laws.FnExactTreeOk'. -/
def fnExactTreeOkUptoCard : Claim7 := { stood := { row := fnExactTreeOkUptoRow, standIns := [], harness := (true, "23d977ee05e58ea87db326604f4ad4ed5029b891e3a7cffea5a4fa9bb94bc5a4"), looks := true }, kinds := [], alts := [], laidByText := true, laidKinds := [.data], laidTests := true, laidLooks := .later }
def FnExactTreeOkUptoCardSaid : Prop := Claim7.holds Tryd.pinned (.plain (OpenSpec.upto fnExactTreeOkSpec)) fnExactTreeOkUptoCard

/-- THE SECOND FORM's CARD OF 'laws.FnExactTreeUnder'. -/
def fnExactTreeUnderUptoCard : Claim7 := { stood := { row := fnExactTreeUnderUptoRow, standIns := [], harness := (true, "23d977ee05e58ea87db326604f4ad4ed5029b891e3a7cffea5a4fa9bb94bc5a4"), looks := true }, kinds := [], alts := [], laidByText := true, laidKinds := [.data], laidTests := true, laidLooks := .later }
def FnExactTreeUnderUptoCardSaid : Prop := Claim7.holds Tryd.pinned (.plain (OpenSpec.upto fnExactTreeUnderSpec)) fnExactTreeUnderUptoCard

/-- THE SECOND FORM's CARD OF 'laws.FnExactTreeUp'. -/
def fnExactTreeUpUptoCard : Claim7 := { stood := { row := fnExactTreeUpUptoRow, standIns := [], harness := (true, "23d977ee05e58ea87db326604f4ad4ed5029b891e3a7cffea5a4fa9bb94bc5a4"), looks := true }, kinds := [], alts := [], laidByText := true, laidKinds := [.data], laidTests := true, laidLooks := .later }
def FnExactTreeUpUptoCardSaid : Prop := Claim7.holds Tryd.pinned (.plain (OpenSpec.upto fnExactTreeUpSpec)) fnExactTreeUpUptoCard

/-- THE SECOND FORM's CARD OF 'laws.FnExactTreeAhead'. -/
def fnExactTreeAheadUptoCard : Claim7 := { stood := { row := fnExactTreeAheadUptoRow, standIns := [], harness := (true, "23d977ee05e58ea87db326604f4ad4ed5029b891e3a7cffea5a4fa9bb94bc5a4"), looks := true }, kinds := [], alts := [], laidByText := true, laidKinds := [.data], laidTests := true, laidLooks := .later }
def FnExactTreeAheadUptoCardSaid : Prop := Claim7.holds Tryd.pinned (.plain (OpenSpec.upto fnExactTreeAheadSpec)) fnExactTreeAheadUptoCard

/-- THE SECOND FORM's CARD OF 'laws.FnExactTreeKids'. -/
def fnExactTreeKidsUptoCard : Claim7 := { stood := { row := fnExactTreeKidsUptoRow, standIns := [], harness := (true, "23d977ee05e58ea87db326604f4ad4ed5029b891e3a7cffea5a4fa9bb94bc5a4"), looks := true }, kinds := [], alts := [], laidByText := true, laidKinds := [.data], laidTests := true, laidLooks := .later }
def FnExactTreeKidsUptoCardSaid : Prop := Claim7.holds Tryd.pinned (.plain (OpenSpec.upto fnExactTreeKidsSpec)) fnExactTreeKidsUptoCard

/-- THE SECOND FORM's CARD OF 'laws.FnExactKeyGone'. -/
def fnExactKeyGoneUptoCard : Claim7 := { stood := { row := fnExactKeyGoneUptoRow, standIns := [], harness := (true, "23d977ee05e58ea87db326604f4ad4ed5029b891e3a7cffea5a4fa9bb94bc5a4"), looks := true }, kinds := [], alts := [], laidByText := true, laidKinds := [.data], laidTests := true, laidLooks := .later }
def FnExactKeyGoneUptoCardSaid : Prop := Claim7.holds Tryd.pinned (.plain (OpenSpec.upto fnExactKeyGoneSpec)) fnExactKeyGoneUptoCard

/-- THE SECOND FORM's CARD OF 'laws.FnTreeForm'. -/
def fnTreeFormUptoCard : Claim7 := { stood := { row := fnTreeFormUptoRow, standIns := [], harness := (true, "23d977ee05e58ea87db326604f4ad4ed5029b891e3a7cffea5a4fa9bb94bc5a4"), looks := true }, kinds := [], alts := [], laidByText := true, laidKinds := [.data], laidTests := true, laidLooks := .later }
def FnTreeFormUptoCardSaid : Prop := Claim7.holds Tryd.pinned (.plain (OpenSpec.upto fnTreeFormSpec)) fnTreeFormUptoCard

/-- THE SECOND FORM's CARD OF 'laws.FnExactKeyOut'. -/
def fnExactKeyOutUptoCard : Claim7 := { stood := { row := fnExactKeyOutUptoRow, standIns := [], harness := (true, "23d977ee05e58ea87db326604f4ad4ed5029b891e3a7cffea5a4fa9bb94bc5a4"), looks := true }, kinds := [], alts := [], laidByText := true, laidKinds := [.data], laidTests := true, laidLooks := .later }
def FnExactKeyOutUptoCardSaid : Prop := Claim7.holds Tryd.pinned (.plain (OpenSpec.upto fnExactKeyOutSpec)) fnExactKeyOutUptoCard

/-- THE SECOND FORM's CARD OF 'laws.FnDeep'. -/
def fnDeepUptoCard : Claim7 := { stood := { row := fnDeepUptoRow, standIns := [], harness := (true, "23d977ee05e58ea87db326604f4ad4ed5029b891e3a7cffea5a4fa9bb94bc5a4"), looks := true }, kinds := [], alts := [], laidByText := true, laidKinds := [.data], laidTests := true, laidLooks := .later }
def FnDeepUptoCardSaid : Prop := Claim7.holds Tryd.pinned (.plain (OpenSpec.upto fnDeepSpec)) fnDeepUptoCard

/-- THE SECOND FORM's CARD OF 'laws.FnUnderThree'. -/
def fnUnderThreeUptoCard : Claim7 := { stood := { row := fnUnderThreeUptoRow, standIns := [], harness := (true, "23d977ee05e58ea87db326604f4ad4ed5029b891e3a7cffea5a4fa9bb94bc5a4"), looks := true }, kinds := [], alts := [], laidByText := true, laidKinds := [.data], laidTests := true, laidLooks := .later }
def FnUnderThreeUptoCardSaid : Prop := Claim7.holds Tryd.pinned (.plain (OpenSpec.upto fnUnderThreeSpec)) fnUnderThreeUptoCard

/-- THE SECOND FORM's CARD OF 'laws.FnExactKeyIn'. -/
def fnExactKeyInUptoCard : Claim7 := { stood := { row := fnExactKeyInUptoRow, standIns := [], harness := (true, "23d977ee05e58ea87db326604f4ad4ed5029b891e3a7cffea5a4fa9bb94bc5a4"), looks := true }, kinds := [], alts := [], laidByText := true, laidKinds := [.data], laidTests := true, laidLooks := .later }
def FnExactKeyInUptoCardSaid : Prop := Claim7.holds Tryd.pinned (.plain (OpenSpec.upto fnExactKeyInSpec)) fnExactKeyInUptoCard

/-- THE SECOND FORM's CARD OF 'laws.FnTreeBelow'. -/
def fnTreeBelowUptoCard : Claim7 := { stood := { row := fnTreeBelowUptoRow, standIns := [], harness := (true, "23d977ee05e58ea87db326604f4ad4ed5029b891e3a7cffea5a4fa9bb94bc5a4"), looks := true }, kinds := [], alts := [], laidByText := true, laidKinds := [.data], laidTests := true, laidLooks := .later }
def FnTreeBelowUptoCardSaid : Prop := Claim7.holds Tryd.pinned (.plain (OpenSpec.upto fnTreeBelowSpec)) fnTreeBelowUptoCard

/-- THE SECOND FORM's CARD OF 'laws.FnKidsAll'. -/
def fnKidsAllUptoCard : Claim7 := { stood := { row := fnKidsAllUptoRow, standIns := [], harness := (true, "23d977ee05e58ea87db326604f4ad4ed5029b891e3a7cffea5a4fa9bb94bc5a4"), looks := true }, kinds := [], alts := [], laidByText := true, laidKinds := [.data], laidTests := true, laidLooks := .later }
def FnKidsAllUptoCardSaid : Prop := Claim7.holds Tryd.pinned (.plain (OpenSpec.upto fnKidsAllSpec)) fnKidsAllUptoCard

/-- THE SECOND FORM's CARD OF 'laws.FnExactOpWhere'. -/
def fnExactOpWhereUptoCard : Claim7 := { stood := { row := fnExactOpWhereUptoRow, standIns := [], harness := (true, "23d977ee05e58ea87db326604f4ad4ed5029b891e3a7cffea5a4fa9bb94bc5a4"), looks := true }, kinds := [], alts := [], laidByText := true, laidKinds := [.data], laidTests := true, laidLooks := .later }
def FnExactOpWhereUptoCardSaid : Prop := Claim7.holds Tryd.pinned (.plain (OpenSpec.upto fnExactOpWhereSpec)) fnExactOpWhereUptoCard

/-- THE SECOND FORM's CARD OF 'laws.FnTreeUnder'. -/
def fnTreeUnderUptoCard : Claim7 := { stood := { row := fnTreeUnderUptoRow, standIns := [], harness := (true, "23d977ee05e58ea87db326604f4ad4ed5029b891e3a7cffea5a4fa9bb94bc5a4"), looks := true }, kinds := [], alts := [], laidByText := true, laidKinds := [.data], laidTests := true, laidLooks := .later }
def FnTreeUnderUptoCardSaid : Prop := Claim7.holds Tryd.pinned (.plain (OpenSpec.upto fnTreeUnderSpec)) fnTreeUnderUptoCard

/-- THE SECOND FORM's CARD OF 'laws.FnTreeUp'. -/
def fnTreeUpUptoCard : Claim7 := { stood := { row := fnTreeUpUptoRow, standIns := [], harness := (true, "23d977ee05e58ea87db326604f4ad4ed5029b891e3a7cffea5a4fa9bb94bc5a4"), looks := true }, kinds := [], alts := [], laidByText := true, laidKinds := [.data], laidTests := true, laidLooks := .later }
def FnTreeUpUptoCardSaid : Prop := Claim7.holds Tryd.pinned (.plain (OpenSpec.upto fnTreeUpSpec)) fnTreeUpUptoCard

/-- THE SECOND FORM's CARD OF 'laws.FnAhead'. -/
def fnAheadUptoCard : Claim7 := { stood := { row := fnAheadUptoRow, standIns := [], harness := (true, "23d977ee05e58ea87db326604f4ad4ed5029b891e3a7cffea5a4fa9bb94bc5a4"), looks := true }, kinds := [], alts := [], laidByText := true, laidKinds := [.data], laidTests := true, laidLooks := .later }
def FnAheadUptoCardSaid : Prop := Claim7.holds Tryd.pinned (.plain (OpenSpec.upto fnAheadSpec)) fnAheadUptoCard

/-- THE SECOND FORM's CARD OF 'laws.FnTreeKids'. -/
def fnTreeKidsUptoCard : Claim7 := { stood := { row := fnTreeKidsUptoRow, standIns := [], harness := (true, "23d977ee05e58ea87db326604f4ad4ed5029b891e3a7cffea5a4fa9bb94bc5a4"), looks := true }, kinds := [], alts := [], laidByText := true, laidKinds := [.data], laidTests := true, laidLooks := .later }
def FnTreeKidsUptoCardSaid : Prop := Claim7.holds Tryd.pinned (.plain (OpenSpec.upto fnTreeKidsSpec)) fnTreeKidsUptoCard

/-- THE SECOND FORM's CARD OF 'laws.FnWhere'. -/
def fnWhereUptoCard : Claim7 := { stood := { row := fnWhereUptoRow, standIns := [], harness := (true, "23d977ee05e58ea87db326604f4ad4ed5029b891e3a7cffea5a4fa9bb94bc5a4"), looks := true }, kinds := [], alts := [], laidByText := true, laidKinds := [.data], laidTests := true, laidLooks := .later }
def FnWhereUptoCardSaid : Prop := Claim7.holds Tryd.pinned (.plain (OpenSpec.upto fnWhereSpec)) fnWhereUptoCard
end Rows
end Go.Proofs.YtaajcbbbmpdcnaaDoor
