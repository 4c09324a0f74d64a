/-
  DERIVED. GIVEN WITH THE SEED: THE CARDS: each row of YtaddlhebhiehgaaDoorRows.lean that lists a variable, with what it lists TIED to the program's text (the seventh form; the later family's looks); each row that meets fmt, with fmt's text TOLD by the authors' own Lean function (tested against real Go, not proved from fmt's source: count such statements apart). THE CARD IS WHAT COUNTS. Prove the row's statement (the work); the ties are given (YtaddlhebhiehgaaDoorTie.lean); close each card by the builder's one call (the guide's Derived/Test/ToyasCard.lean, 'card_holds'). Laid BY PROGRAM, IN A SANDBOX (cutbox-door.mjs). By AI agents, Wed Nov 11 2026. No macro, syntax, notation, axiom, sorry.
-/
import Derived.Test.YtaddlhebhiehgaaDoorRows
import GoSem.ClaimSeven
namespace Go.Proofs.YtaddlhebhiehgaaDoor
namespace Rows

/-- THE TIED CARD OF 'mistlaw07.ValueTwos'. -/
def valueTwosCard : Claim7 := { stood := { row := valueTwosRow, standIns := [], harness := (true, "05fedafc6445aab3f472910309602a6b1857f170fe210603f49d8632b5b9252a"), looks := true }, kinds := [], alts := [], laidByText := true, laidKinds := [.data, .data, .data, .sentinel, .sentinel], laidTests := true, laidLooks := .later }
def ValueTwosCardSaid : Prop := Claim7.holds Tryd.pinned (.plain (OpenSpec.ofChange valueTwosSpec)) valueTwosCard

/-- THE TIED CARD OF 'mistlaw07.ValueChooses'. -/
def valueChoosesCard : Claim7 := { stood := { row := valueChoosesRow, standIns := [], harness := (true, "05fedafc6445aab3f472910309602a6b1857f170fe210603f49d8632b5b9252a"), looks := true }, kinds := [], alts := [], laidByText := true, laidKinds := [.data, .data, .data, .sentinel, .sentinel], laidTests := true, laidLooks := .later }
def ValueChoosesCardSaid : Prop := Claim7.holds Tryd.pinned (.plain (OpenSpec.ofChange valueChoosesSpec)) valueChoosesCard

/-- THE TIED CARD OF 'mistlaw07.ValueTexts'. -/
def valueTextsCard : Claim7 := { stood := { row := valueTextsRow, standIns := [], harness := (true, "05fedafc6445aab3f472910309602a6b1857f170fe210603f49d8632b5b9252a"), looks := true }, kinds := [], alts := [], laidByText := true, laidKinds := [.data, .data, .data, .sentinel, .sentinel], laidTests := true, laidLooks := .later }
def ValueTextsCardSaid : Prop := Claim7.holds Tryd.pinned (.plain (OpenSpec.ofChange valueTextsSpec)) valueTextsCard

/-- THE TIED CARD OF 'mistlaw07.ValueOrders'. -/
def valueOrdersCard : Claim7 := { stood := { row := valueOrdersRow, standIns := [], harness := (true, "05fedafc6445aab3f472910309602a6b1857f170fe210603f49d8632b5b9252a"), looks := true }, kinds := [], alts := [], laidByText := true, laidKinds := [.data, .data, .data, .sentinel, .sentinel], laidTests := true, laidLooks := .later }
def ValueOrdersCardSaid : Prop := Claim7.holds Tryd.pinned (.plain (OpenSpec.ofChange valueOrdersSpec)) valueOrdersCard

/-- THE TIED CARD OF 'mistlaw07.ValueSpoils'. -/
def valueSpoilsCard : Claim7 := { stood := { row := valueSpoilsRow, standIns := [], harness := (true, "05fedafc6445aab3f472910309602a6b1857f170fe210603f49d8632b5b9252a"), looks := true }, kinds := [], alts := [], laidByText := true, laidKinds := [.data, .data, .data, .sentinel, .sentinel], laidTests := true, laidLooks := .later }
def ValueSpoilsCardSaid : Prop := Claim7.holds Tryd.pinned (.plain (OpenSpec.ofChange valueSpoilsSpec)) valueSpoilsCard

/-- THE TIED CARD OF 'mistlaw07.ValueDivides'. -/
def valueDividesCard : Claim7 := { stood := { row := valueDividesRow, standIns := [], harness := (true, "05fedafc6445aab3f472910309602a6b1857f170fe210603f49d8632b5b9252a"), looks := true }, kinds := [], alts := [], laidByText := true, laidKinds := [.data, .data, .data, .sentinel, .sentinel], laidTests := true, laidLooks := .later }
def ValueDividesCardSaid : Prop := Claim7.holds Tryd.pinned (.plain (OpenSpec.ofChange valueDividesSpec)) valueDividesCard

/-- THE TIED CARD OF 'mistlaw07.ValueSums'. -/
def valueSumsCard : Claim7 := { stood := { row := valueSumsRow, standIns := [], harness := (true, "05fedafc6445aab3f472910309602a6b1857f170fe210603f49d8632b5b9252a"), looks := true }, kinds := [], alts := [], laidByText := true, laidKinds := [.data, .data, .data, .sentinel, .sentinel], laidTests := true, laidLooks := .later }
def ValueSumsCardSaid : Prop := Claim7.holds Tryd.pinned (.plain (OpenSpec.ofChange valueSumsSpec)) valueSumsCard

/-- THE TIED CARD OF 'mistlaw07.ValueCompares'. -/
def valueComparesCard : Claim7 := { stood := { row := valueComparesRow, standIns := [], harness := (true, "05fedafc6445aab3f472910309602a6b1857f170fe210603f49d8632b5b9252a"), looks := true }, kinds := [], alts := [], laidByText := true, laidKinds := [.data, .data, .data, .sentinel, .sentinel], laidTests := true, laidLooks := .later }
def ValueComparesCardSaid : Prop := Claim7.holds Tryd.pinned (.plain (OpenSpec.ofChange valueComparesSpec)) valueComparesCard

/-- THE TIED CARD OF 'mistlaw07.ValueLogic'. -/
def valueLogicCard : Claim7 := { stood := { row := valueLogicRow, standIns := [], harness := (true, "05fedafc6445aab3f472910309602a6b1857f170fe210603f49d8632b5b9252a"), looks := true }, kinds := [], alts := [], laidByText := true, laidKinds := [.data, .data, .data, .sentinel, .sentinel], laidTests := true, laidLooks := .later }
def ValueLogicCardSaid : Prop := Claim7.holds Tryd.pinned (.plain (OpenSpec.ofChange valueLogicSpec)) valueLogicCard

/-- THE TIED CARD OF 'mistlaw07.ValueReads'. -/
def valueReadsCard : Claim7 := { stood := { row := valueReadsRow, standIns := [], harness := (true, "05fedafc6445aab3f472910309602a6b1857f170fe210603f49d8632b5b9252a"), looks := true }, kinds := [], alts := [], laidByText := true, laidKinds := [.data, .data, .data, .sentinel, .sentinel], laidTests := true, laidLooks := .later }
def ValueReadsCardSaid : Prop := Claim7.holds Tryd.pinned (.plain (OpenSpec.ofChange valueReadsSpec)) valueReadsCard

/-- THE TIED CARD OF 'mistlaw07.ValueOnes'. -/
def valueOnesCard : Claim7 := { stood := { row := valueOnesRow, standIns := [], harness := (true, "05fedafc6445aab3f472910309602a6b1857f170fe210603f49d8632b5b9252a"), looks := true }, kinds := [], alts := [], laidByText := true, laidKinds := [.data, .data, .data, .sentinel, .sentinel], laidTests := true, laidLooks := .later }
def ValueOnesCardSaid : Prop := Claim7.holds Tryd.pinned (.plain (OpenSpec.ofChange valueOnesSpec)) valueOnesCard

/-- THE SECOND FORM's CARD OF 'mistlaw07.ValueTwos'. -/
def valueTwosUptoCard : Claim7 := { stood := { row := valueTwosUptoRow, standIns := [], harness := (true, "05fedafc6445aab3f472910309602a6b1857f170fe210603f49d8632b5b9252a"), looks := true }, kinds := [], alts := [], laidByText := true, laidKinds := [.data, .data, .data, .sentinel, .sentinel], laidTests := true, laidLooks := .later }
def ValueTwosUptoCardSaid : Prop := Claim7.holds Tryd.pinned (.plain (OpenSpec.upto valueTwosSpec)) valueTwosUptoCard

/-- THE SECOND FORM's CARD OF 'mistlaw07.ValueChooses'. -/
def valueChoosesUptoCard : Claim7 := { stood := { row := valueChoosesUptoRow, standIns := [], harness := (true, "05fedafc6445aab3f472910309602a6b1857f170fe210603f49d8632b5b9252a"), looks := true }, kinds := [], alts := [], laidByText := true, laidKinds := [.data, .data, .data, .sentinel, .sentinel], laidTests := true, laidLooks := .later }
def ValueChoosesUptoCardSaid : Prop := Claim7.holds Tryd.pinned (.plain (OpenSpec.upto valueChoosesSpec)) valueChoosesUptoCard

/-- THE SECOND FORM's CARD OF 'mistlaw07.ValueTexts'. -/
def valueTextsUptoCard : Claim7 := { stood := { row := valueTextsUptoRow, standIns := [], harness := (true, "05fedafc6445aab3f472910309602a6b1857f170fe210603f49d8632b5b9252a"), looks := true }, kinds := [], alts := [], laidByText := true, laidKinds := [.data, .data, .data, .sentinel, .sentinel], laidTests := true, laidLooks := .later }
def ValueTextsUptoCardSaid : Prop := Claim7.holds Tryd.pinned (.plain (OpenSpec.upto valueTextsSpec)) valueTextsUptoCard

/-- THE SECOND FORM's CARD OF 'mistlaw07.ValueOrders'. -/
def valueOrdersUptoCard : Claim7 := { stood := { row := valueOrdersUptoRow, standIns := [], harness := (true, "05fedafc6445aab3f472910309602a6b1857f170fe210603f49d8632b5b9252a"), looks := true }, kinds := [], alts := [], laidByText := true, laidKinds := [.data, .data, .data, .sentinel, .sentinel], laidTests := true, laidLooks := .later }
def ValueOrdersUptoCardSaid : Prop := Claim7.holds Tryd.pinned (.plain (OpenSpec.upto valueOrdersSpec)) valueOrdersUptoCard

/-- THE SECOND FORM's CARD OF 'mistlaw07.ValueSpoils'. -/
def valueSpoilsUptoCard : Claim7 := { stood := { row := valueSpoilsUptoRow, standIns := [], harness := (true, "05fedafc6445aab3f472910309602a6b1857f170fe210603f49d8632b5b9252a"), looks := true }, kinds := [], alts := [], laidByText := true, laidKinds := [.data, .data, .data, .sentinel, .sentinel], laidTests := true, laidLooks := .later }
def ValueSpoilsUptoCardSaid : Prop := Claim7.holds Tryd.pinned (.plain (OpenSpec.upto valueSpoilsSpec)) valueSpoilsUptoCard

/-- THE SECOND FORM's CARD OF 'mistlaw07.ValueDivides'. -/
def valueDividesUptoCard : Claim7 := { stood := { row := valueDividesUptoRow, standIns := [], harness := (true, "05fedafc6445aab3f472910309602a6b1857f170fe210603f49d8632b5b9252a"), looks := true }, kinds := [], alts := [], laidByText := true, laidKinds := [.data, .data, .data, .sentinel, .sentinel], laidTests := true, laidLooks := .later }
def ValueDividesUptoCardSaid : Prop := Claim7.holds Tryd.pinned (.plain (OpenSpec.upto valueDividesSpec)) valueDividesUptoCard

/-- THE SECOND FORM's CARD OF 'mistlaw07.ValueSums'. -/
def valueSumsUptoCard : Claim7 := { stood := { row := valueSumsUptoRow, standIns := [], harness := (true, "05fedafc6445aab3f472910309602a6b1857f170fe210603f49d8632b5b9252a"), looks := true }, kinds := [], alts := [], laidByText := true, laidKinds := [.data, .data, .data, .sentinel, .sentinel], laidTests := true, laidLooks := .later }
def ValueSumsUptoCardSaid : Prop := Claim7.holds Tryd.pinned (.plain (OpenSpec.upto valueSumsSpec)) valueSumsUptoCard

/-- THE SECOND FORM's CARD OF 'mistlaw07.ValueCompares'. -/
def valueComparesUptoCard : Claim7 := { stood := { row := valueComparesUptoRow, standIns := [], harness := (true, "05fedafc6445aab3f472910309602a6b1857f170fe210603f49d8632b5b9252a"), looks := true }, kinds := [], alts := [], laidByText := true, laidKinds := [.data, .data, .data, .sentinel, .sentinel], laidTests := true, laidLooks := .later }
def ValueComparesUptoCardSaid : Prop := Claim7.holds Tryd.pinned (.plain (OpenSpec.upto valueComparesSpec)) valueComparesUptoCard

/-- THE SECOND FORM's CARD OF 'mistlaw07.ValueLogic'. -/
def valueLogicUptoCard : Claim7 := { stood := { row := valueLogicUptoRow, standIns := [], harness := (true, "05fedafc6445aab3f472910309602a6b1857f170fe210603f49d8632b5b9252a"), looks := true }, kinds := [], alts := [], laidByText := true, laidKinds := [.data, .data, .data, .sentinel, .sentinel], laidTests := true, laidLooks := .later }
def ValueLogicUptoCardSaid : Prop := Claim7.holds Tryd.pinned (.plain (OpenSpec.upto valueLogicSpec)) valueLogicUptoCard

/-- THE SECOND FORM's CARD OF 'mistlaw07.ValueReads'. -/
def valueReadsUptoCard : Claim7 := { stood := { row := valueReadsUptoRow, standIns := [], harness := (true, "05fedafc6445aab3f472910309602a6b1857f170fe210603f49d8632b5b9252a"), looks := true }, kinds := [], alts := [], laidByText := true, laidKinds := [.data, .data, .data, .sentinel, .sentinel], laidTests := true, laidLooks := .later }
def ValueReadsUptoCardSaid : Prop := Claim7.holds Tryd.pinned (.plain (OpenSpec.upto valueReadsSpec)) valueReadsUptoCard

/-- THE SECOND FORM's CARD OF 'mistlaw07.ValueOnes'. -/
def valueOnesUptoCard : Claim7 := { stood := { row := valueOnesUptoRow, standIns := [], harness := (true, "05fedafc6445aab3f472910309602a6b1857f170fe210603f49d8632b5b9252a"), looks := true }, kinds := [], alts := [], laidByText := true, laidKinds := [.data, .data, .data, .sentinel, .sentinel], laidTests := true, laidLooks := .later }
def ValueOnesUptoCardSaid : Prop := Claim7.holds Tryd.pinned (.plain (OpenSpec.upto valueOnesSpec)) valueOnesUptoCard
end Rows
end Go.Proofs.YtaddlhebhiehgaaDoor
