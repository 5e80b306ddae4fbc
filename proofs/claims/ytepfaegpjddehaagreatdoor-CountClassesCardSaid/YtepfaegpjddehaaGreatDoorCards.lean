/-
  DERIVED. GIVEN WITH THE SEED: THE CARDS: each row of YtepfaegpjddehaaGreatDoorRows.lean that lists a variable, with what it lists TIED to the program's text (the seventh form; the later family's looks); each row that meets fmt, with fmt's text TOLD by the authors' own Lean function (tested against real Go, not proved from fmt's source: count such statements apart). THE CARD IS WHAT COUNTS. Prove the row's statement (the work); the ties are given (YtepfaegpjddehaaGreatDoorTie.lean); close each card by the builder's one call (the guide's Derived/Test/ToyasCard.lean, 'card_holds'). Laid BY PROGRAM, IN A SANDBOX (cutbox-door.mjs). By AI agents, Wed Nov 11 2026. No macro, syntax, notation, axiom, sorry.
-/
import Derived.Test.YtepfaegpjddehaaGreatDoorRows
import GoSem.ClaimSeven
namespace Go.Proofs.YtepfaegpjddehaaGreatDoor
namespace Rows

/-- THE TIED CARD OF 'talismanlaw07.CountSets'. -/
def countSetsCard : Claim7 := { stood := { row := countSetsRow, standIns := [], harness := (true, "2fc464bbbf6b3a463d4eab77d903c5902ac939b6355f716b1a2034aeac3b7dac"), looks := false }, kinds := [], alts := [], laidByText := true, laidKinds := [.data, .data, .data], laidTests := true, laidLooks := .later }
def CountSetsCardSaid : Prop := Claim7.holds Tryz.pinned (.plain (OpenSpec.ofChange countSetsSpec)) countSetsCard

/-- THE TIED CARD OF 'talismanlaw07.CountBounds'. -/
def countBoundsCard : Claim7 := { stood := { row := countBoundsRow, standIns := [], harness := (true, "2fc464bbbf6b3a463d4eab77d903c5902ac939b6355f716b1a2034aeac3b7dac"), looks := false }, kinds := [], alts := [], laidByText := true, laidKinds := [.data, .data, .data], laidTests := true, laidLooks := .later }
def CountBoundsCardSaid : Prop := Claim7.holds Tryz.pinned (.plain (OpenSpec.ofChange countBoundsSpec)) countBoundsCard

/-- THE TIED CARD OF 'talismanlaw07.CountBounded'. -/
def countBoundedCard : Claim7 := { stood := { row := countBoundedRow, standIns := [], harness := (true, "2fc464bbbf6b3a463d4eab77d903c5902ac939b6355f716b1a2034aeac3b7dac"), looks := false }, kinds := [], alts := [], laidByText := true, laidKinds := [.data, .data, .data], laidTests := true, laidLooks := .later }
def CountBoundedCardSaid : Prop := Claim7.holds Tryz.pinned (.plain (OpenSpec.ofChange countBoundedSpec)) countBoundedCard

/-- THE TIED CARD OF 'talismanlaw07.CountHalves'. -/
def countHalvesCard : Claim7 := { stood := { row := countHalvesRow, standIns := [], harness := (true, "2fc464bbbf6b3a463d4eab77d903c5902ac939b6355f716b1a2034aeac3b7dac"), looks := false }, kinds := [], alts := [], laidByText := true, laidKinds := [.data, .data, .data], laidTests := true, laidLooks := .later }
def CountHalvesCardSaid : Prop := Claim7.holds Tryz.pinned (.plain (OpenSpec.ofChange countHalvesSpec)) countHalvesCard

/-- THE TIED CARD OF 'talismanlaw07.CountKeys'. -/
def countKeysCard : Claim7 := { stood := { row := countKeysRow, standIns := [], harness := (true, "2fc464bbbf6b3a463d4eab77d903c5902ac939b6355f716b1a2034aeac3b7dac"), looks := false }, kinds := [], alts := [], laidByText := true, laidKinds := [.data, .data, .data], laidTests := true, laidLooks := .later }
def CountKeysCardSaid : Prop := Claim7.holds Tryz.pinned (.plain (OpenSpec.ofChange countKeysSpec)) countKeysCard

/-- THE TIED CARD OF 'talismanlaw07.CountAntimagic'. -/
def countAntimagicCard : Claim7 := { stood := { row := countAntimagicRow, standIns := [], harness := (true, "2fc464bbbf6b3a463d4eab77d903c5902ac939b6355f716b1a2034aeac3b7dac"), looks := false }, kinds := [], alts := [], laidByText := true, laidKinds := [.data, .data, .data], laidTests := true, laidLooks := .later }
def CountAntimagicCardSaid : Prop := Claim7.holds Tryz.pinned (.plain (OpenSpec.ofChange countAntimagicSpec)) countAntimagicCard

/-- THE TIED CARD OF 'talismanlaw07.CountMeets'. -/
def countMeetsCard : Claim7 := { stood := { row := countMeetsRow, standIns := [], harness := (true, "2fc464bbbf6b3a463d4eab77d903c5902ac939b6355f716b1a2034aeac3b7dac"), looks := false }, kinds := [], alts := [], laidByText := true, laidKinds := [.data, .data, .data], laidTests := true, laidLooks := .later }
def CountMeetsCardSaid : Prop := Claim7.holds Tryz.pinned (.plain (OpenSpec.ofChange countMeetsSpec)) countMeetsCard

/-- THE TIED CARD OF 'talismanlaw07.CountKeyed'. -/
def countKeyedCard : Claim7 := { stood := { row := countKeyedRow, standIns := [], harness := (true, "2fc464bbbf6b3a463d4eab77d903c5902ac939b6355f716b1a2034aeac3b7dac"), looks := false }, kinds := [], alts := [], laidByText := true, laidKinds := [.data, .data, .data], laidTests := true, laidLooks := .later }
def CountKeyedCardSaid : Prop := Claim7.holds Tryz.pinned (.plain (OpenSpec.ofChange countKeyedSpec)) countKeyedCard

/-- THE TIED CARD OF 'talismanlaw07.CountFillings'. -/
def countFillingsCard : Claim7 := { stood := { row := countFillingsRow, standIns := [], harness := (true, "2fc464bbbf6b3a463d4eab77d903c5902ac939b6355f716b1a2034aeac3b7dac"), looks := false }, kinds := [], alts := [], laidByText := true, laidKinds := [.data, .data, .data], laidTests := true, laidLooks := .later }
def CountFillingsCardSaid : Prop := Claim7.holds Tryz.pinned (.plain (OpenSpec.ofChange countFillingsSpec)) countFillingsCard

/-- THE TIED CARD OF 'talismanlaw07.CountClasses'. -/
def countClassesCard : Claim7 := { stood := { row := countClassesRow, standIns := [], harness := (true, "2fc464bbbf6b3a463d4eab77d903c5902ac939b6355f716b1a2034aeac3b7dac"), looks := false }, kinds := [], alts := [], laidByText := true, laidKinds := [.data, .data, .data], laidTests := true, laidLooks := .later }
def CountClassesCardSaid : Prop := Claim7.holds Tryz.pinned (.plain (OpenSpec.ofChange countClassesSpec)) countClassesCard

/-- THE TIED CARD OF 'talismanlaw07.CountComplements'. -/
def countComplementsCard : Claim7 := { stood := { row := countComplementsRow, standIns := [], harness := (true, "2fc464bbbf6b3a463d4eab77d903c5902ac939b6355f716b1a2034aeac3b7dac"), looks := false }, kinds := [], alts := [], laidByText := true, laidKinds := [.data, .data, .data], laidTests := true, laidLooks := .later }
def CountComplementsCardSaid : Prop := Claim7.holds Tryz.pinned (.plain (OpenSpec.ofChange countComplementsSpec)) countComplementsCard

/-- THE TIED CARD OF 'talismanlaw07.CountBurnside'. -/
def countBurnsideCard : Claim7 := { stood := { row := countBurnsideRow, standIns := [], harness := (true, "2fc464bbbf6b3a463d4eab77d903c5902ac939b6355f716b1a2034aeac3b7dac"), looks := false }, kinds := [], alts := [], laidByText := true, laidKinds := [.data, .data, .data], laidTests := true, laidLooks := .later }
def CountBurnsideCardSaid : Prop := Claim7.holds Tryz.pinned (.plain (OpenSpec.ofChange countBurnsideSpec)) countBurnsideCard

/-- THE TIED CARD OF 'talismanlaw07.CountTotals'. -/
def countTotalsCard : Claim7 := { stood := { row := countTotalsRow, standIns := [], harness := (true, "2fc464bbbf6b3a463d4eab77d903c5902ac939b6355f716b1a2034aeac3b7dac"), looks := false }, kinds := [], alts := [], laidByText := true, laidKinds := [.data, .data, .data], laidTests := true, laidLooks := .later }
def CountTotalsCardSaid : Prop := Claim7.holds Tryz.pinned (.plain (OpenSpec.ofChange countTotalsSpec)) countTotalsCard

/-- THE TIED CARD OF 'talismanlaw07.CountConstants'. -/
def countConstantsCard : Claim7 := { stood := { row := countConstantsRow, standIns := [], harness := (true, "2fc464bbbf6b3a463d4eab77d903c5902ac939b6355f716b1a2034aeac3b7dac"), looks := false }, kinds := [], alts := [], laidByText := true, laidKinds := [.data, .data, .data], laidTests := true, laidLooks := .later }
def CountConstantsCardSaid : Prop := Claim7.holds Tryz.pinned (.plain (OpenSpec.ofChange countConstantsSpec)) countConstantsCard

/-- THE TIED CARD OF 'talismanlaw07.CountAgrees'. -/
def countAgreesCard : Claim7 := { stood := { row := countAgreesRow, standIns := [], harness := (true, "2fc464bbbf6b3a463d4eab77d903c5902ac939b6355f716b1a2034aeac3b7dac"), looks := false }, kinds := [], alts := [], laidByText := true, laidKinds := [.data, .data, .data], laidTests := true, laidLooks := .later }
def CountAgreesCardSaid : Prop := Claim7.holds Tryz.pinned (.plain (OpenSpec.ofChange countAgreesSpec)) countAgreesCard

/-- THE SECOND FORM's CARD OF 'talismanlaw07.CountSets'. -/
def countSetsUptoCard : Claim7 := { stood := { row := countSetsUptoRow, standIns := [], harness := (true, "2fc464bbbf6b3a463d4eab77d903c5902ac939b6355f716b1a2034aeac3b7dac"), looks := false }, kinds := [], alts := [], laidByText := true, laidKinds := [.data, .data, .data], laidTests := true, laidLooks := .later }
def CountSetsUptoCardSaid : Prop := Claim7.holds Tryz.pinned (.plain (OpenSpec.upto countSetsSpec)) countSetsUptoCard

/-- THE SECOND FORM's CARD OF 'talismanlaw07.CountBounds'. -/
def countBoundsUptoCard : Claim7 := { stood := { row := countBoundsUptoRow, standIns := [], harness := (true, "2fc464bbbf6b3a463d4eab77d903c5902ac939b6355f716b1a2034aeac3b7dac"), looks := false }, kinds := [], alts := [], laidByText := true, laidKinds := [.data, .data, .data], laidTests := true, laidLooks := .later }
def CountBoundsUptoCardSaid : Prop := Claim7.holds Tryz.pinned (.plain (OpenSpec.upto countBoundsSpec)) countBoundsUptoCard

/-- THE SECOND FORM's CARD OF 'talismanlaw07.CountBounded'. -/
def countBoundedUptoCard : Claim7 := { stood := { row := countBoundedUptoRow, standIns := [], harness := (true, "2fc464bbbf6b3a463d4eab77d903c5902ac939b6355f716b1a2034aeac3b7dac"), looks := false }, kinds := [], alts := [], laidByText := true, laidKinds := [.data, .data, .data], laidTests := true, laidLooks := .later }
def CountBoundedUptoCardSaid : Prop := Claim7.holds Tryz.pinned (.plain (OpenSpec.upto countBoundedSpec)) countBoundedUptoCard

/-- THE SECOND FORM's CARD OF 'talismanlaw07.CountHalves'. -/
def countHalvesUptoCard : Claim7 := { stood := { row := countHalvesUptoRow, standIns := [], harness := (true, "2fc464bbbf6b3a463d4eab77d903c5902ac939b6355f716b1a2034aeac3b7dac"), looks := false }, kinds := [], alts := [], laidByText := true, laidKinds := [.data, .data, .data], laidTests := true, laidLooks := .later }
def CountHalvesUptoCardSaid : Prop := Claim7.holds Tryz.pinned (.plain (OpenSpec.upto countHalvesSpec)) countHalvesUptoCard

/-- THE SECOND FORM's CARD OF 'talismanlaw07.CountKeys'. -/
def countKeysUptoCard : Claim7 := { stood := { row := countKeysUptoRow, standIns := [], harness := (true, "2fc464bbbf6b3a463d4eab77d903c5902ac939b6355f716b1a2034aeac3b7dac"), looks := false }, kinds := [], alts := [], laidByText := true, laidKinds := [.data, .data, .data], laidTests := true, laidLooks := .later }
def CountKeysUptoCardSaid : Prop := Claim7.holds Tryz.pinned (.plain (OpenSpec.upto countKeysSpec)) countKeysUptoCard

/-- THE SECOND FORM's CARD OF 'talismanlaw07.CountAntimagic'. -/
def countAntimagicUptoCard : Claim7 := { stood := { row := countAntimagicUptoRow, standIns := [], harness := (true, "2fc464bbbf6b3a463d4eab77d903c5902ac939b6355f716b1a2034aeac3b7dac"), looks := false }, kinds := [], alts := [], laidByText := true, laidKinds := [.data, .data, .data], laidTests := true, laidLooks := .later }
def CountAntimagicUptoCardSaid : Prop := Claim7.holds Tryz.pinned (.plain (OpenSpec.upto countAntimagicSpec)) countAntimagicUptoCard

/-- THE SECOND FORM's CARD OF 'talismanlaw07.CountMeets'. -/
def countMeetsUptoCard : Claim7 := { stood := { row := countMeetsUptoRow, standIns := [], harness := (true, "2fc464bbbf6b3a463d4eab77d903c5902ac939b6355f716b1a2034aeac3b7dac"), looks := false }, kinds := [], alts := [], laidByText := true, laidKinds := [.data, .data, .data], laidTests := true, laidLooks := .later }
def CountMeetsUptoCardSaid : Prop := Claim7.holds Tryz.pinned (.plain (OpenSpec.upto countMeetsSpec)) countMeetsUptoCard

/-- THE SECOND FORM's CARD OF 'talismanlaw07.CountKeyed'. -/
def countKeyedUptoCard : Claim7 := { stood := { row := countKeyedUptoRow, standIns := [], harness := (true, "2fc464bbbf6b3a463d4eab77d903c5902ac939b6355f716b1a2034aeac3b7dac"), looks := false }, kinds := [], alts := [], laidByText := true, laidKinds := [.data, .data, .data], laidTests := true, laidLooks := .later }
def CountKeyedUptoCardSaid : Prop := Claim7.holds Tryz.pinned (.plain (OpenSpec.upto countKeyedSpec)) countKeyedUptoCard

/-- THE SECOND FORM's CARD OF 'talismanlaw07.CountFillings'. -/
def countFillingsUptoCard : Claim7 := { stood := { row := countFillingsUptoRow, standIns := [], harness := (true, "2fc464bbbf6b3a463d4eab77d903c5902ac939b6355f716b1a2034aeac3b7dac"), looks := false }, kinds := [], alts := [], laidByText := true, laidKinds := [.data, .data, .data], laidTests := true, laidLooks := .later }
def CountFillingsUptoCardSaid : Prop := Claim7.holds Tryz.pinned (.plain (OpenSpec.upto countFillingsSpec)) countFillingsUptoCard

/-- THE SECOND FORM's CARD OF 'talismanlaw07.CountClasses'. -/
def countClassesUptoCard : Claim7 := { stood := { row := countClassesUptoRow, standIns := [], harness := (true, "2fc464bbbf6b3a463d4eab77d903c5902ac939b6355f716b1a2034aeac3b7dac"), looks := false }, kinds := [], alts := [], laidByText := true, laidKinds := [.data, .data, .data], laidTests := true, laidLooks := .later }
def CountClassesUptoCardSaid : Prop := Claim7.holds Tryz.pinned (.plain (OpenSpec.upto countClassesSpec)) countClassesUptoCard

/-- THE SECOND FORM's CARD OF 'talismanlaw07.CountComplements'. -/
def countComplementsUptoCard : Claim7 := { stood := { row := countComplementsUptoRow, standIns := [], harness := (true, "2fc464bbbf6b3a463d4eab77d903c5902ac939b6355f716b1a2034aeac3b7dac"), looks := false }, kinds := [], alts := [], laidByText := true, laidKinds := [.data, .data, .data], laidTests := true, laidLooks := .later }
def CountComplementsUptoCardSaid : Prop := Claim7.holds Tryz.pinned (.plain (OpenSpec.upto countComplementsSpec)) countComplementsUptoCard

/-- THE SECOND FORM's CARD OF 'talismanlaw07.CountBurnside'. -/
def countBurnsideUptoCard : Claim7 := { stood := { row := countBurnsideUptoRow, standIns := [], harness := (true, "2fc464bbbf6b3a463d4eab77d903c5902ac939b6355f716b1a2034aeac3b7dac"), looks := false }, kinds := [], alts := [], laidByText := true, laidKinds := [.data, .data, .data], laidTests := true, laidLooks := .later }
def CountBurnsideUptoCardSaid : Prop := Claim7.holds Tryz.pinned (.plain (OpenSpec.upto countBurnsideSpec)) countBurnsideUptoCard

/-- THE SECOND FORM's CARD OF 'talismanlaw07.CountTotals'. -/
def countTotalsUptoCard : Claim7 := { stood := { row := countTotalsUptoRow, standIns := [], harness := (true, "2fc464bbbf6b3a463d4eab77d903c5902ac939b6355f716b1a2034aeac3b7dac"), looks := false }, kinds := [], alts := [], laidByText := true, laidKinds := [.data, .data, .data], laidTests := true, laidLooks := .later }
def CountTotalsUptoCardSaid : Prop := Claim7.holds Tryz.pinned (.plain (OpenSpec.upto countTotalsSpec)) countTotalsUptoCard

/-- THE SECOND FORM's CARD OF 'talismanlaw07.CountConstants'. -/
def countConstantsUptoCard : Claim7 := { stood := { row := countConstantsUptoRow, standIns := [], harness := (true, "2fc464bbbf6b3a463d4eab77d903c5902ac939b6355f716b1a2034aeac3b7dac"), looks := false }, kinds := [], alts := [], laidByText := true, laidKinds := [.data, .data, .data], laidTests := true, laidLooks := .later }
def CountConstantsUptoCardSaid : Prop := Claim7.holds Tryz.pinned (.plain (OpenSpec.upto countConstantsSpec)) countConstantsUptoCard

/-- THE SECOND FORM's CARD OF 'talismanlaw07.CountAgrees'. -/
def countAgreesUptoCard : Claim7 := { stood := { row := countAgreesUptoRow, standIns := [], harness := (true, "2fc464bbbf6b3a463d4eab77d903c5902ac939b6355f716b1a2034aeac3b7dac"), looks := false }, kinds := [], alts := [], laidByText := true, laidKinds := [.data, .data, .data], laidTests := true, laidLooks := .later }
def CountAgreesUptoCardSaid : Prop := Claim7.holds Tryz.pinned (.plain (OpenSpec.upto countAgreesSpec)) countAgreesUptoCard
end Rows
end Go.Proofs.YtepfaegpjddehaaGreatDoor
