/-
  DERIVED. GIVEN WITH THE SEED: THE CARDS: each row of YtdclaaahnodljaaGreatDoorRows.lean that lists a variable, with what it lists TIED to the program's text (the seventh form; the later family's looks); each row that meets fmt, with fmt's text TOLD by the authors' own Lean function (tested against real Go, not proved from fmt's source: count such statements apart). THE CARD IS WHAT COUNTS. Prove the row's statement (the work); the ties are given (YtdclaaahnodljaaGreatDoorTie.lean); close each card by the builder's one call (the guide's Derived/Test/ToyasCard.lean, 'card_holds'). Laid BY PROGRAM, IN A SANDBOX (cutbox-door.mjs). By AI agents, Wed Nov 11 2026. No macro, syntax, notation, axiom, sorry.
-/
import Derived.Test.YtdclaaahnodljaaGreatDoorRows
import GoSem.ClaimSeven
namespace Go.Proofs.YtdclaaahnodljaaGreatDoor
namespace Rows

/-- THE TIED CARD OF 'talismantop.TopCharmLabels'. -/
def topCharmLabelsCard : Claim7 := { stood := { row := topCharmLabelsRow, standIns := [], harness := (true, "608fc5b6fd7369ebd95c868e2fd6f861134af690bc3705ffe8cabed3f1899156"), looks := false }, kinds := [], alts := [], laidByText := true, laidKinds := [.data, .data, .data], laidTests := true, laidLooks := .later }
def TopCharmLabelsCardSaid : Prop := Claim7.holds Tryz.pinned (.plain (OpenSpec.ofChange topCharmLabelsSpec)) topCharmLabelsCard

/-- THE TIED CARD OF 'talismantop.TopImages'. -/
def topImagesCard : Claim7 := { stood := { row := topImagesRow, standIns := [], harness := (true, "608fc5b6fd7369ebd95c868e2fd6f861134af690bc3705ffe8cabed3f1899156"), looks := false }, kinds := [], alts := [], laidByText := true, laidKinds := [.data, .data, .data], laidTests := true, laidLooks := .later }
def TopImagesCardSaid : Prop := Claim7.holds Tryz.pinned (.plain (OpenSpec.ofChange topImagesSpec)) topImagesCard

/-- THE TIED CARD OF 'talismantop.TopShifted'. -/
def topShiftedCard : Claim7 := { stood := { row := topShiftedRow, standIns := [], harness := (true, "608fc5b6fd7369ebd95c868e2fd6f861134af690bc3705ffe8cabed3f1899156"), looks := false }, kinds := [], alts := [], laidByText := true, laidKinds := [.data, .data, .data], laidTests := true, laidLooks := .later }
def TopShiftedCardSaid : Prop := Claim7.holds Tryz.pinned (.plain (OpenSpec.ofChange topShiftedSpec)) topShiftedCard

/-- THE TIED CARD OF 'talismantop.TopCharmBurnside'. -/
def topCharmBurnsideCard : Claim7 := { stood := { row := topCharmBurnsideRow, standIns := [], harness := (true, "608fc5b6fd7369ebd95c868e2fd6f861134af690bc3705ffe8cabed3f1899156"), looks := false }, kinds := [], alts := [], laidByText := true, laidKinds := [.data, .data, .data], laidTests := true, laidLooks := .later }
def TopCharmBurnsideCardSaid : Prop := Claim7.holds Tryz.pinned (.plain (OpenSpec.ofChange topCharmBurnsideSpec)) topCharmBurnsideCard

/-- THE SECOND FORM's CARD OF 'talismantop.TopCharmLabels'. -/
def topCharmLabelsUptoCard : Claim7 := { stood := { row := topCharmLabelsUptoRow, standIns := [], harness := (true, "608fc5b6fd7369ebd95c868e2fd6f861134af690bc3705ffe8cabed3f1899156"), looks := false }, kinds := [], alts := [], laidByText := true, laidKinds := [.data, .data, .data], laidTests := true, laidLooks := .later }
def TopCharmLabelsUptoCardSaid : Prop := Claim7.holds Tryz.pinned (.plain (OpenSpec.upto topCharmLabelsSpec)) topCharmLabelsUptoCard

/-- THE SECOND FORM's CARD OF 'talismantop.TopImages'. -/
def topImagesUptoCard : Claim7 := { stood := { row := topImagesUptoRow, standIns := [], harness := (true, "608fc5b6fd7369ebd95c868e2fd6f861134af690bc3705ffe8cabed3f1899156"), looks := false }, kinds := [], alts := [], laidByText := true, laidKinds := [.data, .data, .data], laidTests := true, laidLooks := .later }
def TopImagesUptoCardSaid : Prop := Claim7.holds Tryz.pinned (.plain (OpenSpec.upto topImagesSpec)) topImagesUptoCard

/-- THE SECOND FORM's CARD OF 'talismantop.TopShifted'. -/
def topShiftedUptoCard : Claim7 := { stood := { row := topShiftedUptoRow, standIns := [], harness := (true, "608fc5b6fd7369ebd95c868e2fd6f861134af690bc3705ffe8cabed3f1899156"), looks := false }, kinds := [], alts := [], laidByText := true, laidKinds := [.data, .data, .data], laidTests := true, laidLooks := .later }
def TopShiftedUptoCardSaid : Prop := Claim7.holds Tryz.pinned (.plain (OpenSpec.upto topShiftedSpec)) topShiftedUptoCard

/-- THE SECOND FORM's CARD OF 'talismantop.TopCharmBurnside'. -/
def topCharmBurnsideUptoCard : Claim7 := { stood := { row := topCharmBurnsideUptoRow, standIns := [], harness := (true, "608fc5b6fd7369ebd95c868e2fd6f861134af690bc3705ffe8cabed3f1899156"), looks := false }, kinds := [], alts := [], laidByText := true, laidKinds := [.data, .data, .data], laidTests := true, laidLooks := .later }
def TopCharmBurnsideUptoCardSaid : Prop := Claim7.holds Tryz.pinned (.plain (OpenSpec.upto topCharmBurnsideSpec)) topCharmBurnsideUptoCard
end Rows
end Go.Proofs.YtdclaaahnodljaaGreatDoor
