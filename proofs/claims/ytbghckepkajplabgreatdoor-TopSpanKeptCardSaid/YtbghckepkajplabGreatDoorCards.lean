/-
  DERIVED. GIVEN WITH THE SEED: THE CARDS: each row of YtbghckepkajplabGreatDoorRows.lean that lists a variable, with what it lists TIED to the program's text (the seventh form; the later family's looks); each row that meets fmt, with fmt's text TOLD by the authors' own Lean function (tested against real Go, not proved from fmt's source: count such statements apart). THE CARD IS WHAT COUNTS. Prove the row's statement (the work); the ties are given (YtbghckepkajplabGreatDoorTie.lean); close each card by the builder's one call (the guide's Derived/Test/ToyasCard.lean, 'card_holds'). Laid BY PROGRAM, IN A SANDBOX (cutbox-door.mjs). By AI agents, Wed Nov 11 2026. No macro, syntax, notation, axiom, sorry.
-/
import Derived.Test.YtbghckepkajplabGreatDoorRows
import GoSem.ClaimSeven
namespace Go.Proofs.YtbghckepkajplabGreatDoor
namespace Rows

/-- THE TIED CARD OF 'talismantop.TopSpanKept'. -/
def topSpanKeptCard : Claim7 := { stood := { row := topSpanKeptRow, standIns := [], harness := (true, "a1b0eaec1afd78988894637db396427bd826e19b9063aad626341e567672ecd4"), looks := false }, kinds := [], alts := [], laidByText := true, laidKinds := [.data, .data, .data], laidTests := true, laidLooks := .later }
def TopSpanKeptCardSaid : Prop := Claim7.holds Tryz.pinned (.plain (OpenSpec.ofChange topSpanKeptSpec)) topSpanKeptCard

/-- THE SECOND FORM's CARD OF 'talismantop.TopSpanKept'. -/
def topSpanKeptUptoCard : Claim7 := { stood := { row := topSpanKeptUptoRow, standIns := [], harness := (true, "a1b0eaec1afd78988894637db396427bd826e19b9063aad626341e567672ecd4"), looks := false }, kinds := [], alts := [], laidByText := true, laidKinds := [.data, .data, .data], laidTests := true, laidLooks := .later }
def TopSpanKeptUptoCardSaid : Prop := Claim7.holds Tryz.pinned (.plain (OpenSpec.upto topSpanKeptSpec)) topSpanKeptUptoCard
end Rows
end Go.Proofs.YtbghckepkajplabGreatDoor
