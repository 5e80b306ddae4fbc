/-
  DERIVED. GIVEN WITH THE SEED: THE CARDS: each row of YtlfhlkknakiafaaGreatDoorRows.lean that lists a variable, with what it lists TIED to the program's text (the seventh form; the later family's looks); each row that meets fmt, with fmt's text TOLD by the authors' own Lean function (tested against real Go, not proved from fmt's source: count such statements apart). THE CARD IS WHAT COUNTS. Prove the row's statement (the work); the ties are given (YtlfhlkknakiafaaGreatDoorTie.lean); close each card by the builder's one call (the guide's Derived/Test/ToyasCard.lean, 'card_holds'). Laid BY PROGRAM, IN A SANDBOX (cutbox-door.mjs). By AI agents, Wed Nov 11 2026. No macro, syntax, notation, axiom, sorry.
-/
import Derived.Test.YtlfhlkknakiafaaGreatDoorRows
import GoSem.ClaimSeven
namespace Go.Proofs.YtlfhlkknakiafaaGreatDoor
namespace Rows

/-- THE TIED CARD OF 'talismantop.TopLoomFields'. -/
def topLoomFieldsCard : Claim7 := { stood := { row := topLoomFieldsRow, standIns := [], harness := (true, "19bc5398b2fb3c36bd9ef34bce8378c3e5217dc1170006dac49a33950ad85acf"), looks := false }, kinds := [], alts := [], laidByText := true, laidKinds := [.data, .data, .data], laidTests := true, laidLooks := .later }
def TopLoomFieldsCardSaid : Prop := Claim7.holds Tryz.pinned (.plain (OpenSpec.ofChange topLoomFieldsSpec)) topLoomFieldsCard

/-- THE TIED CARD OF 'talismantop.TopLoomOrders'. -/
def topLoomOrdersCard : Claim7 := { stood := { row := topLoomOrdersRow, standIns := [], harness := (true, "19bc5398b2fb3c36bd9ef34bce8378c3e5217dc1170006dac49a33950ad85acf"), looks := false }, kinds := [], alts := [], laidByText := true, laidKinds := [.data, .data, .data], laidTests := true, laidLooks := .later }
def TopLoomOrdersCardSaid : Prop := Claim7.holds Tryz.pinned (.plain (OpenSpec.ofChange topLoomOrdersSpec)) topLoomOrdersCard

/-- THE TIED CARD OF 'talismantop.TopBuilt'. -/
def topBuiltCard : Claim7 := { stood := { row := topBuiltRow, standIns := [], harness := (true, "19bc5398b2fb3c36bd9ef34bce8378c3e5217dc1170006dac49a33950ad85acf"), looks := false }, kinds := [], alts := [], laidByText := true, laidKinds := [.data, .data, .data], laidTests := true, laidLooks := .later }
def TopBuiltCardSaid : Prop := Claim7.holds Tryz.pinned (.plain (OpenSpec.ofChange topBuiltSpec)) topBuiltCard

/-- THE TIED CARD OF 'talismantop.TopSpanKept'. -/
def topSpanKeptCard : Claim7 := { stood := { row := topSpanKeptRow, standIns := [], harness := (true, "19bc5398b2fb3c36bd9ef34bce8378c3e5217dc1170006dac49a33950ad85acf"), looks := false }, kinds := [], alts := [], laidByText := true, laidKinds := [.data, .data, .data], laidTests := true, laidLooks := .later }
def TopSpanKeptCardSaid : Prop := Claim7.holds Tryz.pinned (.plain (OpenSpec.ofChange topSpanKeptSpec)) topSpanKeptCard

/-- THE TIED CARD OF 'talismantop.TopKnotComplete'. -/
def topKnotCompleteCard : Claim7 := { stood := { row := topKnotCompleteRow, standIns := [], harness := (true, "19bc5398b2fb3c36bd9ef34bce8378c3e5217dc1170006dac49a33950ad85acf"), looks := false }, kinds := [], alts := [], laidByText := true, laidKinds := [.data, .data, .data], laidTests := true, laidLooks := .later }
def TopKnotCompleteCardSaid : Prop := Claim7.holds Tryz.pinned (.plain (OpenSpec.ofChange topKnotCompleteSpec)) topKnotCompleteCard

/-- THE SECOND FORM's CARD OF 'talismantop.TopLoomFields'. -/
def topLoomFieldsUptoCard : Claim7 := { stood := { row := topLoomFieldsUptoRow, standIns := [], harness := (true, "19bc5398b2fb3c36bd9ef34bce8378c3e5217dc1170006dac49a33950ad85acf"), looks := false }, kinds := [], alts := [], laidByText := true, laidKinds := [.data, .data, .data], laidTests := true, laidLooks := .later }
def TopLoomFieldsUptoCardSaid : Prop := Claim7.holds Tryz.pinned (.plain (OpenSpec.upto topLoomFieldsSpec)) topLoomFieldsUptoCard

/-- THE SECOND FORM's CARD OF 'talismantop.TopLoomOrders'. -/
def topLoomOrdersUptoCard : Claim7 := { stood := { row := topLoomOrdersUptoRow, standIns := [], harness := (true, "19bc5398b2fb3c36bd9ef34bce8378c3e5217dc1170006dac49a33950ad85acf"), looks := false }, kinds := [], alts := [], laidByText := true, laidKinds := [.data, .data, .data], laidTests := true, laidLooks := .later }
def TopLoomOrdersUptoCardSaid : Prop := Claim7.holds Tryz.pinned (.plain (OpenSpec.upto topLoomOrdersSpec)) topLoomOrdersUptoCard

/-- THE SECOND FORM's CARD OF 'talismantop.TopBuilt'. -/
def topBuiltUptoCard : Claim7 := { stood := { row := topBuiltUptoRow, standIns := [], harness := (true, "19bc5398b2fb3c36bd9ef34bce8378c3e5217dc1170006dac49a33950ad85acf"), looks := false }, kinds := [], alts := [], laidByText := true, laidKinds := [.data, .data, .data], laidTests := true, laidLooks := .later }
def TopBuiltUptoCardSaid : Prop := Claim7.holds Tryz.pinned (.plain (OpenSpec.upto topBuiltSpec)) topBuiltUptoCard

/-- THE SECOND FORM's CARD OF 'talismantop.TopSpanKept'. -/
def topSpanKeptUptoCard : Claim7 := { stood := { row := topSpanKeptUptoRow, standIns := [], harness := (true, "19bc5398b2fb3c36bd9ef34bce8378c3e5217dc1170006dac49a33950ad85acf"), looks := false }, kinds := [], alts := [], laidByText := true, laidKinds := [.data, .data, .data], laidTests := true, laidLooks := .later }
def TopSpanKeptUptoCardSaid : Prop := Claim7.holds Tryz.pinned (.plain (OpenSpec.upto topSpanKeptSpec)) topSpanKeptUptoCard

/-- THE SECOND FORM's CARD OF 'talismantop.TopKnotComplete'. -/
def topKnotCompleteUptoCard : Claim7 := { stood := { row := topKnotCompleteUptoRow, standIns := [], harness := (true, "19bc5398b2fb3c36bd9ef34bce8378c3e5217dc1170006dac49a33950ad85acf"), looks := false }, kinds := [], alts := [], laidByText := true, laidKinds := [.data, .data, .data], laidTests := true, laidLooks := .later }
def TopKnotCompleteUptoCardSaid : Prop := Claim7.holds Tryz.pinned (.plain (OpenSpec.upto topKnotCompleteSpec)) topKnotCompleteUptoCard
end Rows
end Go.Proofs.YtlfhlkknakiafaaGreatDoor
