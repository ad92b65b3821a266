/-
  DERIVED. GIVEN WITH THE SEED: THE CARDS: each row of YtfmpaofbnjlniaaGreatDoorRows.lean that lists a variable, with what it lists TIED to the program's text (the seventh form; the later family's looks); each row that meets fmt, with fmt's text TOLD by the authors' own Lean function (tested against real Go, not proved from fmt's source: count such statements apart). THE CARD IS WHAT COUNTS. Prove the row's statement (the work); the ties are given (YtfmpaofbnjlniaaGreatDoorTie.lean); close each card by the builder's one call (the guide's Derived/Test/ToyasCard.lean, 'card_holds'). Laid BY PROGRAM, IN A SANDBOX (cutbox-door.mjs). By AI agents, Wed Nov 11 2026. No macro, syntax, notation, axiom, sorry.
-/
import Derived.Test.YtfmpaofbnjlniaaGreatDoorRows
import GoSem.ClaimSeven
namespace Go.Proofs.YtfmpaofbnjlniaaGreatDoor
namespace Rows

/-- THE TIED CARD OF 'paraphrastlaw01.ShapeTexts'. -/
def shapeTextsCard : Claim7 := { stood := { row := shapeTextsRow, standIns := [], harness := (true, "0b2e56867fdebc6e4a4706954466a18a4e5a5153ee6e2b3ed723d8acf71f299f"), looks := true }, kinds := [], alts := [], laidByText := true, laidKinds := [.data, .data, .data, .data, .sentinel, .sentinel, .pinned], laidTests := true, laidLooks := .later }
def ShapeTextsCardSaid : Prop := Claim7.holds Tryz.pinned (.plain (OpenSpec.ofChange shapeTextsSpec)) shapeTextsCard

/-- THE TIED CARD OF 'paraphrastlaw01.ShapeMakes'. -/
def shapeMakesCard : Claim7 := { stood := { row := shapeMakesRow, standIns := [], harness := (true, "0b2e56867fdebc6e4a4706954466a18a4e5a5153ee6e2b3ed723d8acf71f299f"), looks := true }, kinds := [], alts := [], laidByText := true, laidKinds := [.data, .data, .data, .data, .sentinel, .sentinel, .pinned], laidTests := true, laidLooks := .later }
def ShapeMakesCardSaid : Prop := Claim7.holds Tryz.pinned (.plain (OpenSpec.ofChange shapeMakesSpec)) shapeMakesCard

/-- THE TIED CARD OF 'paraphrastlaw01.ShapePuts'. -/
def shapePutsCard : Claim7 := { stood := { row := shapePutsRow, standIns := [], harness := (true, "0b2e56867fdebc6e4a4706954466a18a4e5a5153ee6e2b3ed723d8acf71f299f"), looks := true }, kinds := [], alts := [], laidByText := true, laidKinds := [.data, .data, .data, .data, .sentinel, .sentinel, .pinned], laidTests := true, laidLooks := .later }
def ShapePutsCardSaid : Prop := Claim7.holds Tryz.pinned (.plain (OpenSpec.ofChange shapePutsSpec)) shapePutsCard

/-- THE TIED CARD OF 'paraphrastlaw01.ShapePermutes'. -/
def shapePermutesCard : Claim7 := { stood := { row := shapePermutesRow, standIns := [], harness := (true, "0b2e56867fdebc6e4a4706954466a18a4e5a5153ee6e2b3ed723d8acf71f299f"), looks := true }, kinds := [], alts := [], laidByText := true, laidKinds := [.data, .data, .data, .data, .sentinel, .sentinel, .pinned], laidTests := true, laidLooks := .later }
def ShapePermutesCardSaid : Prop := Claim7.holds Tryz.pinned (.plain (OpenSpec.ofChange shapePermutesSpec)) shapePermutesCard

/-- THE TIED CARD OF 'paraphrastlaw01.ShapeNames'. -/
def shapeNamesCard : Claim7 := { stood := { row := shapeNamesRow, standIns := [], harness := (true, "0b2e56867fdebc6e4a4706954466a18a4e5a5153ee6e2b3ed723d8acf71f299f"), looks := true }, kinds := [], alts := [], laidByText := true, laidKinds := [.data, .data, .data, .data, .sentinel, .sentinel, .pinned], laidTests := true, laidLooks := .later }
def ShapeNamesCardSaid : Prop := Claim7.holds Tryz.pinned (.plain (OpenSpec.ofChange shapeNamesSpec)) shapeNamesCard

/-- THE TIED CARD OF 'paraphrastlaw01.ShapeOwn'. -/
def shapeOwnCard : Claim7 := { stood := { row := shapeOwnRow, standIns := [], harness := (true, "0b2e56867fdebc6e4a4706954466a18a4e5a5153ee6e2b3ed723d8acf71f299f"), looks := true }, kinds := [], alts := [], laidByText := true, laidKinds := [.data, .data, .data, .data, .sentinel, .sentinel, .pinned], laidTests := true, laidLooks := .later }
def ShapeOwnCardSaid : Prop := Claim7.holds Tryz.pinned (.plain (OpenSpec.ofChange shapeOwnSpec)) shapeOwnCard

/-- THE SECOND FORM's CARD OF 'paraphrastlaw01.ShapeTexts'. -/
def shapeTextsUptoCard : Claim7 := { stood := { row := shapeTextsUptoRow, standIns := [], harness := (true, "0b2e56867fdebc6e4a4706954466a18a4e5a5153ee6e2b3ed723d8acf71f299f"), looks := true }, kinds := [], alts := [], laidByText := true, laidKinds := [.data, .data, .data, .data, .sentinel, .sentinel, .pinned], laidTests := true, laidLooks := .later }
def ShapeTextsUptoCardSaid : Prop := Claim7.holds Tryz.pinned (.plain (OpenSpec.upto shapeTextsSpec)) shapeTextsUptoCard

/-- THE SECOND FORM's CARD OF 'paraphrastlaw01.ShapeMakes'. -/
def shapeMakesUptoCard : Claim7 := { stood := { row := shapeMakesUptoRow, standIns := [], harness := (true, "0b2e56867fdebc6e4a4706954466a18a4e5a5153ee6e2b3ed723d8acf71f299f"), looks := true }, kinds := [], alts := [], laidByText := true, laidKinds := [.data, .data, .data, .data, .sentinel, .sentinel, .pinned], laidTests := true, laidLooks := .later }
def ShapeMakesUptoCardSaid : Prop := Claim7.holds Tryz.pinned (.plain (OpenSpec.upto shapeMakesSpec)) shapeMakesUptoCard

/-- THE SECOND FORM's CARD OF 'paraphrastlaw01.ShapePuts'. -/
def shapePutsUptoCard : Claim7 := { stood := { row := shapePutsUptoRow, standIns := [], harness := (true, "0b2e56867fdebc6e4a4706954466a18a4e5a5153ee6e2b3ed723d8acf71f299f"), looks := true }, kinds := [], alts := [], laidByText := true, laidKinds := [.data, .data, .data, .data, .sentinel, .sentinel, .pinned], laidTests := true, laidLooks := .later }
def ShapePutsUptoCardSaid : Prop := Claim7.holds Tryz.pinned (.plain (OpenSpec.upto shapePutsSpec)) shapePutsUptoCard

/-- THE SECOND FORM's CARD OF 'paraphrastlaw01.ShapePermutes'. -/
def shapePermutesUptoCard : Claim7 := { stood := { row := shapePermutesUptoRow, standIns := [], harness := (true, "0b2e56867fdebc6e4a4706954466a18a4e5a5153ee6e2b3ed723d8acf71f299f"), looks := true }, kinds := [], alts := [], laidByText := true, laidKinds := [.data, .data, .data, .data, .sentinel, .sentinel, .pinned], laidTests := true, laidLooks := .later }
def ShapePermutesUptoCardSaid : Prop := Claim7.holds Tryz.pinned (.plain (OpenSpec.upto shapePermutesSpec)) shapePermutesUptoCard

/-- THE SECOND FORM's CARD OF 'paraphrastlaw01.ShapeNames'. -/
def shapeNamesUptoCard : Claim7 := { stood := { row := shapeNamesUptoRow, standIns := [], harness := (true, "0b2e56867fdebc6e4a4706954466a18a4e5a5153ee6e2b3ed723d8acf71f299f"), looks := true }, kinds := [], alts := [], laidByText := true, laidKinds := [.data, .data, .data, .data, .sentinel, .sentinel, .pinned], laidTests := true, laidLooks := .later }
def ShapeNamesUptoCardSaid : Prop := Claim7.holds Tryz.pinned (.plain (OpenSpec.upto shapeNamesSpec)) shapeNamesUptoCard

/-- THE SECOND FORM's CARD OF 'paraphrastlaw01.ShapeOwn'. -/
def shapeOwnUptoCard : Claim7 := { stood := { row := shapeOwnUptoRow, standIns := [], harness := (true, "0b2e56867fdebc6e4a4706954466a18a4e5a5153ee6e2b3ed723d8acf71f299f"), looks := true }, kinds := [], alts := [], laidByText := true, laidKinds := [.data, .data, .data, .data, .sentinel, .sentinel, .pinned], laidTests := true, laidLooks := .later }
def ShapeOwnUptoCardSaid : Prop := Claim7.holds Tryz.pinned (.plain (OpenSpec.upto shapeOwnSpec)) shapeOwnUptoCard
end Rows
end Go.Proofs.YtfmpaofbnjlniaaGreatDoor
