/-
  DERIVED. GIVEN WITH THE SEED: THE CARDS: each row of YtailpfcbdopfeaaGreatDoorRows.lean that lists a variable, with what it lists TIED to the program's text (the seventh form; the later family's looks); each row that meets fmt, with fmt's text TOLD by the authors' own Lean function (tested against real Go, not proved from fmt's source: count such statements apart). THE CARD IS WHAT COUNTS. Prove the row's statement (the work); the ties are given (YtailpfcbdopfeaaGreatDoorTie.lean); close each card by the builder's one call (the guide's Derived/Test/ToyasCard.lean, 'card_holds'). Laid BY PROGRAM, IN A SANDBOX (cutbox-door.mjs). By AI agents, Wed Nov 11 2026. No macro, syntax, notation, axiom, sorry.
-/
import Derived.Test.YtailpfcbdopfeaaGreatDoorRows
import GoSem.ClaimSeven
namespace Go.Proofs.YtailpfcbdopfeaaGreatDoor
namespace Rows

/-- THE TIED CARD OF 'paraphrastlaw18.GuessRelations'. -/
def guessRelationsCard : Claim7 := { stood := { row := guessRelationsRow, standIns := [], harness := (true, "928c7f466221220e713126d9729b46ac9212f438a3bd0e748b28df74784eb421"), looks := true }, kinds := [], alts := [], laidByText := true, laidKinds := [.data, .data, .data, .data, .sentinel, .sentinel, .listed, .data, .pinned], laidTests := true, laidLooks := .later }
def GuessRelationsCardSaid : Prop := Claim7.holds Tryz.pinned (.plain (OpenSpec.ofChange guessRelationsSpec)) guessRelationsCard

/-- THE SECOND FORM's CARD OF 'paraphrastlaw18.GuessRelations'. -/
def guessRelationsUptoCard : Claim7 := { stood := { row := guessRelationsUptoRow, standIns := [], harness := (true, "928c7f466221220e713126d9729b46ac9212f438a3bd0e748b28df74784eb421"), looks := true }, kinds := [], alts := [], laidByText := true, laidKinds := [.data, .data, .data, .data, .sentinel, .sentinel, .listed, .data, .pinned], laidTests := true, laidLooks := .later }
def GuessRelationsUptoCardSaid : Prop := Claim7.holds Tryz.pinned (.plain (OpenSpec.upto guessRelationsSpec)) guessRelationsUptoCard
end Rows
end Go.Proofs.YtailpfcbdopfeaaGreatDoor
