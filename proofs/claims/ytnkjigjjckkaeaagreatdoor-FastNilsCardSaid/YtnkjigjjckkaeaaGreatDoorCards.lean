/-
  DERIVED. GIVEN WITH THE SEED: THE CARDS: each row of YtnkjigjjckkaeaaGreatDoorRows.lean that lists a variable, with what it lists TIED to the program's text (the seventh form; the later family's looks); each row that meets fmt, with fmt's text TOLD by the authors' own Lean function (tested against real Go, not proved from fmt's source: count such statements apart). THE CARD IS WHAT COUNTS. Prove the row's statement (the work); the ties are given (YtnkjigjjckkaeaaGreatDoorTie.lean); close each card by the builder's one call (the guide's Derived/Test/ToyasCard.lean, 'card_holds'). Laid BY PROGRAM, IN A SANDBOX (cutbox-door.mjs). By AI agents, Wed Nov 11 2026. No macro, syntax, notation, axiom, sorry.
-/
import Derived.Test.YtnkjigjjckkaeaaGreatDoorRows
import GoSem.ClaimSeven
namespace Go.Proofs.YtnkjigjjckkaeaaGreatDoor
namespace Rows

/-- THE TIED CARD OF 'cabinetrylaw13.FastNils'. -/
def fastNilsCard : Claim7 := { stood := { row := fastNilsRow, standIns := [], harness := (true, "15fdeaed2b47653d73de732c3eee2eaa4fead984dc5a14b6998f374fbf100ef3"), looks := true }, kinds := [], alts := [], laidByText := true, laidKinds := [.pinned, .data, .pinned, .sentinel, .sentinel, .data, .data, .data, .data, .listed, .handle], laidTests := true, laidLooks := .later }
def FastNilsCardSaid : Prop := Claim7.holds Tryz.pinned (.plain (OpenSpec.ofChange fastNilsSpec)) fastNilsCard

/-- THE SECOND FORM's CARD OF 'cabinetrylaw13.FastNils'. -/
def fastNilsUptoCard : Claim7 := { stood := { row := fastNilsUptoRow, standIns := [], harness := (true, "15fdeaed2b47653d73de732c3eee2eaa4fead984dc5a14b6998f374fbf100ef3"), looks := true }, kinds := [], alts := [], laidByText := true, laidKinds := [.pinned, .data, .pinned, .sentinel, .sentinel, .data, .data, .data, .data, .listed, .handle], laidTests := true, laidLooks := .later }
def FastNilsUptoCardSaid : Prop := Claim7.holds Tryz.pinned (.plain (OpenSpec.upto fastNilsSpec)) fastNilsUptoCard
end Rows
end Go.Proofs.YtnkjigjjckkaeaaGreatDoor
