/-
  DERIVED. GIVEN WITH THE SEED: THE CARDS: each row of YtflbbhnajbkmfaaGreatDoorRows.lean that lists a variable, with what it lists TIED to the program's text (the seventh form; the later family's looks); each row that meets fmt, with fmt's text TOLD by the authors' own Lean function (tested against real Go, not proved from fmt's source: count such statements apart). THE CARD IS WHAT COUNTS. Prove the row's statement (the work); the ties are given (YtflbbhnajbkmfaaGreatDoorTie.lean); close each card by the builder's one call (the guide's Derived/Test/ToyasCard.lean, 'card_holds'). Laid BY PROGRAM, IN A SANDBOX (cutbox-door.mjs). By AI agents, Wed Nov 11 2026. No macro, syntax, notation, axiom, sorry.
-/
import Derived.Test.YtflbbhnajbkmfaaGreatDoorRows
import GoSem.ClaimSeven
namespace Go.Proofs.YtflbbhnajbkmfaaGreatDoor
namespace Rows

/-- THE TIED CARD OF 'cabinetrylaw16.RuleNil'. -/
def ruleNilCard : Claim7 := { stood := { row := ruleNilRow, standIns := [], harness := (true, "918b20dd1cc62ed418fc01974186c2be98031c97087e7692670f0e8607fa3842"), looks := true }, kinds := [], alts := [], laidByText := true, laidKinds := [.pinned, .data, .pinned, .sentinel, .sentinel, .data, .data, .data, .data, .listed, .handle], laidTests := true, laidLooks := .later }
def RuleNilCardSaid : Prop := Claim7.holds Tryz.pinned (.plain (OpenSpec.ofChange ruleNilSpec)) ruleNilCard

/-- THE SECOND FORM's CARD OF 'cabinetrylaw16.RuleNil'. -/
def ruleNilUptoCard : Claim7 := { stood := { row := ruleNilUptoRow, standIns := [], harness := (true, "918b20dd1cc62ed418fc01974186c2be98031c97087e7692670f0e8607fa3842"), looks := true }, kinds := [], alts := [], laidByText := true, laidKinds := [.pinned, .data, .pinned, .sentinel, .sentinel, .data, .data, .data, .data, .listed, .handle], laidTests := true, laidLooks := .later }
def RuleNilUptoCardSaid : Prop := Claim7.holds Tryz.pinned (.plain (OpenSpec.upto ruleNilSpec)) ruleNilUptoCard
end Rows
end Go.Proofs.YtflbbhnajbkmfaaGreatDoor
