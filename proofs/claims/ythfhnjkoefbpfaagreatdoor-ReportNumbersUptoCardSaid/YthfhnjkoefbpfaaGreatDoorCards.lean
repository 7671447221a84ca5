/-
  DERIVED. GIVEN WITH THE SEED: THE CARDS: each row of YthfhnjkoefbpfaaGreatDoorRows.lean that lists a variable, with what it lists TIED to the program's text (the seventh form; the later family's looks); each row that meets fmt, with fmt's text TOLD by the authors' own Lean function (tested against real Go, not proved from fmt's source: count such statements apart). THE CARD IS WHAT COUNTS. Prove the row's statement (the work); the ties are given (YthfhnjkoefbpfaaGreatDoorTie.lean); close each card by the builder's one call (the guide's Derived/Test/ToyasCard.lean, 'card_holds'). Laid BY PROGRAM, IN A SANDBOX (cutbox-door.mjs). By AI agents, Wed Nov 11 2026. No macro, syntax, notation, axiom, sorry.
-/
import Derived.Test.YthfhnjkoefbpfaaGreatDoorRows
import GoSem.ClaimSeven
namespace Go.Proofs.YthfhnjkoefbpfaaGreatDoor
namespace Rows

/-- THE TIED CARD OF 'cabinetrylaw27.ReportNumbers'. -/
def reportNumbersCard : Claim7 := { stood := { row := reportNumbersRow, standIns := [], harness := (true, "93da0a34035b8c21e0ed895818092a9b6187fa878518d23c82e89215241ff9da"), looks := true }, kinds := [], alts := [], laidByText := true, laidKinds := [.pinned, .data, .pinned, .sentinel, .sentinel, .data, .data, .data, .data, .listed, .handle], laidTests := true, laidLooks := .later }
def ReportNumbersCardSaid : Prop := Claim7.holds Tryz.pinned (.plain (OpenSpec.ofChange reportNumbersSpec)) reportNumbersCard

/-- THE SECOND FORM's CARD OF 'cabinetrylaw27.ReportNumbers'. -/
def reportNumbersUptoCard : Claim7 := { stood := { row := reportNumbersUptoRow, standIns := [], harness := (true, "93da0a34035b8c21e0ed895818092a9b6187fa878518d23c82e89215241ff9da"), looks := true }, kinds := [], alts := [], laidByText := true, laidKinds := [.pinned, .data, .pinned, .sentinel, .sentinel, .data, .data, .data, .data, .listed, .handle], laidTests := true, laidLooks := .later }
def ReportNumbersUptoCardSaid : Prop := Claim7.holds Tryz.pinned (.plain (OpenSpec.upto reportNumbersSpec)) reportNumbersUptoCard
end Rows
end Go.Proofs.YthfhnjkoefbpfaaGreatDoor
