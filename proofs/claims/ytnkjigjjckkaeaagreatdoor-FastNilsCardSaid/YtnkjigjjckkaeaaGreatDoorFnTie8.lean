/-
  OWN: the ties of the statement, fact by fact in modules of their own (the given text, in one process, passes the memory limit). By an AI agent. No person has read it.
-/
import Derived.Test.YtnkjigjjckkaeaaGreatDoorFnTieL
namespace Go.Proofs.YtnkjigjjckkaeaaGreatDoor
open Go
theorem t8 (os : Os) (tape : Tape) : (DataW.laidRun Tryz.prog (varsWorld Tryz.prog 400 (varsId Tryz.prog) os tape).memory 8 ((tieList.filter fun x => x.2.handleName?.isNone).map (·.1))).map (·.1) = some (tieList.filter fun x => x.2.handleName?.isNone) := by kernel_rfl
end Go.Proofs.YtnkjigjjckkaeaaGreatDoor
