/-
  OWN: the ties of the statement, fact by fact in modules of their own (the given text, in one process, passes the memory limit). By an AI agent. No person has read it.
-/
import Derived.Test.YtnkjigjjckkaeaaGreatDoorFnTieL
namespace Go.Proofs.YtnkjigjjckkaeaaGreatDoor
open Go
theorem t7 (os : Os) (tape : Tape) : varsDone Tryz.prog 400 (varsId Tryz.prog) os tape = true := by kernel_rfl
end Go.Proofs.YtnkjigjjckkaeaaGreatDoor
