/-
  OWN: the ties of the statement ReportNumbersUpto, fact by fact in modules of their own (the given text, in one process, passes the memory limit). By an AI agent, Fri Nov 20 2026.
-/
import Derived.Test.YthfhnjkoefbpfaaGreatDoorFnTieL
namespace Go.Proofs.YthfhnjkoefbpfaaGreatDoor
open Go
theorem t7 (os : Os) (tape : Tape) : varsDone Tryz.prog 400 (varsId Tryz.prog) os tape = true := by kernel_rfl
end Go.Proofs.YthfhnjkoefbpfaaGreatDoor
