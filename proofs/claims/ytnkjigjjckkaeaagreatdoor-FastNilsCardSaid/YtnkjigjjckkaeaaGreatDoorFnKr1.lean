/-
  OWN: one run of the abstract machine, by the kernel (the kinds of bytes). By an AI agent. No person has read it.
-/
import Derived.Test.YtnkjigjjckkaeaaGreatDoorFnKa
set_option linter.unusedSimpArgs false
set_option maxRecDepth 100000
set_option maxHeartbeats 0
namespace Go.Proofs.YtnkjigjjckkaeaaGreatDoor
open Go Go.Mach
noncomputable section
theorem runKinds : isBytes kinds (runAt Tryz.prog S0 100000 79 .leaf 13) = true := by kernel_rfl
end
end Go.Proofs.YtnkjigjjckkaeaaGreatDoor
