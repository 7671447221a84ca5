/-
  OWN: one run of the abstract machine, by the kernel (runKinds). By an AI agent, Fri Nov 20 2026. No person has read it.
-/
import Derived.Test.YthfhnjkoefbpfaaGreatDoorFnKa
set_option linter.unusedSimpArgs false
set_option maxRecDepth 100000
set_option maxHeartbeats 0
namespace Go.Proofs.YthfhnjkoefbpfaaGreatDoor
open Go Go.Mach
noncomputable section
theorem runKinds : isBytes kinds (runAt Tryz.prog S0 100000 98 .leaf 13) = true := by kernel_rfl
end
end Go.Proofs.YthfhnjkoefbpfaaGreatDoor
