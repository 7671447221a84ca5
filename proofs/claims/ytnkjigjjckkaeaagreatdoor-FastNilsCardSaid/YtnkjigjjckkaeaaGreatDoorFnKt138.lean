/-
  OWN: runs of the abstract machine, by the kernel (cabinetry/val.Validate). By an AI agent. No person has read it.
-/
import Derived.Test.YtnkjigjjckkaeaaGreatDoorFnKb
set_option linter.unusedSimpArgs false
set_option maxRecDepth 100000
set_option maxHeartbeats 0
namespace Go.Proofs.YtnkjigjjckkaeaaGreatDoor
open Go Go.Mach
noncomputable section
theorem runTab138 : tabRuns Tryz.prog S1 100000 138 13 tab138 = true := by kernel_rfl
end
end Go.Proofs.YtnkjigjjckkaeaaGreatDoor
