/-
  OWN: one run of the abstract machine, by the kernel (runLaw1). By an AI agent. No person has read it.
-/
import Derived.Test.YtflbbhnajbkmfaaGreatDoorFnKa
set_option linter.unusedSimpArgs false
set_option maxRecDepth 100000
set_option maxHeartbeats 0
namespace Go.Proofs.YtflbbhnajbkmfaaGreatDoor
open Go Go.Mach
noncomputable section
theorem runLaw1 (gt : Nat) : isTrue (runWith Tryz.prog S0 100000 3 args1 (heap1 3 gt asc) 13) = true := by kernel_rfl
end
end Go.Proofs.YtflbbhnajbkmfaaGreatDoor
