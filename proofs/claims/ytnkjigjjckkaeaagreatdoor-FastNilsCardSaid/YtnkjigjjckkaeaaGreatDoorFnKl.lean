/-
  OWN: the run of the law, by the kernel. By an AI agent. No person has read it.
-/
import Derived.Test.YtnkjigjjckkaeaaGreatDoorFnKb
set_option linter.unusedSimpArgs false
set_option maxRecDepth 100000
set_option maxHeartbeats 0
namespace Go.Proofs.YtnkjigjjckkaeaaGreatDoor
open Go Go.Mach
noncomputable section
theorem runLaw (gt gt2 : Nat) : isTrue (runWith Tryz.prog S3 100000 3 args0 (heap2 1 gt asc 3 gt2) 13) = true := by kernel_rfl
end
end Go.Proofs.YtnkjigjjckkaeaaGreatDoor
