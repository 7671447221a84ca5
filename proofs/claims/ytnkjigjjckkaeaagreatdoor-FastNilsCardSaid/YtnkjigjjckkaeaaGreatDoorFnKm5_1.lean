/-
  OWN: a run of the abstract machine, by the kernel (cabinetry/fast.Fast). By an AI agent. No person has read it.
-/
import Derived.Test.YtnkjigjjckkaeaaGreatDoorFnKb
set_option linter.unusedSimpArgs false
set_option maxRecDepth 100000
set_option maxHeartbeats 0
namespace Go.Proofs.YtnkjigjjckkaeaaGreatDoor
open Go Go.Mach
noncomputable section
theorem runMemo5_1 (el : Nat → Nat) : memoB Tryz.prog S2 100000 5 13 memo5_1 el = true := by kernel_rfl
end
end Go.Proofs.YtnkjigjjckkaeaaGreatDoor
