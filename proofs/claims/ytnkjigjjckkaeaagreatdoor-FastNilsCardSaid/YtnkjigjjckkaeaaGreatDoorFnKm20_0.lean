/-
  OWN: a run of the abstract machine, by the kernel ((*cabinetry/bag.Bag).Add). By an AI agent. No person has read it.
-/
import Derived.Test.YtnkjigjjckkaeaaGreatDoorFnKb
set_option linter.unusedSimpArgs false
set_option maxRecDepth 100000
set_option maxHeartbeats 0
namespace Go.Proofs.YtnkjigjjckkaeaaGreatDoor
open Go Go.Mach
noncomputable section
theorem runMemo20_0 (el : Nat → Nat) : memoB Tryz.prog S2 100000 20 13 memo20_0 el = true := by kernel_rfl
end
end Go.Proofs.YtnkjigjjckkaeaaGreatDoor
