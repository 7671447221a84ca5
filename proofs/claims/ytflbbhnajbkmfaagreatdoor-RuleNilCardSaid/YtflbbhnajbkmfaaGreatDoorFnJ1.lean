/-
  OWN: closed facts of the row, by the kernel. By an AI agent. No person has read it.
-/
import Derived.Test.YtflbbhnajbkmfaaGreatDoorCards
import Derived.ProofKit
import Derived.Stop.Joined
namespace Go.Proofs.YtflbbhnajbkmfaaGreatDoor.PRuleNil
open Go
theorem j0 : (Rows.ruleNilRow.wf (OpenSpec.ofChange (OpenSpec.ofChange Rows.ruleNilSpec).bare)) = true := by kernel_rfl
theorem j1 : (laidOutB Tryz.pinned.checked.prog) = true := by kernel_rfl
theorem j2 : (mapsRowed Tryz.pinned.checked.prog) = true := by kernel_rfl
theorem j4 : (namedTie Tryz.pinned.checked.prog Rows.ruleNilRow.named (OpenSpec.ofChange Rows.ruleNilSpec).bare.vars) = true := by kernel_rfl
end Go.Proofs.YtflbbhnajbkmfaaGreatDoor.PRuleNil
