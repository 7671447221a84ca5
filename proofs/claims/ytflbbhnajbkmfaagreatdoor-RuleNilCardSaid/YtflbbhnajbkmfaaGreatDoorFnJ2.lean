/-
  OWN: closed facts of the row, by the kernel. By an AI agent. No person has read it.
-/
import Derived.Test.YtflbbhnajbkmfaaGreatDoorCards
import Derived.ProofKit
import Derived.Stop.Joined
namespace Go.Proofs.YtflbbhnajbkmfaaGreatDoor.PRuleNil
open Go
theorem j9 : ((Rows.ruleNilRow.inPlace == Tryz.pinned.checked.prog.inPlace 3)) = true := by kernel_rfl
end Go.Proofs.YtflbbhnajbkmfaaGreatDoor.PRuleNil
