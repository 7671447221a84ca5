/-
  OWN: closed facts of the row, by the kernel. By an AI agent. No person has read it.
-/
import Derived.Test.YtflbbhnajbkmfaaGreatDoorCards
import Derived.ProofKit
import Derived.Stop.Joined
namespace Go.Proofs.YtflbbhnajbkmfaaGreatDoor.PRuleNil
open Go
theorem j12 : ((Rows.ruleNilRow.named == Tryz.pinned.checked.prog.varsNamed 3)) = true := by kernel_rfl
end Go.Proofs.YtflbbhnajbkmfaaGreatDoor.PRuleNil
