/-
  OWN: closed facts of the row, by the kernel. By an AI agent. No person has read it.
-/
import Derived.Test.YtflbbhnajbkmfaaGreatDoorCards
import Derived.ProofKit
import Derived.Stop.Joined
namespace Go.Proofs.YtflbbhnajbkmfaaGreatDoor.PRuleNil
open Go
theorem j10 : ((Rows.ruleNilRow.unfollowed == Tryz.pinned.checked.prog.unfollowed 3)) = true := by kernel_rfl
theorem j11 : ((Rows.ruleNilRow.recurses == Tryz.pinned.checked.prog.recurses 3)) = true := by kernel_rfl
end Go.Proofs.YtflbbhnajbkmfaaGreatDoor.PRuleNil
