/-
  OWN: closed facts of the row, by the kernel. By an AI agent. No person has read it.
-/
import Derived.Test.YtnkjigjjckkaeaaGreatDoorCards
import Derived.ProofKit
import Derived.Stop.Joined
namespace Go.Proofs.YtnkjigjjckkaeaaGreatDoor.PFastNils
open Go
theorem j10 : ((Rows.fastNilsRow.unfollowed == Tryz.pinned.checked.prog.unfollowed 3)) = true := by kernel_rfl
theorem j11 : ((Rows.fastNilsRow.recurses == Tryz.pinned.checked.prog.recurses 3)) = true := by kernel_rfl
end Go.Proofs.YtnkjigjjckkaeaaGreatDoor.PFastNils
