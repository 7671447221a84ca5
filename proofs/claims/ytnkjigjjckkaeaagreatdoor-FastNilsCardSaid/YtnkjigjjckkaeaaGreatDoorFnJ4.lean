/-
  OWN: closed facts of the row, by the kernel. By an AI agent. No person has read it.
-/
import Derived.Test.YtnkjigjjckkaeaaGreatDoorCards
import Derived.ProofKit
import Derived.Stop.Joined
namespace Go.Proofs.YtnkjigjjckkaeaaGreatDoor.PFastNils
open Go
theorem j12 : ((Rows.fastNilsRow.named == Tryz.pinned.checked.prog.varsNamed 3)) = true := by kernel_rfl
end Go.Proofs.YtnkjigjjckkaeaaGreatDoor.PFastNils
