/-
  OWN: closed facts of the row, by the kernel. By an AI agent. No person has read it.
-/
import Derived.Test.YtnkjigjjckkaeaaGreatDoorCards
import Derived.ProofKit
import Derived.Stop.Joined
namespace Go.Proofs.YtnkjigjjckkaeaaGreatDoor.PFastNils
open Go
theorem j0 : (Rows.fastNilsRow.wf (OpenSpec.ofChange (OpenSpec.ofChange Rows.fastNilsSpec).bare)) = true := by kernel_rfl
theorem j1 : (laidOutB Tryz.pinned.checked.prog) = true := by kernel_rfl
theorem j2 : (mapsRowed Tryz.pinned.checked.prog) = true := by kernel_rfl
theorem j4 : (namedTie Tryz.pinned.checked.prog Rows.fastNilsRow.named (OpenSpec.ofChange Rows.fastNilsSpec).bare.vars) = true := by kernel_rfl
end Go.Proofs.YtnkjigjjckkaeaaGreatDoor.PFastNils
