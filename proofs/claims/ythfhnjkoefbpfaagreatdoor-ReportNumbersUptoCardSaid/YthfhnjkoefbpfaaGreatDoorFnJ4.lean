/-
  OWN: closed facts of the row, by the kernel (part 4). By an AI agent, Fri Nov 20 2026. No person has read it.
-/
import Derived.Test.YthfhnjkoefbpfaaGreatDoorCards
import Derived.ProofKit
import Derived.Stop.Joined
namespace Go.Proofs.YthfhnjkoefbpfaaGreatDoor.PReportNumbers
theorem j12 : ((Rows.reportNumbersUptoRow.named == Tryz.pinned.checked.prog.varsNamed 3)) = true := by kernel_rfl
end Go.Proofs.YthfhnjkoefbpfaaGreatDoor.PReportNumbers
