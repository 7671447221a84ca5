/-
  OWN: closed facts of the row, by the kernel (part 3). By an AI agent, Fri Nov 20 2026. No person has read it.
-/
import Derived.Test.YthfhnjkoefbpfaaGreatDoorCards
import Derived.ProofKit
import Derived.Stop.Joined
namespace Go.Proofs.YthfhnjkoefbpfaaGreatDoor.PReportNumbers
theorem j10 : ((Rows.reportNumbersUptoRow.unfollowed == Tryz.pinned.checked.prog.unfollowed 3)) = true := by kernel_rfl
theorem j11 : ((Rows.reportNumbersUptoRow.recurses == Tryz.pinned.checked.prog.recurses 3)) = true := by kernel_rfl
end Go.Proofs.YthfhnjkoefbpfaaGreatDoor.PReportNumbers
