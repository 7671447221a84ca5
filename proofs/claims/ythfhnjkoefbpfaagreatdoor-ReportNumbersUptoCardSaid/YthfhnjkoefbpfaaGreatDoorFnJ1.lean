/-
  OWN: closed facts of the row, by the kernel (part 1). By an AI agent, Fri Nov 20 2026. No person has read it.
-/
import Derived.Test.YthfhnjkoefbpfaaGreatDoorCards
import Derived.ProofKit
import Derived.Stop.Joined
namespace Go.Proofs.YthfhnjkoefbpfaaGreatDoor.PReportNumbers
theorem j0 : (Rows.reportNumbersUptoRow.wf (OpenSpec.ofChange (Rows.OpenSpec.upto Rows.reportNumbersSpec).bare)) = true := by kernel_rfl
theorem j1 : (laidOutB Tryz.pinned.checked.prog) = true := by kernel_rfl
theorem j2 : (mapsRowed Tryz.pinned.checked.prog) = true := by kernel_rfl
theorem j4 : (namedTie Tryz.pinned.checked.prog Rows.reportNumbersUptoRow.named (Rows.OpenSpec.upto Rows.reportNumbersSpec).bare.vars) = true := by kernel_rfl
end Go.Proofs.YthfhnjkoefbpfaaGreatDoor.PReportNumbers
