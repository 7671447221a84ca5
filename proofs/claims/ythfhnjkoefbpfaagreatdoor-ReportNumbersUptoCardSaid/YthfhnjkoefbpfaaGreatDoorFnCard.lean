/-
  PROVED: for every slice of slices of strings whose reading is of bulk at most 1048576, cabinetrylaw27.ReportNumbers returns true, and its argument reads behind the call as it read before; conditions: the statement's own, nothing beside. By an AI agent, Fri Nov 20 2026. No person has read it.
-/
import Derived.Test.YthfhnjkoefbpfaaGreatDoorFnWit
import Derived.Test.YthfhnjkoefbpfaaGreatDoorFnTie
import Derived.Test.YthfhnjkoefbpfaaGreatDoorFnJ6
import Derived.Test.YthfhnjkoefbpfaaGreatDoorFnJ
import Derived.Test.YthfhnjkoefbpfaaGreatDoorCards
import Derived.WalkKit
import Derived.ProofKit
import Derived.OpenShut
import Derived.Deep.DeepHandedRow
import Derived.Deep.Strs
import Derived.Lib.LaidTab
import Derived.Lib.LaidU8
import Derived.LaidSub
import Derived.LaidMore
import Derived.LaidHandle
import Derived.Lay
import Derived.SevenTiedAt
import Derived.Stop.Joined
import Derived.WideKeyArgs
namespace Go.Proofs.YthfhnjkoefbpfaaGreatDoor.PReportNumbers
open Go.ChangeShapes Go.WideShapes Go.ChangeAt Go.RowKit Go.Proofs.YthfhnjkoefbpfaaGreatDoorW.PrintWords Go.Proofs.YthfhnjkoefbpfaaGreatDoorW.PrintLast Go.Proofs.YthfhnjkoefbpfaaGreatDoorW.PrintMore


theorem saidUpto : Rows.ReportNumbersUptoSaid :=
  OpenClaim.holds_of_cond 3 Tryz.f3 rfl rfl rfl rfl rfl rfl rfl ⟨rfl, rfl, rfl, rfl, rfl⟩ rfl rfl rfl rfl rfl s_named Tryz.func3 s_joined
    s_inst s_wrap
    (fun os started H enc _ F => by rw [OpenClaim.pre_eq_preRow]; exact liftedUpto os started H enc F)

/-- THE CARD. -/
theorem cardUpto : Rows.ReportNumbersUptoCardSaid :=
  Claim7.holds_tied_plain_at .later [] _ _ _ _ saidUpto (fun _ h => by cases h) card_wf (fun _ h => by cases h) reportNumbersUpto_row_tie rfl ⟨rfl, rfl⟩ card_main rfl plain card_goes
end Go.Proofs.YthfhnjkoefbpfaaGreatDoor.PReportNumbers
