/-
  OWN: what the runs come to, whatever the tape answers. By an AI agent. No person has read it.
-/
import Derived.Test.YtflbbhnajbkmfaaGreatDoorFnKr0
import Derived.Test.YtflbbhnajbkmfaaGreatDoorFnKr1
set_option linter.unusedSimpArgs false
set_option maxRecDepth 100000
set_option maxHeartbeats 0
namespace Go.Proofs.YtflbbhnajbkmfaaGreatDoor
open Go Go.Mach
noncomputable section
theorem lawBody : hasBody Tryz.prog 3 = true := by kernel_rfl
theorem law_true0 : FunOK Tryz.prog 3 3 asc args0 := funOK_of S0_ok mixes noCount gsize (by decide) lawBody runLaw0
theorem law_true1 : FunOK Tryz.prog 3 3 asc args1 := funOK_of S0_ok mixes noCount gsize (by decide) lawBody runLaw1

end
end Go.Proofs.YtflbbhnajbkmfaaGreatDoor
