/-
  PROVED: for every text and every truth value, cabinetrylaw13.FastNils returns true, and its arguments read behind the call as they read before; conditions: none. By an AI agent. No person has read it.
-/
import Derived.Test.YtnkjigjjckkaeaaGreatDoorFnWit
import Derived.Test.YtnkjigjjckkaeaaGreatDoorFnTie
import Derived.Test.YtnkjigjjckkaeaaGreatDoorFnJ6
import Derived.Test.YtnkjigjjckkaeaaGreatDoorFnJ
import Derived.Test.YtnkjigjjckkaeaaGreatDoorCards
import Derived.ProofKit
import Derived.Deep.DeepHandedRow
import Derived.SevenTiedAt
import Derived.Stop.Joined
namespace Go.Proofs.YtnkjigjjckkaeaaGreatDoor.PFastNils
open Go
theorem said : Rows.FastNilsSaid :=
  OpenClaim.holds_of_cond 3 Tryz.f3 rfl rfl rfl rfl rfl rfl rfl ⟨rfl, rfl, rfl, rfl, rfl⟩ rfl rfl rfl rfl rfl s_named Tryz.func3 s_joined
    s_inst s_wrap
    (fun os started H enc _ F => by rw [OpenClaim.pre_eq_preRow]; exact lifted os started H enc F)

/-- THE CARD. -/
theorem card : Rows.FastNilsCardSaid :=
  Claim7.holds_tied_plain_at .later [] _ _ _ _ said (fun _ h => by cases h) card_wf (fun _ h => by cases h) row_tie rfl ⟨rfl, rfl⟩ card_main rfl plain card_goes
end Go.Proofs.YtnkjigjjckkaeaaGreatDoor.PFastNils
