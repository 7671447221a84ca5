/-
  OWN: the witness, and the statement's step. By an AI agent. No person has read it.
-/
import Derived.Test.YtnkjigjjckkaeaaGreatDoorFnRow
import Derived.Test.YtnkjigjjckkaeaaGreatDoorCards
import Derived.WalkKit
import Derived.ProofKit
import Derived.OpenShut
import Derived.Deep.DeepHandedRow
import Derived.Lib.LaidTab
import Derived.Lib.LaidU8
import Derived.LaidSub
import Derived.LaidMore
import Derived.LaidHandle
import Derived.Lay
import Derived.SevenTiedAt
import Derived.Stop.Joined
import Derived.WideKeyArgs
namespace Go.Proofs.YtnkjigjjckkaeaaGreatDoor.PFastNils
open Go Go.Mach Go.ChangeShapes Go.WideShapes Go.ChangeAt Go.RowKit
/-! ### The witness: no name, the number 0 -/
theorem laidMet_on {P : Program} {w0 : World} {laid : List (String × DataW Unit)} (args : Array Value)
    (hf : w0.layFits P laid [] = true) (hi : w0.layIfaces P laid (w0.layVars P laid) = true) :
    laidMet P laid ((w0.layVars P laid).forCall (fun _ _ => 0) ⟨#[], args, []⟩).memory := by
  have e1 : (laid.filter fun x => (laid.map (·.1)).contains x.1) = laid := List.filter_eq_self.2 fun x hx => List.contains_iff_mem.2 (List.mem_map.2 ⟨x, hx, rfl⟩)
  have e2 : (laid.filter fun x => !(laid.map (·.1)).contains x.1) = [] := List.filter_eq_nil_iff.2 fun x hx => by rw [List.contains_iff_mem.2 (List.mem_map.2 ⟨x, hx, rfl⟩)]; simp
  have h : laidMet P laid (w0.layVars P laid) := laidMet_layVars (w0 := w0) (laid.map (·.1)) [] (by rw [e1]) (by rw [e1]; exact hf) (by rw [e1]; exact hi) (by rw [e2]; exact LaidIn.none)
  exact h.of_heap (by simp [World.memory, World.forCall, Input.heap])
noncomputable def plainL : List (String × DataW Unit) := Rows.fastNilsRow.laid.filter fun x => x.2.handleName?.isNone
noncomputable def startW (os : Os) : World :=
  { World.holding Tryz.prog os ⟨#[], #[], []⟩ with heap := (World.holding Tryz.prog os ⟨#[], #[], []⟩).heap.modify 0 fun
      | .cells _ t frozen => .cells #[.iface 367 (.agg #[typeHandle Tryz.prog 128])] t frozen
      | o => o }
noncomputable def theW (os : Os) : World := (startW os).layVars Tryz.prog plainL
theorem theW_fits (os : Os) : (startW os).layFits Tryz.prog plainL [] = true := by kernel_rfl
theorem theW_ifaces (os : Os) : (startW os).layIfaces Tryz.prog plainL ((startW os).layVars Tryz.prog plainL) = true := by kernel_rfl
theorem theW_handle (os : Os) : (Rows.fastNilsRow.laid.filter fun x => x.2.handleName?.isSome).all (handleAtB Tryz.prog ((theW os).forCall (fun _ _ => 0) ⟨#[], #[.string ByteArray.empty, .bool false], []⟩).memory) = true := by kernel_rfl
theorem theW_laid (os : Os) : laidMetH Tryz.prog Rows.fastNilsRow.laid ((theW os).forCall (fun _ _ => 0) ⟨#[], #[.string ByteArray.empty, .bool false], []⟩).memory :=
  laidMetH_of_parts (laidMet_on _ (theW_fits os) (theW_ifaces os)) (theW_handle os)
theorem theW_shape1 (os : Os) : ((theW os).forCall (fun _ _ => 0) ⟨#[], #[.string ByteArray.empty, .bool false], []⟩).variablesZipB Tryz.prog = true := by kernel_rfl
theorem theW_shape2 (os : Os) : (((theW os).forCall (fun _ _ => 0) ⟨#[], #[.string ByteArray.empty, .bool false], []⟩).heap.toList.drop Tryz.prog.globals.size).take ((begin Tryz.prog (fun _ _ => 0) default).world.heap.size - Tryz.prog.globals.size) =
      (begin Tryz.prog (fun _ _ => 0) default).world.heap.toList.drop Tryz.prog.globals.size := by kernel_rfl
theorem theW_ok (os : Os) : Input.okWideB Tryz.prog ((theW os).forCall (fun _ _ => 0) ⟨#[], #[.string ByteArray.empty, .bool false], []⟩) 3 ⟨#[], #[.string ByteArray.empty, .bool false], []⟩ = true := by kernel_rfl
theorem theW_reads (os : Os) {H : Type} (enc : TypeId × Value → H) : ∃ places, DataW.whole enc Tryz.prog ((theW os).forCall (fun _ _ => 0) ⟨#[], #[.string ByteArray.empty, .bool false], []⟩).memory Tryz.f3.params.toList Rows.fastNilsSpec.vars false #[Value.string ByteArray.empty, Value.bool false].toList 8 = some ([.lit (.string []), .lit (.bool false)], [], places) :=
  ⟨[], by kernel_rfl⟩
theorem theW_sized (os : Os) {H : Type} (enc : TypeId × Value → H) : (OpenSpec.ofChange Rows.fastNilsSpec).bare.sizedB enc Tryz.prog Tryz.f3 false ((theW os).forCall (fun _ _ => 0) ⟨#[], #[.string ByteArray.empty, .bool false], []⟩).memory #[Value.string ByteArray.empty, Value.bool false] 8 = true := by kernel_rfl
theorem theW_pre (os : Os) (H : Type) (enc : TypeId × Value → H) : (OpenSpec.ofChange Rows.fastNilsSpec).preRow enc Tryz.prog Tryz.f3 Rows.fastNilsRow.domain false Rows.fastNilsRow.laid ((theW os).forCall (fun _ _ => 0) ⟨#[], #[.string ByteArray.empty, .bool false], []⟩).memory #[.string ByteArray.empty, .bool false] := by
  obtain ⟨places, hx⟩ := theW_reads os enc
  exact OpenSpec.preRow_of_cond 8 hx (by kernel_rfl) (fun k hk => by cases hk) (theW_sized os enc) (theW_laid os)
theorem theW_os (os : Os) : (theW os).os = os := by
  unfold theW
  rw [World.layVars_os]
  rfl

set_option maxRecDepth 100000 in
theorem lifted (os : Os) (started : os.Started) (H : Type) (enc : TypeId × Value → H) (F : Stop.Interp) :
    ReturnsInHanded {} Tryz.checked os 3 .any ((OpenSpec.ofChange Rows.fastNilsSpec).preRow enc Tryz.prog Tryz.f3 Rows.fastNilsRow.domain false Rows.fastNilsRow.laid) (((OpenSpec.ofChange Rows.fastNilsSpec).at F).post enc Tryz.prog Tryz.f3 false true false false) := by
  refine returnsInHanded_of_row (C := Tryz.checked) (s := OpenSpec.ofChange Rows.fastNilsSpec) own started (by kernel_rfl) Tryz.func3
    ⟨theW os, fun _ _ => 0, ⟨#[], #[.string ByteArray.empty, .bool false], []⟩, theW_os os, World.shaped_of_ZipB (theW_shape1 os) (theW_shape2 os), (Input.okWide_of_okWideB (base := 0) (theW_ok os)).1, (Input.okWide_of_okWideB (theW_ok os)).2, theW_pre os H enc, by
      simp only [Assume.holds]
      exact ⟨by simp, by simp, fun _ => Modest.zero, by simp, by simp⟩⟩ ?_
  intro W base args ds gs before hval hW _ hcond _ hL hsh _
  exact contract H enc W base args ds gs before hval hW hL hsh

end Go.Proofs.YtnkjigjjckkaeaaGreatDoor.PFastNils
