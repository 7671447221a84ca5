/-
  OWN: what the chapter's known() needs: the entries, the tables, the summaries. By an AI agent. No person has read it.
-/
import Derived.Test.YtflbbhnajbkmfaaGreatDoorProg
import Derived.Test.YtflbbhnajbkmfaaGreatDoorFnMb
import Derived.Conc.MuData
import Derived.WalkKit
import Derived.KernelRfl
set_option linter.unusedSimpArgs false
set_option maxRecDepth 100000
set_option maxHeartbeats 0
namespace Go.Proofs.YtflbbhnajbkmfaaGreatDoor
open Go Go.Mach
noncomputable section
theorem gsize : Tryz.prog.globals.size = 13 := by kernel_rfl
theorem gless : 3 < Tryz.prog.globals.size := by rw [gsize]; decide
theorem mixes : Tryz.prog.follows .mixedOrders = true := by kernel_rfl
theorem noCount : NoCount Tryz.prog := noCount_of (by kernel_rfl)
theorem ent440 : EntryOK Tryz.prog 440 .idx := ⟨_, Tryz.func440, by kernel_rfl, by kernel_rfl, by kernel_rfl, by kernel_rfl⟩
theorem ent464 : EntryOK Tryz.prog 464 .cnt := ⟨_, Tryz.func464, by kernel_rfl, by kernel_rfl, by kernel_rfl, by kernel_rfl⟩
theorem ent420 : EntryOK Tryz.prog 420 .cmp := ⟨_, Tryz.func420, by kernel_rfl, by kernel_rfl, by kernel_rfl, by kernel_rfl⟩
theorem ent360 : EntryOK Tryz.prog 360 .same := ⟨_, Tryz.func360, by kernel_rfl, by kernel_rfl, by kernel_rfl, by kernel_rfl⟩
abbrev muLink : Go.Conc.Locks.MuLink := { lock := 25, unlock := 26, ilock := 65, iunlock := 66, lockSlow := 108, unlockSlow := 111, disable := 104, enable := 106, acquire := 107, relMerge := 109, cas32 := 105, add32 := 110, tMutex := 71, tIMutex := 69, tPMutex := 137, tPIMutex := 189, tPI32 := 191, tUP := 193, tNoCopy := 66, tU32 := 67 }
theorem muLib : Go.Conc.Locks.MuLib Tryz.prog muLink :=
  ⟨Tryz.func25, Tryz.func26, Tryz.func65, Tryz.func66, Tryz.func104, Tryz.func106, Tryz.func107, Tryz.func109, Tryz.func105, Tryz.func110, Tryz.underlying69, Tryz.runUnderlying69, Tryz.sizeOf69, Tryz.isAgg69, Tryz.zeroValue69, Tryz.underlying71, Tryz.runUnderlying71, Tryz.sizeOf71, Tryz.isAgg71, Tryz.zeroValue71, Tryz.underlying137, Tryz.runUnderlying137, Tryz.sizeOf137, Tryz.isAgg137, Tryz.zeroValue137, Tryz.underlying189, Tryz.runUnderlying189, Tryz.sizeOf189, Tryz.isAgg189, Tryz.zeroValue189, Tryz.underlying191, Tryz.runUnderlying191, Tryz.sizeOf191, Tryz.isAgg191, Tryz.zeroValue191, Tryz.underlying193, Tryz.runUnderlying193, Tryz.sizeOf193, Tryz.isAgg193, Tryz.zeroValue193, Tryz.underlying66, Tryz.runUnderlying66, Tryz.sizeOf66, Tryz.isAgg66, Tryz.zeroValue66, Tryz.underlying21, Tryz.runUnderlying21, Tryz.sizeOf21, Tryz.isAgg21, Tryz.zeroValue21, (by kernel_rfl)⟩
def asc : List Nat := [0, 0, 0, 0, 0, 0, 0, 0, 0, 1, 1, 1, 1, 1, 0, 0, 0, 0, 0, 0, 0, 0, 0, 0, 0, 0, 0, 0, 0, 0, 0, 0, 1, 0, 0, 0, 0, 0, 0, 0, 0, 0, 0, 0, 0, 0, 0, 0, 0, 0, 0, 0, 0, 0, 0, 0, 0, 0, 0, 0, 0, 0, 0, 0, 0, 0, 0, 0, 0, 0, 0, 0, 0, 0, 0, 0, 0, 0, 0, 0, 0, 0, 0, 0, 0, 0, 0, 0, 0, 0, 0, 0, 0, 0, 0, 0, 0, 0, 0, 0, 0, 0, 0, 0, 0, 0, 0, 0, 0, 0, 0, 0, 0, 0, 0, 0, 0, 0, 0, 0, 0, 0, 0, 0, 0, 0, 0, 0, 0, 0, 0, 0, 0, 0, 0, 0, 0, 0, 0, 0, 0, 0, 0, 0, 0, 0, 0, 0, 0, 0, 0, 0, 0, 0, 0, 0, 0, 0, 0, 0, 0, 0, 0, 0, 0, 0, 0, 0, 0, 0, 0, 0, 0, 0, 0, 0, 0, 0, 0, 0, 0, 0, 0, 0, 0, 0, 0, 0, 0, 0, 0, 0, 0, 0, 0, 0, 0, 0, 0, 0, 0, 0, 0, 0, 0, 0, 0, 0, 0, 0, 0, 0, 0, 0, 0, 0, 0, 0, 0, 0, 0, 0, 0, 0, 0, 0, 0, 0, 0, 0, 0, 0, 0, 0, 0, 0, 0, 0, 0, 0, 0, 0, 0, 0, 0, 0, 0, 0, 0, 0, 0, 0, 0, 0, 0, 0]
theorem idle : IdleOK Tryz.prog 241 := by
  intro cargs w hc
  obtain ⟨x, rfl⟩ : ∃ x, cargs = #[x] := by
    obtain ⟨l⟩ := cargs
    match l, hc with
    | [x], _ => exact ⟨x, rfl⟩
  refine ⟨hasBody_ok noCount (by kernel_rfl), ?_⟩
  refine callsDIn_of_wpSIn Tryz.func241 rfl trivial fun c₀ cs hu => ?_
  apply wpSIn_seq
  apply wpSIn_region
  simp [wpOpsSIn, go_sem, recoverD, hu, Tryz.ntmps241, Exit.thenS]
  apply wpSIn_seq
  apply wpSIn_region
  simp [wpOpsSIn, go_sem, hu, Exit.thenS]
  refine wpSIn_cond (t := false) (by simp [Act.eval, Array.replicate]) ?_
  simp only [Bool.false_eq_true, if_false]
  refine wpSIn_of_wpIn rfl (wpIn_skip ?_)
  cases c₀
  simp_all [bodyPostS, results, Tryz.results241]
def L0 : List (Nat × (List AV → M AV)) := [(440, extK .idx), (464, extK .cnt), (420, extK .cmp), (360, extK .same), (65, sumWord 0 1), (66, sumWord 1 0)]
def D0 : List (Nat × (List AV → M AV)) := [(241, sumIdle)]
theorem D0_ok (base : Nat) : ∀ p ∈ D0, DextOK Tryz.prog base p.1 p.2 := by
  unfold D0
  exact all_cons (Q := DextOK Tryz.prog base) (dextOK_idle idle) all_nil
theorem L0_ok (base : Nat) : ∀ p ∈ L0, ExtOK Tryz.prog base p.1 p.2 := by
  unfold L0
  exact all_cons (Q := ExtOK Tryz.prog base) (extOK_entry ent440) (all_cons (Q := ExtOK Tryz.prog base) (extOK_entry ent464) (all_cons (Q := ExtOK Tryz.prog base) (extOK_entry ent420) (all_cons (Q := ExtOK Tryz.prog base) (extOK_entry ent360) (all_cons (Q := ExtOK Tryz.prog base) (extOK_ilock muLib) (all_cons (Q := ExtOK Tryz.prog base) (extOK_iunlock muLib) (all_nil))))))
def S0 : Sums := sumsOf L0 D0
theorem S0_ok (base : Nat) : SumsOK Tryz.prog base S0 := sumsOf_ok (L0_ok base) (D0_ok base)
def args0 : List AV := [.strG 131072 false, .unk]
def args1 : List AV := [.strG 131072 true, .unk]
end
end Go.Proofs.YtflbbhnajbkmfaaGreatDoor
