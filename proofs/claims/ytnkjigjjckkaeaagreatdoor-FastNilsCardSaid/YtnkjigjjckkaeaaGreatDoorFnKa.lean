/-
  OWN: what the run needs: the entries, the tables of bytes, the summaries. By an AI agent. No person has read it.
-/
import Derived.Test.YtnkjigjjckkaeaaGreatDoorProg
import Derived.Test.YtnkjigjjckkaeaaGreatDoorFnMc
import Derived.Conc.MuData
import Derived.WalkKit
import Derived.KernelRfl
set_option linter.unusedSimpArgs false
set_option maxRecDepth 100000
set_option maxHeartbeats 0
namespace Go.Proofs.YtnkjigjjckkaeaaGreatDoor
open Go Go.Mach
noncomputable section
theorem gsize : Tryz.prog.globals.size = 13 := by kernel_rfl
theorem gless : 1 < Tryz.prog.globals.size := by rw [gsize]; decide
theorem mixes : Tryz.prog.follows .mixedOrders = true := by kernel_rfl
theorem noCount : NoCount Tryz.prog := noCount_of (by kernel_rfl)
theorem ent521 : EntryOK Tryz.prog 521 .idx := ⟨_, Tryz.func521, by kernel_rfl, by kernel_rfl, by kernel_rfl, by kernel_rfl⟩
theorem ent541 : EntryOK Tryz.prog 541 .cnt := ⟨_, Tryz.func541, by kernel_rfl, by kernel_rfl, by kernel_rfl, by kernel_rfl⟩
theorem ent479 : EntryOK Tryz.prog 479 .cmp := ⟨_, Tryz.func479, by kernel_rfl, by kernel_rfl, by kernel_rfl, by kernel_rfl⟩
theorem ent395 : EntryOK Tryz.prog 395 .same := ⟨_, Tryz.func395, by kernel_rfl, by kernel_rfl, by kernel_rfl, by kernel_rfl⟩
abbrev muLink : Go.Conc.Locks.MuLink := { lock := 72, unlock := 41, ilock := 140, iunlock := 73, lockSlow := 232, unlockSlow := 144, disable := 142, enable := 145, acquire := 231, relMerge := 141, cas32 := 230, add32 := 143, tMutex := 112, tIMutex := 110, tPMutex := 157, tPIMutex := 235, tPI32 := 239, tUP := 237, tNoCopy := 107, tU32 := 108 }
theorem muLib : Go.Conc.Locks.MuLib Tryz.prog muLink :=
  ⟨Tryz.func72, Tryz.func41, Tryz.func140, Tryz.func73, Tryz.func142, Tryz.func145, Tryz.func231, Tryz.func141, Tryz.func230, Tryz.func143, Tryz.underlying110, Tryz.runUnderlying110, Tryz.sizeOf110, Tryz.isAgg110, Tryz.zeroValue110, Tryz.underlying112, Tryz.runUnderlying112, Tryz.sizeOf112, Tryz.isAgg112, Tryz.zeroValue112, Tryz.underlying157, Tryz.runUnderlying157, Tryz.sizeOf157, Tryz.isAgg157, Tryz.zeroValue157, Tryz.underlying235, Tryz.runUnderlying235, Tryz.sizeOf235, Tryz.isAgg235, Tryz.zeroValue235, Tryz.underlying239, Tryz.runUnderlying239, Tryz.sizeOf239, Tryz.isAgg239, Tryz.zeroValue239, Tryz.underlying237, Tryz.runUnderlying237, Tryz.sizeOf237, Tryz.isAgg237, Tryz.zeroValue237, Tryz.underlying107, Tryz.runUnderlying107, Tryz.sizeOf107, Tryz.isAgg107, Tryz.zeroValue107, Tryz.underlying21, Tryz.runUnderlying21, Tryz.sizeOf21, Tryz.isAgg21, Tryz.zeroValue21, (by kernel_rfl)⟩
def asc : List Nat := [0, 0, 0, 0, 0, 0, 0, 0, 0, 1, 1, 1, 1, 1, 0, 0, 0, 0, 0, 0, 0, 0, 0, 0, 0, 0, 0, 0, 0, 0, 0, 0, 1, 0, 0, 0, 0, 0, 0, 0, 0, 0, 0, 0, 0, 0, 0, 0, 0, 0, 0, 0, 0, 0, 0, 0, 0, 0, 0, 0, 0, 0, 0, 0, 0, 0, 0, 0, 0, 0, 0, 0, 0, 0, 0, 0, 0, 0, 0, 0, 0, 0, 0, 0, 0, 0, 0, 0, 0, 0, 0, 0, 0, 0, 0, 0, 0, 0, 0, 0, 0, 0, 0, 0, 0, 0, 0, 0, 0, 0, 0, 0, 0, 0, 0, 0, 0, 0, 0, 0, 0, 0, 0, 0, 0, 0, 0, 0, 0, 0, 0, 0, 0, 0, 0, 0, 0, 0, 0, 0, 0, 0, 0, 0, 0, 0, 0, 0, 0, 0, 0, 0, 0, 0, 0, 0, 0, 0, 0, 0, 0, 0, 0, 0, 0, 0, 0, 0, 0, 0, 0, 0, 0, 0, 0, 0, 0, 0, 0, 0, 0, 0, 0, 0, 0, 0, 0, 0, 0, 0, 0, 0, 0, 0, 0, 0, 0, 0, 0, 0, 0, 0, 0, 0, 0, 0, 0, 0, 0, 0, 0, 0, 0, 0, 0, 0, 0, 0, 0, 0, 0, 0, 0, 0, 0, 0, 0, 0, 0, 0, 0, 0, 0, 0, 0, 0, 0, 0, 0, 0, 0, 0, 0, 0, 0, 0, 0, 0, 0, 0, 0, 0, 0, 0, 0, 0]
theorem idle : IdleOK Tryz.prog 159 := by
  intro cargs w hc
  obtain ⟨x, rfl⟩ : ∃ x, cargs = #[x] := by
    obtain ⟨l⟩ := cargs
    match l, hc with
    | [x], _ => exact ⟨x, rfl⟩
  refine ⟨hasBody_ok noCount (by kernel_rfl), ?_⟩
  refine callsDIn_of_wpSIn Tryz.func159 rfl trivial fun c₀ cs hu => ?_
  apply wpSIn_seq
  apply wpSIn_region
  simp [wpOpsSIn, go_sem, recoverD, hu, Tryz.ntmps159, Exit.thenS]
  apply wpSIn_seq
  apply wpSIn_region
  simp [wpOpsSIn, go_sem, hu, Exit.thenS]
  refine wpSIn_cond (t := false) (by simp [Act.eval, Array.replicate]) ?_
  simp only [Bool.false_eq_true, if_false]
  refine wpSIn_of_wpIn rfl (wpIn_skip ?_)
  cases c₀
  simp_all [bodyPostS, results, Tryz.results159]
def L0 : List (Nat × (List AV → M AV)) := [(521, extK .idx), (541, extK .cnt), (479, extK .cmp), (395, extK .same), (140, sumWord 0 1), (73, sumWord 1 0)]
def D0 : List (Nat × (List AV → M AV)) := [(159, sumIdle)]
theorem D0_ok (base : Nat) : ∀ p ∈ D0, DextOK Tryz.prog base p.1 p.2 := by
  unfold D0
  exact all_cons (Q := DextOK Tryz.prog base) (dextOK_idle idle) all_nil
theorem L0_ok (base : Nat) : ∀ p ∈ L0, ExtOK Tryz.prog base p.1 p.2 := by
  unfold L0
  exact all_cons (Q := ExtOK Tryz.prog base) (extOK_entry ent521) (all_cons (Q := ExtOK Tryz.prog base) (extOK_entry ent541) (all_cons (Q := ExtOK Tryz.prog base) (extOK_entry ent479) (all_cons (Q := ExtOK Tryz.prog base) (extOK_entry ent395) (all_cons (Q := ExtOK Tryz.prog base) (extOK_ilock muLib) (all_cons (Q := ExtOK Tryz.prog base) (extOK_iunlock muLib) (all_nil))))))
def S0 : Sums := sumsOf L0 D0
theorem S0_ok (base : Nat) : SumsOK Tryz.prog base S0 := sumsOf_ok (L0_ok base) (D0_ok base)
def words : List (List Nat) := [[65, 76, 73, 65, 83], [65, 76, 76], [65, 80, 80, 69, 78, 68], [66, 69, 71, 73, 78], [66, 76, 65, 78, 75], [66, 79, 84, 84, 79, 77], [66, 82, 69, 65, 75], [67, 65, 78, 68, 73, 68, 65, 84, 69], [67, 65, 83, 69], [67, 79, 78, 84, 73, 78, 85, 69], [67, 79, 85, 78, 84], [68, 69, 76, 69, 84, 69], [68, 69, 76, 69, 84, 69, 68], [68, 69, 83, 67, 69, 78, 68, 73, 78, 71], [68, 79], [69, 76, 83, 69], [69, 76, 83, 69, 73, 70], [69, 78, 68], [69, 78, 68, 67, 65, 83, 69], [69, 78, 68, 68, 79], [69, 78, 68, 73, 70], [69, 88, 65, 67, 84], [69, 88, 73, 84], [70, 73, 76, 84, 69, 82], [70, 79, 82], [70, 85, 78, 67, 84, 73, 79, 78], [71, 79], [73, 70], [73, 78, 68, 69, 88], [73, 78, 84, 79], [76, 79, 67, 65, 76], [76, 79, 67, 65, 84, 69], [76, 79, 79, 80], [78, 69, 88, 84], [79, 70, 70], [79, 78], [79, 82, 68, 69, 82], [79, 84, 72, 69, 82, 87, 73, 83, 69], [80, 65, 67, 75], [80, 82, 73, 86, 65, 84, 69], [80, 82, 79, 67, 69, 68, 85, 82, 69], [80, 85, 66, 76, 73, 67], [82, 69, 67, 65, 76, 76], [82, 69, 67, 79, 82, 68], [82, 69, 67, 79, 86, 69, 82], [82, 69, 76, 65, 84, 73, 79, 78], [82, 69, 80, 76, 65, 67, 69], [82, 69, 83, 84], [82, 69, 84, 85, 82, 78], [83, 69, 69, 75], [83, 69, 76, 69, 67, 84], [83, 69, 81, 85, 69, 78, 67, 69], [83, 69, 84], [83, 75, 73, 80], [83, 84, 65, 84, 73, 67], [83, 84, 69, 80], [83, 85, 77], [84, 65, 71], [84, 79], [84, 79, 80], [85, 78, 73, 81, 85, 69], [85, 83, 69], [85, 83, 73, 78, 71], [87, 72, 73, 76, 69], [87, 73, 84, 72], [90, 65, 80]]
def kinds : List Nat := [4, 4, 4, 4, 4, 4, 4, 4, 4, 3, 0, 4, 4, 4, 4, 4, 4, 4, 4, 4, 4, 4, 4, 4, 4, 4, 4, 4, 4, 4, 4, 4, 3, 0, 0, 0, 0, 0, 0, 0, 0, 0, 0, 0, 0, 0, 0, 0, 2, 2, 2, 2, 2, 2, 2, 2, 2, 2, 0, 0, 0, 0, 0, 0, 0, 1, 1, 1, 1, 1, 1, 1, 1, 1, 1, 1, 1, 1, 1, 1, 1, 1, 1, 1, 1, 1, 1, 1, 1, 1, 1, 0, 0, 0, 0, 1, 0, 1, 1, 1, 1, 1, 1, 1, 1, 1, 1, 1, 1, 1, 1, 1, 1, 1, 1, 1, 1, 1, 1, 1, 1, 1, 1, 0, 0, 0, 0, 4, 4, 4, 4, 4, 4, 4, 4, 4, 4, 4, 4, 4, 4, 4, 4, 4, 4, 4, 4, 4, 4, 4, 4, 4, 4, 4, 4, 4, 4, 4, 4, 4, 4, 4, 4, 4, 4, 4, 4, 4, 4, 4, 4, 4, 4, 4, 4, 4, 4, 4, 4, 4, 4, 4, 4, 4, 4, 4, 4, 4, 4, 4, 4, 4, 4, 4, 4, 4, 4, 4, 4, 4, 4, 4, 4, 4, 4, 4, 4, 4, 4, 4, 4, 4, 4, 4, 4, 4, 4, 4, 4, 4, 4, 4, 4, 4, 4, 4, 4, 4, 4, 4, 4, 4, 4, 4, 4, 4, 4, 4, 4, 4, 4, 4, 4, 4, 4, 4, 4, 4, 4, 4, 4, 4, 4, 4, 4, 4]
def ops16 : List (List Nat) := [[36], [37], [42], [43], [45], [46, 65, 78, 68, 46], [46, 79, 82, 46], [47], [60], [60, 61], [60, 62], [61], [61, 61], [62], [62, 61], [94]]
theorem ascLen : asc.length = 256 := by kernel_rfl
end
end Go.Proofs.YtnkjigjjckkaeaaGreatDoor
