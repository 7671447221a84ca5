/-
  OWN: what the chapter's known() comes to: true, whatever the tape answers. By an AI agent, Fri Nov 20 2026. No person has read it.
-/
import Derived.Test.YthfhnjkoefbpfaaGreatDoorFnKw
import Derived.Test.YthfhnjkoefbpfaaGreatDoorFnKk
import Derived.Test.YthfhnjkoefbpfaaGreatDoorFnKn
set_option linter.unusedSimpArgs false
set_option maxRecDepth 100000
set_option maxHeartbeats 0
namespace Go.Proofs.YthfhnjkoefbpfaaGreatDoor
open Go Go.Mach
noncomputable section
theorem wordsOK (base : Nat) : ExtOK Tryz.prog base 138 (sumTexts 5 asc 9 words) := extOK_texts S0_ok mixes noCount gsize (by decide) runWords
theorem kindsOK (base : Nat) : ExtOK Tryz.prog base 98 (sumBytes kinds) := extOK_bytes S0_ok mixes noCount gsize runKinds
theorem L1_ok (base : Nat) : ∀ p ∈ L1, ExtOK Tryz.prog base p.1 p.2 := by
  unfold L1
  exact all_cons (Q := ExtOK Tryz.prog base) (wordsOK base) (all_cons (Q := ExtOK Tryz.prog base) (kindsOK base) (L0_ok base))
theorem S1_ok (base : Nat) : SumsOK Tryz.prog base S1 := sumsOf_ok (L1_ok base) (D0_ok base)
theorem knownBody : hasBody Tryz.prog 5 = true := by kernel_rfl
theorem ascLen : asc.length = 256 := by kernel_rfl
/-- known() is true, in whatever memory in which the table of blanks lies. -/
theorem known_true : KnownOK Tryz.prog 5 5 asc := knownOK_of S1_ok mixes noCount gsize (by decide) knownBody runKnown

end
end Go.Proofs.YthfhnjkoefbpfaaGreatDoor
