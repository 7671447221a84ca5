/-
  OWN: what the runs come to, whatever the tape answers. By an AI agent. No person has read it.
-/
import Derived.Test.YtnkjigjjckkaeaaGreatDoorFnKr0
import Derived.Test.YtnkjigjjckkaeaaGreatDoorFnKr1
import Derived.Test.YtnkjigjjckkaeaaGreatDoorFnOps
import Derived.Test.YtnkjigjjckkaeaaGreatDoorFnKt348
import Derived.Test.YtnkjigjjckkaeaaGreatDoorFnKt138
import Derived.Test.YtnkjigjjckkaeaaGreatDoorFnKt69
import Derived.Test.YtnkjigjjckkaeaaGreatDoorFnKt378
import Derived.Test.YtnkjigjjckkaeaaGreatDoorFnKt238
import Derived.Test.YtnkjigjjckkaeaaGreatDoorFnKt122
import Derived.Test.YtnkjigjjckkaeaaGreatDoorFnKm5_0
import Derived.Test.YtnkjigjjckkaeaaGreatDoorFnKm5_1
import Derived.Test.YtnkjigjjckkaeaaGreatDoorFnKm6_0
import Derived.Test.YtnkjigjjckkaeaaGreatDoorFnKm6_1
import Derived.Test.YtnkjigjjckkaeaaGreatDoorFnKm19_0
import Derived.Test.YtnkjigjjckkaeaaGreatDoorFnKm20_0
import Derived.Test.YtnkjigjjckkaeaaGreatDoorFnKl
set_option linter.unusedSimpArgs false
set_option maxRecDepth 100000
set_option maxHeartbeats 0
namespace Go.Proofs.YtnkjigjjckkaeaaGreatDoor
open Go Go.Mach
noncomputable section
theorem containsOK (base : Nat) : ExtOK Tryz.prog base 173 (sumContains 3) :=
  extOK_contains (by rw [gsize]; decide) (fun _ _ => hasBody_ok noCount (by kernel_rfl)) fun s sub m w hs hm => Any.strings_Contains { Tryz.laysMHas with } s sub m w hs hm
theorem wordsOK (base : Nat) : ExtOK Tryz.prog base 160 (sumTexts 1 asc 9 words) := extOK_texts S0_ok mixes noCount gsize (by decide) runWords
theorem kindsOK (base : Nat) : ExtOK Tryz.prog base 79 (sumBytes kinds) := extOK_bytes S0_ok mixes noCount gsize runKinds
theorem L1_ok (base : Nat) : ∀ p ∈ L1, ExtOK Tryz.prog base p.1 p.2 := by
  unfold L1
  exact all_cons (Q := ExtOK Tryz.prog base) (wordsOK base) (all_cons (Q := ExtOK Tryz.prog base) (kindsOK base) (all_cons (Q := ExtOK Tryz.prog base) (operators_ok base) (all_cons (Q := ExtOK Tryz.prog base) (containsOK base) (L0_ok base))))
theorem S1_ok (base : Nat) : SumsOK Tryz.prog base S1 := sumsOf_ok (L1_ok base) (D0_ok base)
theorem L2_ok (base : Nat) : ∀ p ∈ L2, ExtOK Tryz.prog base p.1 p.2 := by
  unfold L2
  exact all_cons (Q := ExtOK Tryz.prog base) (extOK_tab S1_ok mixes noCount gsize runTab348) (all_cons (Q := ExtOK Tryz.prog base) (extOK_tab S1_ok mixes noCount gsize runTab138) (all_cons (Q := ExtOK Tryz.prog base) (extOK_tab S1_ok mixes noCount gsize runTab69) (all_cons (Q := ExtOK Tryz.prog base) (extOK_tab S1_ok mixes noCount gsize runTab378) (all_cons (Q := ExtOK Tryz.prog base) (extOK_tab S1_ok mixes noCount gsize runTab238) (all_cons (Q := ExtOK Tryz.prog base) (extOK_tab S1_ok mixes noCount gsize runTab122) (L1_ok base))))))
theorem S2_ok (base : Nat) : SumsOK Tryz.prog base S2 := sumsOf_ok (L2_ok base) (D0_ok base)
theorem memos5_ok : ∀ m ∈ memos5, ∀ el, memoB Tryz.prog S2 100000 5 13 m el = true := by
  unfold memos5
  exact List.forall_mem_cons.2 ⟨runMemo5_0, List.forall_mem_cons.2 ⟨runMemo5_1, fun _ h => by cases h⟩⟩
theorem memos6_ok : ∀ m ∈ memos6, ∀ el, memoB Tryz.prog S2 100000 6 13 m el = true := by
  unfold memos6
  exact List.forall_mem_cons.2 ⟨runMemo6_0, List.forall_mem_cons.2 ⟨runMemo6_1, fun _ h => by cases h⟩⟩
theorem memos19_ok : ∀ m ∈ memos19, ∀ el, memoB Tryz.prog S2 100000 19 13 m el = true := by
  unfold memos19
  exact List.forall_mem_cons.2 ⟨runMemo19_0, fun _ h => by cases h⟩
theorem memos20_ok : ∀ m ∈ memos20, ∀ el, memoB Tryz.prog S2 100000 20 13 m el = true := by
  unfold memos20
  exact List.forall_mem_cons.2 ⟨runMemo20_0, fun _ h => by cases h⟩
theorem L3_ok (base : Nat) : ∀ p ∈ L3, ExtOK Tryz.prog base p.1 p.2 := by
  unfold L3
  exact all_cons (Q := ExtOK Tryz.prog base) (extOK_memo S2_ok mixes noCount gsize memos5_ok) (all_cons (Q := ExtOK Tryz.prog base) (extOK_memo S2_ok mixes noCount gsize memos6_ok) (all_cons (Q := ExtOK Tryz.prog base) (extOK_memo S2_ok mixes noCount gsize memos19_ok) (all_cons (Q := ExtOK Tryz.prog base) (extOK_memo S2_ok mixes noCount gsize memos20_ok) (L2_ok base))))
theorem S3_ok (base : Nat) : SumsOK Tryz.prog base S3 := sumsOf_ok (L3_ok base) (D0_ok base)
theorem lawBody : hasBody Tryz.prog 3 = true := by kernel_rfl
/-- The law is true, whatever the tape answers. -/
theorem law_true : LawOK Tryz.prog 3 1 asc 3 args0 := lawOK_of S3_ok mixes noCount gsize (by decide) (by decide) lawBody runLaw
end
end Go.Proofs.YtnkjigjjckkaeaaGreatDoor
