/-
  OWN: closed facts of the row and of its card, by the kernel. By an AI agent. No person has read it.
-/
import Derived.Test.YtnkjigjjckkaeaaGreatDoorCards
import Derived.ProofKit
import Derived.Stop.Joined
namespace Go.Proofs.YtnkjigjjckkaeaaGreatDoor.PFastNils
open Go
theorem s_named : Tryz.pinned.checked.prog.funcNamed Rows.fastNilsRow.func = some 3 := by kernel_rfl
theorem s_wrap : Tryz.f3.isWrapper Tryz.pinned.checked.prog Rows.fastNilsRow.wrapper Rows.fastNilsRow.mainSum := by unfold Func.isWrapper; first | (rw [if_pos (by decide +kernel)]; kernel_rfl) | (rw [if_neg (by decide +kernel)]; exact ⟨rfl, rfl⟩)
theorem s_inst : Tryz.f3.isInstance Tryz.pinned.checked.prog Rows.fastNilsRow.origin Rows.fastNilsRow.targs := of_decide_eq_true (by kernel_rfl)
theorem card_wf : Rows.fastNilsRow.wfByText (OpenSpec.ofChange Rows.fastNilsSpec) = true := by kernel_rfl
theorem card_main : Tryz.pinned.checked.prog.mainIs = some (true, "15fdeaed2b47653d73de732c3eee2eaa4fead984dc5a14b6998f374fbf100ef3".toList) := by kernel_rfl
theorem looks0 : true = Tryz.pinned.checked.prog.looks [] := by kernel_rfl
theorem wants0 : (Tryz.f3.params.all fun t => !Tryz.prog.wantsStandIn t) = true := by kernel_rfl
theorem plain (f : FuncId) (fn : Func) (hf : Tryz.pinned.checked.prog.funcNamed "cabinetry/cabinetrylaw13.FastNils" = some f) (hfn : Tryz.pinned.checked.prog.funcs[f]? = some fn) :
    true = Tryz.pinned.checked.prog.looks [] ∧ ∀ (j : Nat) t, fn.params[j]? = some t → Tryz.pinned.checked.prog.wantsStandIn t = false := by
  obtain rfl : f = 3 := Option.some.inj ((show Tryz.prog.funcNamed "cabinetry/cabinetrylaw13.FastNils" = some 3 by kernel_rfl).symm.trans hf) |>.symm
  obtain rfl : fn = Tryz.f3 := (Option.some.inj (Tryz.func3.symm.trans hfn)).symm
  refine ⟨looks0, fun j t ht => ?_⟩
  have h := Array.all_eq_true'.1 wants0 t (Array.mem_of_getElem? ht)
  have h' : Tryz.prog.wantsStandIn t = false := by simpa using h
  exact h'
theorem no_go : Tryz.pinned.checked.prog.funcs.any Func.goes = false := by kernel_rfl
theorem goes_of {P : Program} (h : P.funcs.any Func.goes = false) (f : FuncId) : P.goes f = false := by
  unfold Program.goes
  rw [h, Bool.and_false, Bool.or_false, List.any_eq_false]
  intro g _
  cases hg : P.funcs[g]? with
  | none => simp
  | some fn =>
    obtain ⟨hlt, rfl⟩ := Array.getElem?_eq_some_iff.1 hg
    have := Array.any_eq_false.1 h g hlt
    simpa using this
theorem goesAt_of {P : Program} (h : P.funcs.any Func.goes = false) (func : String) : P.goesAt .entering func = false := by
  unfold Program.goesAt Program.goesFrom
  cases P.funcNamed func with
  | none => rfl
  | some f => show (P.goes f || false) = false; rw [goes_of h f]; rfl
theorem goesBy_of {P : Program} (h : P.funcs.any Func.goes = false) (c : OpenClaim) (hs : c.start = .entering) : false = c.goesBy P := by
  unfold OpenClaim.goesBy
  rw [hs, goesAt_of h]
theorem row_start : Rows.fastNilsRow.start = .entering := rfl
theorem card_goes : false = Rows.fastNilsRow.goesBy Tryz.pinned.checked.prog := goesBy_of no_go _ row_start
end Go.Proofs.YtnkjigjjckkaeaaGreatDoor.PFastNils
