/-
  OWN: closed facts of the row and of its card, by the kernel (part 6). By an AI agent, Fri Nov 20 2026. No person has read it.
-/
import Derived.Test.YthfhnjkoefbpfaaGreatDoorCards
import Derived.ProofKit
import Derived.Stop.Joined
namespace Go.Proofs.YthfhnjkoefbpfaaGreatDoor.PReportNumbers
theorem s_named : Tryz.pinned.checked.prog.funcNamed Rows.reportNumbersUptoRow.func = some 3 := by kernel_rfl
theorem s_wrap : Tryz.f3.isWrapper Tryz.pinned.checked.prog Rows.reportNumbersUptoRow.wrapper Rows.reportNumbersUptoRow.mainSum := by unfold Func.isWrapper; first | (rw [if_pos (by decide +kernel)]; kernel_rfl) | (rw [if_neg (by decide +kernel)]; exact ⟨rfl, rfl⟩)
theorem s_inst : Tryz.f3.isInstance Tryz.pinned.checked.prog Rows.reportNumbersUptoRow.origin Rows.reportNumbersUptoRow.targs := of_decide_eq_true (by kernel_rfl)
theorem card_wf : Rows.reportNumbersUptoRow.wfByText (Rows.OpenSpec.upto Rows.reportNumbersSpec) = true := by kernel_rfl
theorem card_main : Tryz.pinned.checked.prog.mainIs = some (true, "93da0a34035b8c21e0ed895818092a9b6187fa878518d23c82e89215241ff9da".toList) := by kernel_rfl
theorem plain (f : FuncId) (fn : Func) (hf : Tryz.pinned.checked.prog.funcNamed "cabinetry/cabinetrylaw27.ReportNumbers" = some f) (hfn : Tryz.pinned.checked.prog.funcs[f]? = some fn) :
    true = Tryz.pinned.checked.prog.looks [] ∧ ∀ (j : Nat) t, fn.params[j]? = some t → Tryz.pinned.checked.prog.wantsStandIn t = false := by
  obtain rfl : f = 3 := Option.some.inj ((show Tryz.prog.funcNamed "cabinetry/cabinetrylaw27.ReportNumbers" = some 3 by kernel_rfl).symm.trans hf) |>.symm
  obtain rfl : fn = Tryz.f3 := (Option.some.inj (Tryz.func3.symm.trans hfn)).symm
  refine ⟨by kernel_rfl, fun j t ht => ?_⟩
  rw [Tryz.params3] at ht
  obtain rfl : t = 22 := by simpa using Array.mem_of_getElem? ht
  exact (show Tryz.prog.wantsStandIn 22 = false by kernel_rfl)
theorem no_go : Tryz.pinned.checked.prog.funcs.any Func.goes = false := by kernel_rfl
theorem goes_of {P : Program} (h : P.funcs.any Func.goes = false) (f : FuncId) : P.goes f = false := by
  unfold Program.goes
  rw [h, Bool.and_false, Bool.or_false, List.any_eq_false]
  intro g _
  cases hg : P.funcs[g]? with
  | none => simp
  | some fn =>
    obtain ⟨hlt, rfl⟩ := Array.getElem?_eq_some_iff.1 hg
    have := Array.any_eq_false.1 h g hlt
    simpa using this
theorem goesAt_of {P : Program} (h : P.funcs.any Func.goes = false) (func : String) : P.goesAt .entering func = false := by
  unfold Program.goesAt Program.goesFrom
  cases P.funcNamed func with
  | none => rfl
  | some f => show (P.goes f || false) = false; rw [goes_of h f]; rfl
theorem goesBy_of {P : Program} (h : P.funcs.any Func.goes = false) (c : OpenClaim) (hs : c.start = .entering) : false = c.goesBy P := by
  unfold OpenClaim.goesBy
  rw [hs, goesAt_of h]
theorem row_start : Rows.reportNumbersUptoRow.start = .entering := rfl
theorem card_goes : false = Rows.reportNumbersUptoRow.goesBy Tryz.pinned.checked.prog := goesBy_of no_go _ row_start
end Go.Proofs.YthfhnjkoefbpfaaGreatDoor.PReportNumbers
