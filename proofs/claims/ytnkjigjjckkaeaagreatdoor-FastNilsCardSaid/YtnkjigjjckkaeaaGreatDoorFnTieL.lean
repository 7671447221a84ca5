/-
  OWN: the ties of the statement, fact by fact in modules of their own (the given text, in one process, passes the memory limit). By an AI agent. No person has read it.
-/
import Derived.Test.YtnkjigjjckkaeaaGreatDoorRows
import Derived.LaidByTextLater
import Derived.SevenTiedAt
namespace Go.Proofs.YtnkjigjjckkaeaaGreatDoor
open Go
noncomputable def tieList : List (String × DataW Unit) := [("unicode/utf8.acceptRanges", Rows.laid_unicode_utf8_acceptRanges), ("strconv.ErrSyntax", Rows.laid_strconv_ErrSyntax), ("strconv.ErrRange", Rows.laid_strconv_ErrRange), ("internal/strconv.uint64pow10", Rows.laid_internal_strconv_uint64pow10), ("math/bits.deBruijn32tab", Rows.laid_math_bits_deBruijn32tab), ("math/bits.deBruijn64tab", Rows.laid_math_bits_deBruijn64tab), ("strings.asciiSpace", Rows.laid_strings_asciiSpace), ("unicode.White_Space", Rows.laid_unicode_White_Space), ("errors.errorType", Rows.laid_errors_errorType)]
/-! ### Places, none twice: by a mask of bits -/
def placeCode : MemPlace → Nat
  | .cell b off => 2 * (b * 65536 + off)
  | .map b => 2 * b + 1
def offsLow : List MemPlace → Bool
  | [] => true
  | .cell _ off :: l => Nat.ble off 65535 && offsLow l
  | .map _ :: l => offsLow l
def freshB : Nat → List MemPlace → Bool
  | _, [] => true
  | m, p :: l => Nat.beq (Nat.land (Nat.shiftRight m (placeCode p)) 1) 0 && freshB (Nat.lor m (Nat.shiftLeft 1 (placeCode p))) l
theorem offsLow_mem : ∀ {l : List MemPlace}, offsLow l = true → ∀ b off, MemPlace.cell b off ∈ l → off ≤ 65535
  | [], _, _, _, h => by cases h
  | .cell c o :: l, hl, b, off, h => by
    simp only [offsLow, Bool.and_eq_true] at hl
    rcases List.mem_cons.1 h with e | e
    · injection e with e1 e2
      subst e2
      exact Nat.le_of_ble_eq_true hl.1
    · exact offsLow_mem hl.2 b off e
  | .map c :: l, hl, b, off, h => by
    simp only [offsLow] at hl
    rcases List.mem_cons.1 h with e | e
    · cases e
    · exact offsLow_mem hl b off e
theorem testBit_of {m n : Nat} : Nat.beq (Nat.land (Nat.shiftRight m n) 1) 0 = !(m.testBit n) := by
  have e : Nat.land (Nat.shiftRight m n) 1 = (m >>> n) &&& 1 := rfl
  rw [e, Nat.testBit, Nat.and_comm 1]
  cases h : (m >>> n &&& 1) with
  | zero => rfl
  | succ k => rfl
theorem freshB_spec : ∀ {l : List MemPlace} {m : Nat}, freshB m l = true → (∀ p ∈ l, m.testBit (placeCode p) = false) ∧ (l.map placeCode).Nodup
  | [], m, _ => ⟨fun _ h => (by cases h), List.nodup_nil⟩
  | p :: l, m, h => by
    simp only [freshB, Bool.and_eq_true, testBit_of] at h
    obtain ⟨h1, h2⟩ := h
    obtain ⟨h3, h4⟩ := freshB_spec h2
    have h1' : m.testBit (placeCode p) = false := by simpa using h1
    have e : ∀ k, (Nat.lor m (Nat.shiftLeft 1 (placeCode p))).testBit k = (m.testBit k || decide (placeCode p = k)) := fun k => by
      have e1 : Nat.lor m (Nat.shiftLeft 1 (placeCode p)) = m ||| (1 <<< placeCode p) := rfl
      rw [e1, Nat.testBit_or, Nat.one_shiftLeft, Nat.testBit_two_pow]
    refine ⟨fun q hq => ?_, ?_⟩
    · rcases List.mem_cons.1 hq with rfl | hq
      · exact h1'
      · have := h3 q hq
        rw [e] at this
        simp only [Bool.or_eq_false_iff] at this
        exact this.1
    · rw [List.map_cons, List.nodup_cons]
      refine ⟨fun hm => ?_, h4⟩
      obtain ⟨q, hq, hqc⟩ := List.mem_map.1 hm
      have := h3 q hq
      rw [e] at this
      simp [hqc] at this
theorem nodup_of_fresh {l : List MemPlace} (h : (offsLow l && freshB 0 l) = true) : l.Nodup := by
  simp only [Bool.and_eq_true] at h
  have h2 := (freshB_spec h.2).2
  have hlow := offsLow_mem h.1
  have inj : ∀ p ∈ l, ∀ q ∈ l, placeCode p = placeCode q → p = q := by
    intro p hp q hq e
    cases p with
    | cell b off =>
      cases q with
      | cell b' off' =>
        have h1 := hlow _ _ hp
        have h2 := hlow _ _ hq
        simp only [placeCode] at e
        have e1 : b = b' := by omega
        subst e1
        have e2 : off = off' := by omega
        rw [e2]
      | map b' => simp only [placeCode] at e; omega
    | map b =>
      cases q with
      | cell b' off' => simp only [placeCode] at e; omega
      | map b' =>
        simp only [placeCode] at e
        have e1 : b = b' := by omega
        rw [e1]
  clear h hlow
  induction l with
  | nil => exact List.nodup_nil
  | cons p l ih =>
    rw [List.map_cons, List.nodup_cons] at h2
    rw [List.nodup_cons]
    refine ⟨fun hm => h2.1 (List.mem_map.2 ⟨p, hm, rfl⟩), ih h2.2 (fun a ha b hb => inj a (List.mem_cons_of_mem _ ha) b (List.mem_cons_of_mem _ hb))⟩
theorem both_of {α : Type} {o : Option (α × List MemPlace)} {r : List MemPlace → Bool} (h1 : o.map (fun x => offsLow x.2 && freshB 0 x.2) = some true) (h2 : o.map (fun x => r x.2) = some true) : o.map (fun x => decide x.2.Nodup && r x.2) = some true := by
  cases o with
  | none => cases h1
  | some x =>
    simp only [Option.map_some, Option.some.injEq] at h1 h2 ⊢
    rw [h2, decide_eq_true (nodup_of_fresh h1)]
    rfl
end Go.Proofs.YtnkjigjjckkaeaaGreatDoor
