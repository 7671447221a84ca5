/-
  OWN: the plain law: the two lists are the same. By an AI agent, Fri Nov 20 2026. No person has read it.
-/
import Derived.Test.YthfhnjkoefbpfaaGreatDoorFnB
/-! The law ReportNumbers over lists alone. -/
set_option maxHeartbeats 0
set_option linter.unusedVariables false
set_option linter.unusedSimpArgs false
namespace Go.Proofs.YthfhnjkoefbpfaaGreatDoor.PReportNumbers
open Go.RowKit Go.Proofs.YthfhnjkoefbpfaaGreatDoorW.PrintWords

theorem wrap_nat {n : Nat} (h : n < 4611686018427387904) : wrap64 (n : Int) = n := by unfold wrap64; omega
theorem wrap_int {n : Int} (h0 : 0 ≤ n) (h : n < 4611686018427387904) : wrap64 n = n := by unfold wrap64; omega
theorem getD_pre {α : Type} (pre : List α) (s : α) (l : List α) (d : α) : (pre ++ s :: l).getD pre.length d = s := by
  simp [List.getD_eq_getElem?_getD]
theorem rdOf_pre {α : Type} (pre : List α) (s : α) (l : List α) (d : α) : rdOf d (pre ++ s :: l) (pre.length : Int) = s := by
  unfold rdOf; rw [Int.toNat_natCast]; exact getD_pre pre s l d
theorem rd7_pre (pre : List (List ByteArray)) (s : List ByteArray) (l : List (List ByteArray)) : rd_L7 (pre ++ s :: l) (pre.length : Int) = s := by
  unfold rd_L7; rw [Int.toNat_natCast]; exact getD_pre pre s l _
theorem cast_snoc {α : Type} (pre : List α) (s : α) : ((pre.length : Int) + 1) = ((pre ++ [s]).length : Int) := by simp

def sz : List ByteArray → Nat
  | [] => 0
  | s :: l => s.size + sz l
theorem texts_l0 : ∀ (rest pre : List ByteArray) (x3 : Int) (k : Nat), rest.length < k → 0 ≤ x3 → x3 + sz rest < 4611686018427387904 → pre.length + rest.length < 4611686018427387904 → cabinetrylaw27_texts.l0 k (pre ++ rest) x3 (pre.length : Int) = some (x3 + sz rest)
  | [], pre, x3, k, hk, h0, h1, h2 => by
    obtain ⟨k, rfl⟩ : ∃ m, k = m + 1 := ⟨k - 1, by simp at hk; omega⟩
    simp only [cabinetrylaw27_texts.l0, List.append_nil, Int.lt_irrefl, if_false, sz]
    simp
  | s :: l, pre, x3, k, hk, h0, h1, h2 => by
    simp only [List.length_cons] at hk h2
    simp only [sz] at h1 ⊢
    obtain ⟨k, rfl⟩ : ∃ m, k = m + 1 := ⟨k - 1, by omega⟩
    simp only [cabinetrylaw27_texts.l0]
    rw [if_pos (by simp; omega), if_pos (by omega), rdOf_pre, wrap_int (by omega) (by omega), wrap_int (by omega) (by omega), cast_snoc pre s]
    rw [show pre ++ s :: l = (pre ++ [s]) ++ l by simp]
    rw [texts_l0 l (pre ++ [s]) _ k (by omega) (by omega) (by omega) (by simp; omega)]
    congr 1
    omega
theorem texts_f (xs : List ByteArray) (k : Nat) (hk : xs.length < k) (h : 4 * xs.length + sz xs < 4611686018427387904) : cabinetrylaw27_texts.f k xs = some ((4 * xs.length + sz xs : Nat) : Int) := by
  unfold cabinetrylaw27_texts.f
  have := texts_l0 xs [] (wrap64 (4 * (xs.length : Int))) k hk (by rw [wrap_int (by omega) (by omega)]; omega) (by rw [wrap_int (by omega) (by omega)]; omega) (by simp; omega)
  simp only [List.nil_append, List.length_nil] at this
  rw [show ((0 : Nat) : Int) = 0 from rfl] at this
  rw [this, wrap_int (by omega) (by omega)]
  congr 1

theorem same_l0 (r : List ByteArray) : ∀ (rest pre : List ByteArray) (k : Nat), rest.length < k → r = pre ++ rest → r.length < 4611686018427387904 → cabinetryref01_SameTexts.l0 k r r (pre.length : Int) = some true
  | [], pre, k, hk, hr, h => by
    obtain ⟨k, rfl⟩ : ∃ m, k = m + 1 := ⟨k - 1, by simp at hk; omega⟩
    simp only [cabinetryref01_SameTexts.l0, hr, List.append_nil, Int.lt_irrefl, if_false]
  | s :: l, pre, k, hk, hr, h => by
    simp only [List.length_cons] at hk
    obtain ⟨k, rfl⟩ : ∃ m, k = m + 1 := ⟨k - 1, by omega⟩
    have hl : r.length = pre.length + l.length + 1 := by rw [hr]; simp; omega
    simp only [cabinetryref01_SameTexts.l0]
    rw [if_pos (by omega), if_pos (by omega), if_pos (by omega), if_pos trivial, wrap_int (by omega) (by omega), cast_snoc pre s]
    exact same_l0 r l (pre ++ [s]) k (by omega) (by rw [hr]; simp) h
theorem same_f (r : List ByteArray) (k : Nat) (hk : r.length < k) (h : r.length < 4611686018427387904) : cabinetryref01_SameTexts.f k r r = some true := by
  unfold cabinetryref01_SameTexts.f
  rw [if_pos rfl]
  exact same_l0 r r [] k hk rfl h

theorem bytes_append (a b : List UInt8) : (⟨a.toArray⟩ : ByteArray) ++ (⟨b.toArray⟩ : ByteArray) = ⟨(a ++ b).toArray⟩ := by
  apply ByteArray.ext
  simp
theorem bytes_size (a : List UInt8) : (⟨a.toArray⟩ : ByteArray).size = a.length := by simp [ByteArray.size]
theorem dec_len (n : Nat) : (Lib.decDigits n).length ≤ n + 1 := by
  induction n using Nat.strongRecOn with
  | _ n ih =>
    unfold Lib.decDigits
    split
    · simp
    · rename_i h
      have := ih (n / 10) (by omega)
      simp only [List.length_append, List.length_cons, List.length_nil]
      omega
theorem dec_small : ∀ n : Nat, n < 10 → (⟨#[48, 49, 50, 51, 52, 53, 54, 55, 56, 57]⟩ : ByteArray).extract n (n + 1) = ⟨(Lib.decDigits n).toArray⟩ := by
  intro n hn
  unfold Lib.decDigits
  rw [dif_pos hn]
  match n, hn with
  | 0, _ => rfl
  | 1, _ => rfl
  | 2, _ => rfl
  | 3, _ => rfl
  | 4, _ => rfl
  | 5, _ => rfl
  | 6, _ => rfl
  | 7, _ => rfl
  | 8, _ => rfl
  | 9, _ => rfl
theorem written (n : Nat) : ∀ k, n < k → n < 4611686018427387904 → cabinetryref01_Written.f k (n : Int) = some ⟨(Lib.decDigits n).toArray⟩ := by
  induction n using Nat.strongRecOn with
  | _ n ih =>
    intro k hk hn
    obtain ⟨k, rfl⟩ : ∃ m, k = m + 1 := ⟨k - 1, by omega⟩
    simp only [cabinetryref01_Written.f]
    rw [if_neg (by omega)]
    by_cases h : n < 10
    · rw [if_pos (by omega), if_pos (by omega), wrap_int (by omega) (by omega), if_pos (by omega), if_pos (by omega)]
      congr 1
      have e1 : ((n : Int)).toNat = n := Int.toNat_natCast n
      have e2 : ((n : Int) + 1).toNat = n + 1 := by omega
      rw [e1, e2]
      exact dec_small n h
    · rw [if_neg (by omega)]
      have e1 : Int.tdiv (n : Int) 10 = ((n / 10 : Nat) : Int) := by rw [Int.tdiv_eq_ediv_of_nonneg (by omega)]; rfl
      have e2 : Int.tmod (n : Int) 10 = ((n % 10 : Nat) : Int) := by rw [Int.tmod_eq_emod_of_nonneg (by omega)]; rfl
      rw [e1, e2, wrap_int (by omega) (by omega), ih (n / 10) (by omega) k (by omega) (by omega), ih (n % 10) (by omega) k (by omega) (by omega)]
      simp only [Option.bind_some]
      have l1 := dec_len (n / 10)
      have l2 := dec_len (n % 10)
      rw [if_pos (by rw [bytes_size, bytes_size]; omega), bytes_append]
      congr 3
      conv => rhs; unfold Lib.decDigits
      rw [dif_neg h]
      conv => lhs; rhs; unfold Lib.decDigits
      rw [dif_pos (by omega)]
theorem itoa_f (n : Nat) (hn : n < 4611686018427387904) : strconv_Itoa_10.f (n : Int) = some ⟨(Lib.decDigits n).toArray⟩ := by
  unfold strconv_Itoa_10.f
  rw [if_pos ⟨by omega, by omega⟩]
  unfold Lib.itoa
  rw [if_neg (by omega), Int.toNat_natCast]

/-- A line with its page's number. -/
def line (i : Nat) (s : ByteArray) : ByteArray := ((⟨(Lib.decDigits (i + 1)).toArray⟩ : ByteArray) ++ (⟨#[58, 32]⟩ : ByteArray)) ++ s
def lines (i : Nat) : List (List ByteArray) → List ByteArray
  | [] => []
  | p :: l => p.map (line i) ++ lines (i + 1) l
/-- How much there is in a page, in pages. -/
def pw : List ByteArray → Nat
  | [] => 1
  | s :: l => s.size + 1 + pw l
def tot : List (List ByteArray) → Nat
  | [] => 0
  | p :: l => pw p + tot l
theorem pw_len : ∀ p : List ByteArray, p.length + 1 ≤ pw p
  | [] => by simp [pw]
  | s :: l => by have := pw_len l; simp only [pw, List.length_cons]; omega
theorem pw_sz : ∀ p : List ByteArray, sz p + p.length + 1 = pw p
  | [] => rfl
  | s :: l => by have := pw_sz l; simp only [pw, sz, List.length_cons]; omega
theorem tot_len : ∀ l : List (List ByteArray), l.length ≤ tot l
  | [] => by simp [tot]
  | p :: l => by have := tot_len l; have := pw_len p; simp only [tot, List.length_cons]; omega
theorem lines_len : ∀ (l : List (List ByteArray)) (i : Nat), (lines i l).length ≤ tot l
  | [], i => by simp [lines, tot]
  | p :: l, i => by have := lines_len l (i + 1); have := pw_len p; simp only [lines, tot, List.length_append, List.length_map]; omega

mutual
theorem report_l0 (B : Nat) (hB : B ≤ 1000000000) (l0 : List (List ByteArray)) : ∀ (rest pre : List (List ByteArray)) (acc : List ByteArray) (k : Nat), l0 = pre ++ rest → pre.length + tot rest ≤ B → acc.length + tot rest ≤ 2 * B → 2 * tot rest < k →
    report_Number.l0 k acc l0 (l0.length : Int) (pre.length : Int) = some (acc ++ lines pre.length rest)
  | [], pre, acc, k, hl, h1, h2, hk => by
    obtain ⟨k, rfl⟩ : ∃ m, k = m + 1 := ⟨k - 1, by omega⟩
    simp only [report_Number.l0, hl, List.append_nil, Int.lt_irrefl, if_false, lines]
  | p :: rest, pre, acc, k, hl, h1, h2, hk => by
    obtain ⟨k, rfl⟩ : ∃ m, k = m + 1 := ⟨k - 1, by omega⟩
    have hlen : l0.length = pre.length + rest.length + 1 := by rw [hl]; simp; omega
    have hp := pw_len p
    simp only [report_Number.l0, tot] at h1 h2 hk ⊢
    rw [if_pos (by omega), if_pos (by omega), if_pos (by omega), hl, rd7_pre, ← hl]
    have := report_l1 B hB l0 rest p p [] pre acc k hl rfl (by omega) (by omega) (by simp; omega) (by omega)
    simp only [List.length_nil] at this
    rw [show ((0 : Nat) : Int) = 0 from rfl] at this
    rw [this]
    rfl
theorem report_l1 (B : Nat) (hB : B ≤ 1000000000) (l0 : List (List ByteArray)) : ∀ (rest : List (List ByteArray)) (p ls done : List ByteArray) (pre : List (List ByteArray)) (acc : List ByteArray) (k : Nat), l0 = pre ++ p :: rest → p = done ++ ls → pre.length + 1 + (pw ls + tot rest) ≤ B + 1 → acc.length + (pw ls + tot rest) ≤ 2 * B → done.length + pw ls ≤ B + 1 → 2 * tot rest + (2 * ls.length + 1) < k →
    report_Number.l1 k acc (pre.length : Int) l0 (l0.length : Int) (pre.length : Int) p (p.length : Int) (done.length : Int) = some (acc ++ (ls.map (line pre.length) ++ lines (pre.length + 1) rest))
  | rest, p, [], done, pre, acc, k, hl, hp, h1, h2, h3, hk => by
    obtain ⟨k, rfl⟩ : ∃ m, k = m + 1 := ⟨k - 1, by omega⟩
    have hpl : p.length = done.length := by rw [hp]; simp
    have hlen : l0.length = pre.length + rest.length + 1 := by rw [hl]; simp; omega
    simp only [report_Number.l1, pw] at h1 h2 ⊢
    rw [if_neg (by omega), wrap_int (by omega) (by omega), cast_snoc pre p]
    have := report_l0 B hB l0 rest (pre ++ [p]) acc k (by rw [hl]; simp) (by simp; omega) (by omega) (by simp at hk; omega)
    rw [this]
    simp
  | rest, p, s :: ls, done, pre, acc, k, hl, hp, h1, h2, h3, hk => by
    simp only [List.length_cons] at hk
    obtain ⟨k, rfl⟩ : ∃ m, k = m + 1 := ⟨k - 1, by omega⟩
    have hpl : p.length = done.length + ls.length + 1 := by rw [hp]; simp; omega
    have hlen : l0.length = pre.length + rest.length + 1 := by rw [hl]; simp; omega
    have hls := pw_len ls
    have hd := dec_len (pre.length + 1)
    simp only [report_Number.l1, pw] at h1 h2 h3 ⊢
    rw [if_pos (by omega), if_pos (by omega), if_pos (by omega), wrap_int (by omega) (by omega), show ((pre.length : Int) + 1) = ((pre.length + 1 : Nat) : Int) by omega, itoa_f _ (by omega)]
    simp only [Option.bind_some]
    have hrd : rdOf ByteArray.empty p (done.length : Int) = s := by rw [hp]; exact rdOf_pre done s ls _
    rw [hrd, if_pos (by rw [bytes_size]; omega), if_pos (by rw [ByteArray.size_append, bytes_size]; show _ + 2 + _ ≤ _; omega), if_pos (by omega), wrap_int (by omega) (by omega), cast_snoc done s]
    have := report_l1 B hB l0 rest p ls (done ++ [s]) pre (acc ++ [line pre.length s]) k hl (by rw [hp]; simp) (by omega) (by simp only [List.length_append, List.length_cons, List.length_nil]; omega) (by simp only [List.length_append, List.length_cons, List.length_nil]; omega) (by omega)
    unfold line at this ⊢
    rw [this]
    simp
end

mutual
theorem ref_l0 (B : Nat) (hB : B ≤ 1000000000) (l0 : List (List ByteArray)) : ∀ (rest pre : List (List ByteArray)) (acc : List ByteArray) (k : Nat), l0 = pre ++ rest → pre.length + tot rest ≤ B → acc.length + tot rest ≤ 2 * B → 2 * tot rest + B + 2 < k →
    cabinetryref27_Number.l0 k l0 acc (pre.length : Int) = some (acc ++ lines pre.length rest)
  | [], pre, acc, k, hl, h1, h2, hk => by
    obtain ⟨k, rfl⟩ : ∃ m, k = m + 1 := ⟨k - 1, by omega⟩
    simp only [cabinetryref27_Number.l0, hl, List.append_nil, Int.lt_irrefl, if_false, lines]
  | p :: rest, pre, acc, k, hl, h1, h2, hk => by
    obtain ⟨k, rfl⟩ : ∃ m, k = m + 1 := ⟨k - 1, by omega⟩
    have hlen : l0.length = pre.length + rest.length + 1 := by rw [hl]; simp; omega
    have hp := pw_len p
    simp only [cabinetryref27_Number.l0, tot] at h1 h2 hk ⊢
    rw [if_pos (by omega)]
    have := ref_l1 B hB l0 rest p p [] pre acc k hl rfl (by omega) (by omega) (by simp; omega) (by omega)
    simp only [List.length_nil] at this
    rw [show ((0 : Nat) : Int) = 0 from rfl] at this
    rw [this]
    rfl
theorem ref_l1 (B : Nat) (hB : B ≤ 1000000000) (l0 : List (List ByteArray)) : ∀ (rest : List (List ByteArray)) (p ls done : List ByteArray) (pre : List (List ByteArray)) (acc : List ByteArray) (k : Nat), l0 = pre ++ p :: rest → p = done ++ ls → pre.length + 1 + (pw ls + tot rest) ≤ B + 1 → acc.length + (pw ls + tot rest) ≤ 2 * B → done.length + pw ls ≤ B + 1 → 2 * tot rest + B + 2 + (2 * ls.length + 1) < k →
    cabinetryref27_Number.l1 k l0 acc (pre.length : Int) (done.length : Int) = some (acc ++ (ls.map (line pre.length) ++ lines (pre.length + 1) rest))
  | rest, p, [], done, pre, acc, k, hl, hp, h1, h2, h3, hk => by
    obtain ⟨k, rfl⟩ : ∃ m, k = m + 1 := ⟨k - 1, by omega⟩
    have hpl : p.length = done.length := by rw [hp]; simp
    have hlen : l0.length = pre.length + rest.length + 1 := by rw [hl]; simp; omega
    have hrd : rd_L7 l0 (pre.length : Int) = p := by rw [hl]; exact rd7_pre pre p rest
    simp only [cabinetryref27_Number.l1, pw] at h1 h2 ⊢
    rw [if_pos (by omega), if_pos (by omega), hrd, if_neg (by omega), wrap_int (by omega) (by omega), cast_snoc pre p]
    have := ref_l0 B hB l0 rest (pre ++ [p]) acc k (by rw [hl]; simp) (by simp; omega) (by omega) (by simp at hk; omega)
    rw [this]
    simp
  | rest, p, s :: ls, done, pre, acc, k, hl, hp, h1, h2, h3, hk => by
    simp only [List.length_cons] at hk
    obtain ⟨k, rfl⟩ : ∃ m, k = m + 1 := ⟨k - 1, by omega⟩
    have hpl : p.length = done.length + ls.length + 1 := by rw [hp]; simp; omega
    have hlen : l0.length = pre.length + rest.length + 1 := by rw [hl]; simp; omega
    have hls := pw_len ls
    have hd := dec_len (pre.length + 1)
    have hrd7 : rd_L7 l0 (pre.length : Int) = p := by rw [hl]; exact rd7_pre pre p rest
    simp only [cabinetryref27_Number.l1, pw] at h1 h2 h3 ⊢
    rw [if_pos (by omega), if_pos (by omega), hrd7, if_pos (by omega), wrap_int (by omega) (by omega), show ((pre.length : Int) + 1) = ((pre.length + 1 : Nat) : Int) by omega, written _ _ (by omega) (by omega)]
    simp only [Option.bind_some]
    have hrd : rdOf ByteArray.empty p (done.length : Int) = s := by rw [hp]; exact rdOf_pre done s ls _
    rw [hrd, if_pos (by rw [bytes_size]; omega), if_pos (by omega), if_pos (by rw [ByteArray.size_append, bytes_size]; show _ + 2 + _ ≤ _; omega), if_pos (by omega), wrap_int (by omega) (by omega), cast_snoc done s]
    have := ref_l1 B hB l0 rest p ls (done ++ [s]) pre (acc ++ [line pre.length s]) k hl (by rw [hp]; simp) (by omega) (by simp only [List.length_append, List.length_cons, List.length_nil]; omega) (by simp only [List.length_append, List.length_cons, List.length_nil]; omega) (by omega)
    unfold line at this ⊢
    rw [this]
    simp
end
/-- The law, from a page on. -/
theorem law_l0 (B : Nat) (hB : B ≤ 1000000000) (l0 : List (List ByteArray)) (ht : tot l0 ≤ B) : ∀ (rest pre : List (List ByteArray)) (x3 : Nat) (k : Nat), l0 = pre ++ rest → x3 + 8 * tot rest ≤ 10 * B → rest.length + 5 * B + 10 < k →
    cabinetrylaw27_ReportNumbers.l0 k l0 (x3 : Int) (pre.length : Int) = some true
  | [], pre, x3, k, hl, h1, hk => by
    obtain ⟨k, rfl⟩ : ∃ m, k = m + 1 := ⟨k - 1, by omega⟩
    have hlen : l0.length = pre.length := by rw [hl]; simp
    have htl := tot_len l0
    simp only [cabinetrylaw27_ReportNumbers.l0]
    rw [if_neg (by omega)]
    by_cases h : (x3 : Int) > 60000
    · rw [if_pos h]; rfl
    · rw [if_neg h]
      have e1 : report_Number.f k l0 = some (lines 0 l0) := by
        unfold report_Number.f
        have := report_l0 B hB l0 l0 [] [] k rfl (by simp; omega) (by simp; omega) (by omega)
        simpa using this
      have e2 : cabinetryref27_Number.f k l0 = some (lines 0 l0) := by
        unfold cabinetryref27_Number.f
        have := ref_l0 B hB l0 l0 [] [] k rfl (by simp; omega) (by simp; omega) (by omega)
        simpa using this
      have hll := lines_len l0 0
      rw [e1, e2]
      simp only [Option.bind_some]
      rw [same_f _ _ (by omega) (by omega)]
      rfl
  | p :: rest, pre, x3, k, hl, h1, hk => by
    simp only [List.length_cons] at hk
    obtain ⟨k, rfl⟩ : ∃ m, k = m + 1 := ⟨k - 1, by omega⟩
    have hlen : l0.length = pre.length + rest.length + 1 := by rw [hl]; simp; omega
    have htl := tot_len l0
    have hps := pw_sz p
    simp only [cabinetrylaw27_ReportNumbers.l0, tot] at h1 ⊢
    rw [if_pos (by omega), if_pos (by omega), hl, rd7_pre, ← hl, texts_f p k (by omega) (by omega)]
    simp only [Option.bind_some]
    rw [wrap_int (n := 4 + ((4 * p.length + sz p : Nat) : Int)) (by omega) (by omega), wrap_int (by omega) (by omega), wrap_int (by omega) (by omega), cast_snoc pre p]
    have := law_l0 B hB l0 ht rest (pre ++ [p]) (x3 + (4 + (4 * p.length + sz p))) k (by rw [hl]; simp) (by omega) (by omega)
    rw [← this]
    congr 1
/-- Reading pages that are not far too much, the law is true. -/
theorem law_true (l0 : List (List ByteArray)) (h : tot l0 ≤ 1000000000) : ∃ k, cabinetrylaw27_ReportNumbers.f k l0 = some true :=
  ⟨l0.length + 5 * 1000000000 + 11, law_l0 1000000000 (Nat.le_refl _) l0 h l0 [] 0 _ rfl (by omega) (by omega)⟩
end Go.Proofs.YthfhnjkoefbpfaaGreatDoor.PReportNumbers
