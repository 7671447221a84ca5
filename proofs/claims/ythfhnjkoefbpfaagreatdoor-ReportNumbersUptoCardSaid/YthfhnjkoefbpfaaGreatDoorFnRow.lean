/-
  OWN: the statement's contract: what the reading of the argument and of the variables gives. By an AI agent, Fri Nov 20 2026. No person has read it.
-/
import Derived.Test.YthfhnjkoefbpfaaGreatDoorFnPure
import Derived.Test.YthfhnjkoefbpfaaGreatDoorCards
import Derived.WalkKit
import Derived.ProofKit
import Derived.OpenShut
import Derived.Deep.DeepHandedRow
import Derived.Deep.Strs
import Derived.Lib.LaidTab
import Derived.Lib.LaidU8
import Derived.LaidSub
import Derived.LaidMore
import Derived.LaidHandle
import Derived.Lay
import Derived.SevenTiedAt
import Derived.Stop.Joined
import Derived.WideKeyArgs
namespace Go.Proofs.YthfhnjkoefbpfaaGreatDoor.PReportNumbers
open Go.ChangeShapes Go.WideShapes Go.ChangeAt Go.RowKit Go.Proofs.YthfhnjkoefbpfaaGreatDoorW.PrintWords Go.Proofs.YthfhnjkoefbpfaaGreatDoorW.PrintLast Go.Proofs.YthfhnjkoefbpfaaGreatDoorW.PrintMore

theorem own : ownKnob Tryz.prog.godebug = none := by kernel_rfl
theorem laidOut : laidOutB Tryz.prog = true := by kernel_rfl
theorem c24 : Tryz.prog.cellsOf 24 = 1 := by kernel_rfl
theorem c9 : Tryz.prog.cellsOf 9 = 1 := by kernel_rfl

/-! ### The bulk -/
theorem one_le {H : Type} (d : DataW H) : 1 ≤ Rows.uptoBulk d := by
  cases d with
  | lit l => cases l <;> simp [Rows.uptoBulk]
  | nil => simp [Rows.uptoBulk]
  | ptr d => simp [Rows.uptoBulk]
  | slice elems spare => simp [Rows.uptoBulk]
  | agg parts => simp [Rows.uptoBulk]
  | iface t d => simp [Rows.uptoBulk]
  | map entries => simp [Rows.uptoBulk]
  | held h => simp [Rows.uptoBulk]
theorem page_bulk {H : Type} (S : Nat → ByteArray) : ∀ l : List Nat, pw (l.map S) ≤ Rows.uptoBulkAll (l.map fun i => (DataW.lit (.string (S i).data.toList) : DataW H)) + 1
  | [] => by simp only [List.map_nil, pw, Rows.uptoBulkAll]; omega
  | i :: l => by
    have h := page_bulk (H := H) S l
    have hs : (S i).data.toList.length = (S i).size := by rw [Array.length_toList]; rfl
    simp only [List.map_cons, pw, Rows.uptoBulkAll, Rows.uptoBulk, hs]
    omega
theorem pages_bulk {H : Type} (P : Nat → List ByteArray) (D : Nat → DataW H) : ∀ l : List Nat, (∀ i ∈ l, pw (P i) ≤ Rows.uptoBulk (D i)) → tot (l.map P) ≤ Rows.uptoBulkAll (l.map D)
  | [], _ => Nat.le_refl 0
  | i :: l, h => by
    have h1 := pages_bulk P D l (fun j hj => h j (List.mem_cons_of_mem _ hj))
    have h2 := h i List.mem_cons_self
    simp only [List.map_cons, tot, Rows.uptoBulkAll]
    omega

/-! ### What the list of variables gives -/
theorem tab_of {W : World} {n : String} {d : DataW Unit} {k : IntKind} {zs : List Int} {g t e m : Nat} (hd : d = Lib.tabData k zs) (hg : Tryz.prog.globalNamed n = some g)
    (hty : (Tryz.prog.globals[g]?).map (·.type) = some t) (ht : Tryz.prog.underlying t = some (.array m e)) (he : Tryz.prog.underlying e = some (.int k)) (hce : Tryz.prog.cellsOf e = 1) (hct : Tryz.prog.cellsOf t = m)
    (h : Lib.VarReads Tryz.prog W n d) : Lib.TabIs Tryz.prog W n k zs := by
  obtain ⟨g', t', cs, fuel, p, hg', ht', hvar, hr⟩ := h
  obtain rfl := Option.some.inj (hg.symm.trans hg')
  obtain rfl := Option.some.inj (hty.symm.trans ht')
  subst hd
  unfold Lib.TabIs
  rw [hvar, ← Lib.cells_of_tab ht he hce hct hr]
theorem pow_data : (Rows.laid_internal_strconv_uint64pow10 : DataW Unit) = Lib.tabData .u64 Lib.pow10Tab := by kernel_rfl
theorem spc_data : (Rows.laid_strings_asciiSpace : DataW Unit) = Lib.tabData .u8 (asc.map Int.ofNat) := by kernel_rfl
theorem gPow : Tryz.prog.globalNamed "internal/strconv.uint64pow10" = some 0 := by kernel_rfl
theorem gSpc : Tryz.prog.globalNamed "strings.asciiSpace" = some 5 := by kernel_rfl
theorem plainList : (Rows.reportNumbersUptoRow.laid.filter fun x => x.2.handleName?.isNone)[5]? = some ("internal/strconv.uint64pow10", Rows.laid_internal_strconv_uint64pow10) ∧
    (Rows.reportNumbersUptoRow.laid.filter fun x => x.2.handleName?.isNone)[8]? = some ("strings.asciiSpace", Rows.laid_strings_asciiSpace) := ⟨by kernel_rfl, by kernel_rfl⟩
theorem tabs_of {W : World} (h : laidMetH Tryz.prog Rows.reportNumbersUptoRow.laid W) : Tabs W :=
  let h' := (laidMetH_iff.1 h).1
  ⟨tab_of pow_data gPow (by kernel_rfl) Tryz.underlying175 Tryz.underlying130 (by kernel_rfl) (by kernel_rfl) (Lib.laidMet.reads h' (List.mem_of_getElem? plainList.1)),
   tab_of spc_data gSpc (by kernel_rfl) Tryz.underlying180 Tryz.underlying5 (by kernel_rfl) (by kernel_rfl) (Lib.laidMet.reads h' (List.mem_of_getElem? plainList.2))⟩

section
variable {H : Type} {enc : TypeId × Value → H} {P : Program}
theorem post_of_below {f : Func} {s : ChangeSpec} {apart fresh handsOn again : Bool} {W W' : World} {args : Array Value} {v : Value} {ds gs : List (DataW H)} {before pa pv : List MemPlace}
    (hW : DataW.Whole enc P f.params.toList s.vars apart W args.toList ds gs before)
    (hres : ∀ (b : Nat) (sp : Nat → Bool) (hd : Bool), DataW.TrodAll enc P W' b sp hd f.resultTypes.toList (v.resultList f.resultTypes.size) (s.fn H (ds ++ gs)).results [])
    (hargs : ∀ sp : Nat → Bool, (∀ p ∈ before, sp p.block = true) → DataW.TrodAll enc P W' 0 sp true f.params.toList args.toList (s.fn H (ds ++ gs)).args pa)
    (hvars : ∀ sp : Nat → Bool, (∀ p ∈ before, sp p.block = true) → DataW.TrodVars enc P W' sp s.vars (s.fn H (ds ++ gs)).vars pv)
    (hps : before = pa ++ pv) (hb : Below W.heap.size W W')
    (hok : ∀ (j : Nat) (t : TypeId) (r : Value), f.resultTypes[j]? = some t → (v.resultList f.resultTypes.size)[j]? = some r → Value.okWide P W' .any 0 t r) :
    s.post enc P f apart fresh handsOn again W args v W' := by
  have hlt : ∀ p ∈ before, p.block < W.heap.size := fun p hp => hW.lt p hp
  have hold : ∀ p ∈ before, (fun b => decide (b < W.heap.size)) p.block = true := fun p hp => by simpa using hlt p hp
  refine ⟨ds, gs, before, [], pa, pv, hW, hres _ _ _, hargs _ hold, hvars _ hold, World.keptBut_mono (fun p hp => ⟨hp, ?_⟩) (hb.frame (· ∈ before)), fun _ => ?_⟩
  · rw [hps, List.mem_append] at hp
    exact Or.inr hp
  · obtain ⟨_, _, _, _, _, hz, hn⟩ := hW
    refine ⟨hok, _, _, ([] ++ pa) ++ pv, ⟨[] ++ pa, pv, trodAll_append (hargs _ (fun _ _ => rfl)) (hres _ _ _), hvars _ (fun _ _ => rfl), rfl, ?_, ?_⟩, ?_⟩
    · intro b off hp
      have hin : MemPlace.cell b off ∈ before := by rw [hps]; simpa using hp
      rw [hb.frozen (hlt _ hin)]
      exact hz b off hin
    · intro ha
      have := hn ha
      rw [hps] at this
      simpa using this
    · intro p hp _
      rw [hps]
      simpa using hp
end
/-! ### The argument, opened -/
theorem kd_page {w : World} {S : Nat → ByteArray} {a : Addr} {len : Nat} (hm : len ≤ 9223372036854775807) (h : ∀ i, i < len → w.cell? (a.add i) = some (.string (S i))) :
    Kd.C Kd.string w (some a) ((List.range len).map S).length ((List.range len).map S) := by
  refine ⟨rfl, by simpa using hm, fun _ => ⟨a, rfl, fun j p hj => ?_⟩⟩
  have hj' : j < len := by
    have := (List.getElem?_eq_some_iff.1 hj).1
    simpa using this
  rw [List.getElem?_map, List.getElem?_range hj'] at hj
  obtain rfl := Option.some.inj hj
  refine ⟨[.string (S j)], rfl, rfl, fun i u hu => ?_⟩
  match i, hu with
  | 0, hu =>
    obtain rfl := Option.some.inj hu
    have := h j hj'
    show w.cell? (a.add (j * 1 + 0)) = _
    rw [Nat.mul_one, Nat.add_zero]
    exact this
  | i + 1, hu => cases hu
theorem open_page {H : Type} {enc : TypeId × Value → H} {w : World} {n : Nat} {v : Value} {x : DataW H × List MemPlace} (h : DataW.trod enc Tryz.prog w 0 (fun _ => true) true n 24 [v] = some x) :
    ∃ l : List ByteArray, (Kd.slice 9 Kd.string).K w l [v] ∧ pw l ≤ Rows.uptoBulk x.1 := by
  rcases Deep.open_strs Tryz.underlying24 Tryz.underlying9 c9 h with ⟨hv, rfl⟩ | ⟨a, len, cap, m, S, hv, _, hl, hm, hmm, rfl, hS⟩
  · exact ⟨[], ⟨none, 0, hv, Nat.le_refl _, rfl, by decide, fun h => absurd h (by decide)⟩, by simp only [pw, Rows.uptoBulk]; omega⟩
  · have hm' : cap ≤ 9223372036854775807 := hm
    obtain rfl : m = cap := by rw [hmm]; simp
    refine ⟨(List.range len).map S, ⟨some a, m, by rw [hv]; simp, by simpa using hl, kd_page (by omega) fun i hi => (hS i (by omega)).1⟩, ?_⟩
    have hb := page_bulk (H := H) S (List.range len)
    simp only [Rows.uptoBulk]
    omega
theorem open_pages {H : Type} {enc : TypeId × Value → H} {w : World} {v : Value} {d : DataW H} {p : List MemPlace} (hf : ∃ a len cap, v = .slice a len cap) (h : DataW.Trod enc Tryz.prog w 0 (fun _ => true) true 22 v d p) :
    ∃ (A0 : Option Addr) (c0 : Nat) (l0 : List (List ByteArray)), v = .slice A0 l0.length c0 ∧ l0.length ≤ c0 ∧ Kd.C (Kd.slice 9 Kd.string) w A0 l0.length l0 ∧ tot l0 ≤ Rows.uptoBulk d := by
  obtain ⟨b, l, c, rfl⟩ := hf
  obtain ⟨n, hn⟩ := h
  rcases Deep.open_slice1 Tryz.underlying22 c24 hn with ⟨hv, hx⟩ | ⟨a, len, cap, m, n', V, D, Pl, hv, _, hl, hm, hmm, hx, hV⟩
  · injection hx with hd hp
    subst hd
    have hv' : Value.slice b l c = .slice none 0 0 := List.singleton_inj.1 hv
    exact ⟨none, 0, [], hv', Nat.le_refl _, ⟨rfl, by decide, fun h => absurd h (by decide)⟩, Nat.zero_le _⟩
  · have hm' : cap ≤ 9223372036854775807 := hm
    obtain rfl : m = cap := by rw [hmm]; simp
    injection hx with hd hp
    subst hd
    have hv' : Value.slice b l c = .slice (some a) len m := List.singleton_inj.1 hv
    obtain ⟨L, hL⟩ := Deep.choose_lt (α := List ByteArray) (p := fun i l => (Kd.slice 9 Kd.string).K w l [V i] ∧ pw l ≤ Rows.uptoBulk (D i)) (fun i hi => open_page (hV i hi).2)
    have hlen : ((List.range len).map L).length = len := by simp
    refine ⟨some a, m, (List.range len).map L, by rw [hlen]; exact hv', by rw [hlen]; exact hl, ?_, ?_⟩
    · refine ⟨rfl, by rw [hlen]; omega, fun _ => ⟨a, rfl, fun j q hj => ?_⟩⟩
      have hj' : j < len := by
        have := (List.getElem?_eq_some_iff.1 hj).1
        rwa [hlen] at this
      rw [List.getElem?_map, List.getElem?_range hj'] at hj
      obtain rfl := Option.some.inj hj
      refine ⟨[V j], rfl, (hL j (by omega)).1, fun i u hu => ?_⟩
      match i, hu with
      | 0, hu =>
        obtain rfl := Option.some.inj hu
        have := (hV j (by omega)).1
        show w.cell? (a.add (j * 1 + 0)) = _
        rw [Nat.mul_one, Nat.add_zero]
        exact this
      | i + 1, hu => cases hu
    · have hb := pages_bulk L D (List.range len) (fun i hi => (hL i (by have := List.mem_range.1 hi; omega)).2)
      simp only [Rows.uptoBulk]
      omega

set_option maxRecDepth 100000 in
theorem contract (H : Type) (enc : TypeId × Value → H) (W : World) (base : Nat) (args : Array Value) (ds gs : List (DataW H)) (before : List MemPlace)
    (hval : ∀ (j : Nat) t v, Tryz.f3.params[j]? = some t → args[j]? = some v → Value.okWide Tryz.prog W .any base t v)
    (hW : DataW.Whole enc Tryz.prog Tryz.f3.params.toList Rows.reportNumbersSpec.vars false W args.toList ds gs before) (hk : Rows.uptoSmall H (ds ++ gs) = true) (hL : laidMetH Tryz.prog Rows.reportNumbersUptoRow.laid W) :
    Calls Tryz.prog 3 args W fun e W' => ∃ v, e = .returned v ∧ Rows.reportNumbersSpec.post enc Tryz.prog Tryz.f3 false true false false W args v W' := by
  have hW' := hW
  obtain ⟨p, q, hA0, hV, rfl, hfz, hnd⟩ := hW
  have hA : DataW.TrodAll enc Tryz.prog W 0 (fun _ => true) true Tryz.f3.params.toList args.toList ds p := hA0
  rw [Tryz.params3] at hA hval
  obtain ⟨v0, d0, rfl, rfl, h0⟩ := trodAll_one hA
  obtain ⟨rfl, rfl⟩ := trodVars_none hV
  have hf0 := okWide_slice Tryz.underlying22 (hval 0 22 v0 rfl rfl)
  obtain ⟨A0, c0, l0, rfl, hc0, hr0, hb⟩ := open_pages hf0 h0
  clear hA0
  simp only [List.append_nil] at hW'
  have hsmall : tot l0 ≤ 1000000000 := by
    have hk' : Rows.uptoBulkAll ([d0] ++ []) ≤ 1048576 := by simpa [Rows.uptoSmall] using hk
    simp only [List.append_nil, Rows.uptoBulkAll] at hk'
    omega
  obtain ⟨k, hlaw⟩ := law_true l0 hsmall
  refine (cabinetrylaw27_ReportNumbers.calls k A0 c0 l0 true W hr0 hc0 hlaw (tabs_of hL)).mono fun e W' ⟨he, hb⟩ => ?_
  subst he
  have hlt : ∀ x ∈ p, x.block < W.heap.size := fun x hx => hW'.lt x (by simpa using hx)
  exact ⟨_, rfl, post_of_below (pa := p) (pv := []) hW' (fun _ _ _ => trodAll_mk1 (shut_bool Tryz.underlying4 _))
    (fun sp hs => trodAll_mk1 (WideElems.Trod_stays laidOut (by kernel_rfl) (of_decide_eq_true (by kernel_rfl)) h0 (fun x hx => hb.same (hlt x hx)) (fun x hx => hs x (by simpa using hx)))) (fun _ _ => rfl) (by simp) hb
    (ok_one (by kernel_rfl) rfl (okWide_bool_mk Tryz.underlying4 _))⟩
end Go.Proofs.YthfhnjkoefbpfaaGreatDoor.PReportNumbers
