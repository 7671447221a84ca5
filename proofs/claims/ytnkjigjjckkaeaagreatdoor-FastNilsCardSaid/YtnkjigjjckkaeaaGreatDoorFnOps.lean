/-
  OWN: what syntax.Operators yields: the operators, sorted, each once. By an AI agent. No person has read it.
-/
import Derived.Test.YtnkjigjjckkaeaaGreatDoorFnKa
import Derived.Test.YtnkjigjjckkaeaaGreatDoorFnShelf
import Derived.Shelf.Sort.Plain
import Derived.Shelf.Slices.CompactS
import Derived.Ground.NamesProg
import Derived.Sort.OwnSorted
import Derived.Sort.Grow
import Derived.Sort.KeysCollected
import Derived.Lib.OwnBridge
import Derived.Maps.AppendAt
import Derived.Maps.RangeWalk
import Derived.Laws.MakeOwn
import Derived.Deep.LoopGhost
import Derived.Deep.Draws
import Derived.WalkKit
import Derived.WalkMore
import Derived.Below
import Derived.OwnWalk
set_option maxRecDepth 100000
set_option maxHeartbeats 0
namespace Go.Proofs.YtnkjigjjckkaeaaGreatDoor
open Go Go.Mach
noncomputable section
/-- The maps of syntax.levels: the operators of each level by their signs. -/
def levs : List (List (List Nat × List Nat × Nat) × Nat) :=
  [([([46, 79, 82, 46], [46, 79, 82, 46], 0)], 1),
   ([([46, 65, 78, 68, 46], [46, 65, 78, 68, 46], 0)], 1),
   ([([61], [61], 0), ([61, 61], [61, 61], 1), ([60, 62], [60, 62], 2), ([35], [60, 62], 3), ([33, 61], [60, 62], 4), ([60], [60], 5), ([62], [62], 6), ([60, 61], [60, 61], 7), ([62, 61], [62, 61], 8), ([36], [36], 9)], 10),
   ([([43], [43], 0), ([45], [45], 1)], 2),
   ([([42], [42], 0), ([47], [47], 1), ([37], [37], 2)], 3),
   ([([94], [94], 0)], 1)]
theorem runLevels : isMaps 13 levs (runAt Tryz.prog S0 100000 385 .leaf 13) = true := by kernel_rfl
theorem levelsBody : hasBody Tryz.prog 385 = true := by kernel_rfl
theorem levels_c (w : World) : Calls Tryz.prog 385 #[] w fun e w' => ∃ v, e = .returned v ∧ MapsAt levs w v w' :=
  maps_calls (fns_ok (S0_ok _) mixes noCount 100000) (by rw [gsize]; exact runLevels) levelsBody noCount
end
end Go.Proofs.YtnkjigjjckkaeaaGreatDoor
section
set_option maxRecDepth 100000
namespace Go.Proofs
open Go.RowKit Go.Shelf Go.Sort
theorem sort_c (blk off cap : Nat) (zs : List (List UInt8)) (w : World) (hH : Holds encStr w blk off zs.toArray) (hblk : blk < w.heap.size) (hsz : zs.length < 4611686018427387904) :
    Calls Tryz.prog 36 #[.slice (some ⟨blk, off, none⟩) zs.length cap] w fun e w' =>
      e = .returned (.tuple #[]) ∧ ∃ n os, w' = grow (putRow encStr (Sort.ahead w n) blk off (zs.mergeSort fun x y => decide (x ≤ y)).toArray) os :=
  Any.slices_Sort_string Tryz.laysSort blk off cap zs w hH hblk hsz
theorem compact_c (blk off cap : Nat) (zs : List (List UInt8)) (w : World) (hH : Holds encStr w blk off zs.toArray) (hsz : zs.length ≤ 9223372036854775807) (hcap : zs.length ≤ cap) :
    Calls Tryz.prog 37 #[.slice (some ⟨blk, off, none⟩) zs.length cap] w fun e w' => e = .returned (.slice (some ⟨blk, off, none⟩) (Lib.compact zs).length cap) ∧ ∃ q, w' = putRow encStr (Sort.ahead w q) blk off (Lib.compact zs ++ List.replicate (zs.length - (Lib.compact zs).length) []).toArray :=
  Any.slices_Compact_string Tryz.laysCompact blk off cap zs w hH hsz hcap
end Go.Proofs
namespace Go.Proofs.YtnkjigjjckkaeaaGreatDoor
open Go Go.Mach Go.Maps Go.WideElems Go.MapKept
/-- A map of texts, as it reads. -/
noncomputable def datum (m : List (List Nat × List Nat × Nat)) : DataW Unit := .map (((m.map entO).map (rg Tryz.prog 9 (plainElem Tryz.prog 9))).foldr DataW.insert [])
theorem law9 : Keyed Tryz.prog 9 := string_keyed Tryz.underlying9
def stampedB : List (List Nat × List Nat × Nat) → Nat → Bool
  | m, c => m.all (fun e => Nat.blt e.2.2 c) && decide (m.map (·.2.2)).Nodup && decide (m.map (fun e => textOf e.1)).Nodup
theorem owned {w : World} {b : Nat} {m : List (List Nat × List Nat × Nat)} {c : Nat} (hb : w.heap[b]? = some (.map (m.map entO).toArray c)) (hs : stampedB m c = true) (hl : m.length ≤ 100) (hr : ∀ e ∈ m, (textOf e.1).size ≤ 100 ∧ (textOf e.2.1).size ≤ 100) :
    w.ownsMap Tryz.prog 9 (plainElem Tryz.prog 9) b 100 (datum m) := by
  unfold stampedB at hs
  simp only [Bool.and_eq_true, decide_eq_true_eq, List.all_eq_true] at hs
  obtain ⟨⟨h1, h2⟩, h3⟩ := hs
  refine ⟨_, _, hb, ⟨by simp; unfold maxLen; omega, (stamped_iff _ _).2 ⟨?_, ?_, ?_⟩, ?_⟩, by simp; omega, rfl⟩
  · intro x hx
    obtain ⟨e, he, rfl⟩ := List.mem_map.1 hx
    exact Nat.le_of_ble_eq_true (h1 e he)
  · show ((m.map entO).map (·.born)).Nodup
    rw [List.map_map]; exact h2
  · show (m.map entO).Pairwise _
    rw [List.pairwise_map]
    unfold List.Nodup at h3
    rw [List.pairwise_map] at h3
    refine h3.imp fun {a b'} h e => h ?_
    simpa [entO] using e
  · intro x hx
    obtain ⟨e, he, rfl⟩ := List.mem_map.1 hx
    obtain ⟨r1, r2⟩ := hr e he
    have hm : (100 : Nat) ≤ maxLen := by unfold maxLen; omega
    refine ⟨(.string (textOf e.1).data.toList, .lit (.string (textOf e.2.1).data.toList)), ?_⟩
    have k1 : keyOf Tryz.prog 9 (.string (textOf e.1)) = some (.string (textOf e.1).data.toList) := by simp [keyOf, Tryz.underlying9, mapKey]; omega
    have k2 : plainElem (H := Unit) Tryz.prog 9 (.string (textOf e.2.1)) = some (.lit (.string (textOf e.2.1).data.toList), []) := by simp [plainElem, Tryz.underlying9]; omega
    simp [WideElems.rd, entO, k1, k2]
end Go.Proofs.YtnkjigjjckkaeaaGreatDoor
namespace Go.Proofs.YtnkjigjjckkaeaaGreatDoor
open Go Go.Mach Go.Maps
def levsB : Bool := levs.all fun m => stampedB m.1 m.2 && (Nat.ble m.1.length 100 && m.1.all fun e => Nat.ble (textOf e.1).size 100 && Nat.ble (textOf e.2.1).size 100)
theorem levs_ok : levsB = true := by kernel_rfl
theorem owned_at {w : World} {b k : Nat} {m : List (List Nat × List Nat × Nat) × Nat} (hk : levs[k]? = some m) (hb : w.heap[b]? = some (.map (m.1.map entO).toArray m.2)) : w.ownsMap Tryz.prog 9 (plainElem Tryz.prog 9) b 100 (datum m.1) := by
  have h := levs_ok
  unfold levsB at h
  have h := List.all_eq_true.1 h m (List.mem_of_getElem? hk)
  simp only [Bool.and_eq_true, List.all_eq_true] at h
  obtain ⟨h1, h2, h3⟩ := h
  exact owned hb h1 (Nat.le_of_ble_eq_true h2) fun e he => ⟨Nat.le_of_ble_eq_true (h3 e he).1, Nat.le_of_ble_eq_true (h3 e he).2⟩
/-- The text at a key. -/
noncomputable def valAt (D : DataW Unit) (x : List UInt8) : List UInt8 := match D.atKey (.string x) .nil with | .lit (.string c) => c | _ => []
noncomputable def lev (k : Nat) : List (List UInt8) := match levs[k]? with | some m => (strKeys (datum m.1)).map (valAt (datum m.1)) | none => []
noncomputable def upto : Nat → List (List UInt8)
  | 0 => []
  | k + 1 => upto k ++ lev k
def ops18 : List (List Nat) := [[36], [37], [42], [43], [45], [46, 65, 78, 68, 46], [46, 79, 82, 46], [47], [60], [60, 61], [60, 62], [60, 62], [60, 62], [61], [61, 61], [62], [62, 61], [94]]
theorem perm18 : (upto 6).Perm (ops18.map (·.map UInt8.ofNat)) := List.isPerm_iff.1 (by kernel_rfl)
theorem sorted18 : (ops18.map (·.map UInt8.ofNat)).Pairwise (fun x y => leB x y = true) := by
  have h : decide ((ops18.map (·.map UInt8.ofNat)).Pairwise (fun x y => leB x y = true)) = true := by kernel_rfl
  exact of_decide_eq_true h
theorem compact18 : Lib.compact (ops18.map (·.map UInt8.ofNat)) = ops16.map (·.map UInt8.ofNat) := by
  have h : (Lib.compact (ops18.map (·.map UInt8.ofNat)) == ops16.map (·.map UInt8.ofNat)) = true := by kernel_rfl
  exact eq_of_beq h
theorem last_ok {ks : List (List UInt8)} (h : ks.Perm (upto 6)) : Lib.compact (ks.mergeSort fun x y => decide (x ≤ y)) = ops16.map (·.map UInt8.ofNat) := by
  have e : ks.mergeSort leB = (ops18.map (·.map UInt8.ofNat)).mergeSort leB := mergeSort_of_perm (h.trans perm18)
  rw [List.mergeSort_of_pairwise sorted18] at e
  show Lib.compact (ks.mergeSort leB) = _
  rw [e, compact18]
theorem upto_length : (upto 6).length = 18 := by kernel_rfl
theorem lev_le : ∀ k, k < 6 → (upto k).length + (lev k).length ≤ 18 := by
  intro k hk
  have h : ((List.range 6).all fun k => Nat.ble ((upto k).length + (lev k).length) 18) = true := by kernel_rfl
  exact Nat.le_of_ble_eq_true (List.all_eq_true.1 h k (List.mem_range.2 hk))
end Go.Proofs.YtnkjigjjckkaeaaGreatDoor
end
section
set_option linter.unusedVariables false
set_option linter.unusedSimpArgs false
namespace Go.Proofs.YtnkjigjjckkaeaaGreatDoor
open Go Go.Mach Go.Maps Go.RowKit Go.Shelf Go.Sort
theorem own_em (v : Value) : v.ownBlock = none ∨ v.ownBlock ≠ none := Classical.em _
theorem kept_below {w w' : World} (h : Mach.Kept w.heap.size w w') : Below w.heap.size w w' := ⟨h.os, h.tape, h.output, h.size, h.below⟩
theorem plainElem_str_inv {P : Program} {e : TypeId} (he : P.underlying e = some .string) {v : Value} {y : DataW Unit × List MemPlace} (h : plainElem P e v = some y) : ∃ c : List UInt8, v = encStr c ∧ y = (.lit (.string c), []) := by
  cases v <;> simp [plainElem, he] at h
  rename_i s
  exact ⟨s.data.toList, by simp [encStr], h.2.symm⟩
/-- What the walk leaves: the slice that is handed back owns the sorted, compacted strings; what was there has not turned. -/
def Left (w : World) (ss : List (List UInt8)) (e : Ending) (w' : World) : Prop :=
  ∃ g cap, e = .returned (.slice (some ⟨g, 0, none⟩) (Lib.compact (ss.mergeSort fun x y => decide (x ≤ y))).length cap) ∧
    w'.ownsRow w.heap.size 9 1 (.slice (some ⟨g, 0, none⟩) (Lib.compact (ss.mergeSort fun x y => decide (x ≤ y))).length cap) (Lib.compact (ss.mergeSort fun x y => decide (x ≤ y))).length ((Lib.compact (ss.mergeSort fun x y => decide (x ≤ y))).map encStr) ∧ Below w.heap.size w w'
theorem left_of {w w1 : World} {g cap n nn q : Nat} {os : Array Obj} {ss : List (List UInt8)} (hown : w1.ownsRow w.heap.size 9 1 (.slice (some ⟨g, 0, none⟩) n cap) n (ss.map encStr)) (hbel : Below w.heap.size w w1) (hbg : w.heap.size ≤ g) (hlen : ss.length = n) :
    Left w ss (.returned (.slice (some ⟨g, 0, none⟩) (Lib.compact (ss.mergeSort fun x y => decide (x ≤ y))).length cap))
      (putRow encStr (Sort.ahead (grow (putRow encStr (Sort.ahead w1 nn) g 0 (ss.mergeSort fun x y => decide (x ≤ y)).toArray) os) q) g 0 (Lib.compact (ss.mergeSort fun x y => decide (x ≤ y)) ++ List.replicate (n - (Lib.compact (ss.mergeSort fun x y => decide (x ≤ y))).length) []).toArray) := by
  have hl2 : (ss.mergeSort fun x y => decide (x ≤ y)).length = ss.length := List.length_mergeSort ss
  have hle := Lib.compact_length_le (ss.mergeSort fun x y => decide (x ≤ y))
  subst hlen
  rcases hown.2 with ⟨h0, _⟩ | ⟨g', cap', cur, hv, hbase, hb, h1, h2, h3, h4⟩
  · cases h0
  cases hv
  have hs := ownsRow_sorted (n := nn) (os := os) (ts := ss.mergeSort fun x y => decide (x ≤ y)) hl2 hbase hb h1 h2 h3
  have hc := Lib.ownsRow_putRow (q := q) (k := (Lib.compact (ss.mergeSort fun x y => decide (x ≤ y))).length) (ys := Lib.compact (ss.mergeSort fun x y => decide (x ≤ y)) ++ List.replicate (ss.length - (Lib.compact (ss.mergeSort fun x y => decide (x ≤ y))).length) []) hs (by simp; omega) (by omega)
  rw [List.take_left] at hc
  exact ⟨g, cap, rfl, hc, Lib.below_putRow (hbel.grown (grownBy_sorted _) hbel.size (fun j hj => by cases hj; exact hbase)) hbg⟩
theorem run_idx {bs : List Nat} {k b : Nat} (h : bs[k]? = some b) (hk : k < 6) (w : World) : (Instr.index 426 (.agg (bs.map fun b => Value.map (some b)).toArray) (.int .i64 k)).run Tryz.prog w = .ok (.map (some b)) w := by
  have h1 : (0 : Int) ≤ (k : Int) ∧ (k : Int) < 6 := by omega
  obtain ⟨hl, hv⟩ := List.getElem?_eq_some_iff.1 h
  have e : (bs.map fun b => Value.map (some b)).toArray[k]? = some (.map (some b)) := by simp [h]
  simp [Instr.index, run_underlying Tryz.underlying426, asIntOf, h1, go_sem, Tryz.sizeOf149, part, Tryz.isAgg149, h]
  intro h6; omega
theorem size_le {k : Nat} {m : List (List Nat × List Nat × Nat) × Nat} (hm : levs[k]? = some m) (hk : k < 6) : (upto k).length + Maps.size (datum m.1) ≤ 18 := by
  have h := lev_le k hk
  unfold lev at h
  rw [hm] at h
  simpa [datum, strKeys, Maps.size] using h
/-- These are the operators of the first levels, in some order. -/
structure PermUpto (k : Nat) (ks : List (List UInt8)) : Prop where
  perm : ks.Perm (upto k)
theorem PermUpto.length6 {ks : List (List UInt8)} (h : PermUpto 6 ks) : ks.length = 18 := h.perm.length_eq.trans upto_length
theorem PermUpto.length_le {k : Nat} {ks : List (List UInt8)} (h : PermUpto k ks) {m : List (List Nat × List Nat × Nat) × Nat} (hm : levs[k]? = some m) (hk : k < 6) : ks.length + Maps.size (datum m.1) ≤ 18 := by
  rw [h.perm.length_eq]; exact size_le hm hk
theorem upto_succ (k : Nat) : upto (k + 1) = upto k ++ lev k := rfl
set_option maxHeartbeats 1000000 in
set_option maxRecDepth 1000000 in
theorem ops_walk (w : World) : Calls Tryz.prog 259 #[] w fun e w' => ∃ (ks : List (List UInt8)) (w0 : World), PermUpto 6 ks ∧ Left w0 ks e w' ∧ Below w.heap.size w w0 := by
  have hi9 : (Tryz.prog.info? 9).map (fun i => (i.zero, i.size, i.bytes)) = some (some (.string ByteArray.empty), 1, 16) := by kernel_rfl
  obtain ⟨i0, hi, hx⟩ := Option.map_eq_some_iff.1 hi9
  simp only [Prod.mk.injEq] at hx
  obtain ⟨hz0, hz1, hz2⟩ := hx
  clear hi9
  go_enter Tryz.func259, Tryz.ntmps259
  go_wp2_with (first
    | (go_at_call 385; refine (levels_c _).mono ?_; rintro e w0 ⟨v0, rfl, hm⟩))
  obtain ⟨hk0, bs, rfl, hbl, hbn, hb⟩ := hm
  have HB : Aside (∀ (k : Nat) (m : List (List Nat × List Nat × Nat) × Nat), levs[k]? = some m → ∃ b : Nat, bs[k]? = some b ∧ w.heap.size ≤ b ∧ w0.heap[b]? = some (.map (m.1.map entO).toArray m.2)) := hb
  have HK : Aside (Below w.heap.size w w0) := kept_below hk0
  clear hb hk0 hbn
  go_loopg [1, 7] 6 (fun g s1 s7 wx => ∃ (k : Nat) (ks : List (List UInt8)), k + g = 6 ∧ s7 = .int .i64 k ∧ PermUpto k ks ∧
    wx.ownsRow w0.heap.size 9 1 s1 ks.length (ks.map encStr) ∧ Below w0.heap.size w0 wx)
  case atStart => exact ⟨0, [], by omega, rfl, ⟨List.Perm.refl _⟩, World.ownsRow_nil _ _ _ _, Below.refl _ _⟩
  case round =>
    obtain ⟨k, ks, hkg, rfl, HP, hrow, hbx⟩ := hrel
    cases gk with
    | zero =>
      have hkz : ¬ ((k : Int) < 6) := by omega
      obtain rfl : k = 6 := by omega
      have hpl := HP.length6
      have hnn : u1 ≠ .slice none 0 0 := by
        rintro rfl
        rcases hrow.2 with ⟨_, h0⟩ | ⟨g, cap, cur, h, _⟩
        · omega
        · cases h
      obtain ⟨g0, cap0, rfl, hbg, hgl, hncap, hcm, hlen, hH⟩ := Lib.holds_of_ownsRow hrow hnn
      have cSort := sort_c g0 0 cap0 ks wr hH hgl (by omega)
      have cComp : ∀ nn os, Calls Tryz.prog 37 #[.slice (some ⟨g0, 0, none⟩) ks.length cap0] (grow (putRow encStr (Sort.ahead wr nn) g0 0 (ks.mergeSort fun x y => decide (x ≤ y)).toArray) os) fun e w' =>
          e = .returned (.slice (some ⟨g0, 0, none⟩) (Lib.compact (ks.mergeSort fun x y => decide (x ≤ y))).length cap0) ∧ ∃ q, w' = putRow encStr (Sort.ahead (grow (putRow encStr (Sort.ahead wr nn) g0 0 (ks.mergeSort fun x y => decide (x ≤ y)).toArray) os) q) g0 0 (Lib.compact (ks.mergeSort fun x y => decide (x ≤ y)) ++ List.replicate (ks.length - (Lib.compact (ks.mergeSort fun x y => decide (x ≤ y))).length) []).toArray := fun nn os => by
        have hl2 : (ks.mergeSort fun x y => decide (x ≤ y)).length = ks.length := List.length_mergeSort ks
        have hH2 : Holds encStr (grow (putRow encStr (Sort.ahead wr nn) g0 0 (ks.mergeSort fun x y => decide (x ≤ y)).toArray) os) g0 0 (ks.mergeSort fun x y => decide (x ≤ y)).toArray :=
          holds_grow encStr _ os g0 0 _ (by simpa [putRow, mapBlock, Sort.ahead] using hgl) (holds_putRow encStr _ g0 0 _ _ (holds_ahead encStr wr nn g0 0 _ hH) (by simp))
        have := compact_c g0 0 cap0 (ks.mergeSort fun x y => decide (x ≤ y)) _ hH2 (by omega) (by omega)
        rwa [hl2] at this
      have X : Aside (wr.ownsRow w0.heap.size 9 1 (.slice (some ⟨g0, 0, none⟩) ks.length cap0) ks.length (ks.map encStr) ∧ RowKit.Below w0.heap.size w0 wr) := ⟨hrow, hbx⟩
      clear hrow hbx hH hpl
      go_wp2_with (first
        | (go_at_call 36; refine cSort.mono ?_; rintro e w2 ⟨rfl, nn, os, rfl⟩)
        | (go_at_call 37; refine (cComp _ _).mono ?_; rintro e w3 ⟨rfl, q, rfl⟩))
      go_ret
      exact ⟨ks, w0, HP, left_of X.out.1 X.out.2 hbg rfl, HK.out⟩
    | succ g =>
      have hkz : (k : Int) < 6 := by omega
      obtain ⟨m, hm⟩ : ∃ m, levs[k]? = some m := ⟨_, List.getElem?_eq_getElem (show k < 6 by omega)⟩
      obtain ⟨b, hbk, hbw, hbh⟩ := HB.out k m hm
      have hidx := run_idx hbk (by omega) wr
      have hbl0 : b < w0.heap.size := (Array.getElem?_eq_some_iff.1 hbh).1
      have hown : wr.ownsMap Tryz.prog 9 (plainElem Tryz.prog 9) b 100 (datum m.1) := owned_at hm ((hbx.block b hbl0).trans hbh)
      have hsz := HP.length_le hm (by omega)
      have HM : Aside (levs[k]? = some m) := hm
      clear hm hbk hbh
      go_wp2_with (first
        | (at_range; refine wpList_range_own _ rfl _ 149 rfl 9 9 law9 Tryz.underlying149 _ b 100 _ rfl hown ?_; intro w1 hrg0 hg0 hs0))
      go_frame
      go_loopg [1] (Maps.size (datum m.1)) (fun g2 s1 wy => ∃ (left : Lit → Bool) (cnt : Nat) (ss : List (List UInt8)), cnt ≤ g2 ∧ wy.ranges Tryz.prog 9 (plainElem Tryz.prog 9) b wr.heap.size 100 (datum m.1) left cnt ∧ ss.length + cnt ≤ Maps.size (datum m.1) ∧
        wy.ownsRow w0.heap.size 9 1 s1 (ks.length + ss.length) ((ks ++ ss.map (valAt (datum m.1))).map encStr) ∧ Collected (datum m.1) left ss ∧ Below w0.heap.size w0 wy)
      case atStart =>
        exact ⟨_, _, [], Nat.le_refl _, hrg0, by simp, by simpa using hrow.kept hg0 (own_em _), Collected.start _, hbx.grown hg0 hbx.size (fun j hj => by cases hj)⟩
      case round =>
        obtain ⟨left, cnt, ss, hcg, hrg, hcs, hrow2, hC, hb2⟩ := hrel
        go_wp2_with (first
          | (at_next; refine wpList_next_ranges _ rfl _ rfl 9 law9 (plainElem Tryz.prog 9) encStr encStr (fun key kl hk => by obtain ⟨x, hx, _⟩ := Maps.keyOf_str Tryz.underlying9 hk; exact ⟨x, hx⟩) (fun v y hv => by obtain ⟨c, rfl, _⟩ := plainElem_str_inv Tryz.underlying9 hv; exact ⟨c, rfl⟩) b _ 100 _ _ _ rfl hrg ?_ ?_))
        · intro hc0 hl0
          have hcp := hC.perm hown law9 Tryz.underlying9 hl0
          go_wp2
          go_roundg g
          case measure => omega
          case rel =>
            refine ⟨k + 1, ks ++ ss.map (valAt (datum m.1)), by omega, by first | rfl | simp, ?_, by simpa using hrow2, hb2⟩
            have hlev : lev k = (strKeys (datum m.1)).map (valAt (datum m.1)) := by unfold lev; rw [HM.out]
            refine ⟨?_⟩
            rw [upto_succ, hlev]
            exact HP.perm.append (hcp.map _)
        · intro x c kl yd yp w2 cnt2 hkey hlk hv hat hrg2 hlt hg2 hs2 hen
          obtain ⟨x', ex, rfl, _⟩ := Maps.keyOf_str Tryz.underlying9 hkey
          obtain rfl : x = x' := encStr_inj ex
          obtain ⟨c', ec, ey⟩ := plainElem_str_inv Tryz.underlying9 hv
          obtain rfl : c = c' := encStr_inj ec
          simp only [Prod.mk.injEq] at ey
          obtain ⟨rfl, rfl⟩ := ey
          have hval : valAt (datum m.1) x = c := by unfold valAt; rw [hat]
          have hrow3 := hrow2.kept hg2 (Or.inr (row_ne_iter hrow2 hrg).symm)
          have hb3 : RowKit.Below w0.heap.size w0 w2 := hb2.grown hg2 hb2.size (fun j hj => by cases hj; have := hbx.size; omega)
          clear hs2
          go_wp2_with (first
            | (at_builtin; refine wpList_append_own _ rfl _ _ 30 rfl w0.heap.size 9 i0 (.string ByteArray.empty) 1 16 Tryz.underlying30 hi hz0 hz1 hz2 rfl (by decide) _ _ _ rfl (hrow3.alloc _) ⟨w2.heap.size, 0, none⟩ 1 1 [encStr c] rfl rfl (cell_one_new _ _ _) (by simp [Value.oneCell', encStr]) (by unfold maxLen; omega) (by omega) (by have := hb3.size; simp; omega) ?_; intro v' w3 hown' hgrow3 hnil3))
          have hrg3 := (hrg2.alloc _).kept hgrow3 (row_ne_low hrow3 hbl0) (row_ne_iter hrow3 hrg2)
          go_roundg cnt2
          case measure => omega
          case rel =>
            refine ⟨_, cnt2, ss ++ [x], Nat.le_refl _, hrg3, by simp; omega, ?_, hC.step hlk hat, (hb3.alloc hb3.size _).grown hgrow3 (by have := hb3.size; simp; omega) (fun q hq => (hrow3.lt q hq).1)⟩
            have e1 : (ks ++ (ss ++ [x]).map (valAt (datum m.1))).map encStr = (ks ++ ss.map (valAt (datum m.1))).map encStr ++ [encStr c] := by simp [hval]
            rw [e1, List.length_append]
            exact hown'
end Go.Proofs.YtnkjigjjckkaeaaGreatDoor
end
section
namespace Go.Proofs.YtnkjigjjckkaeaaGreatDoor
open Go Go.Mach Go.Maps Go.RowKit Go.Shelf Go.Sort
theorem bytesOf_encoded (l : List UInt8) : bytesOf ⟨l.toArray⟩ = l.map (·.toNat) := by simp [bytesOf]
theorem ops_texts {w : World} {e : Ending} {w' : World} (h : ∃ (ks : List (List UInt8)) (w0 : World), PermUpto 6 ks ∧ Left w0 ks e w' ∧ RowKit.Below w.heap.size w w0) : ∃ v, e = .returned v ∧ TextsAt 9 ops16 w v w' := by
  obtain ⟨ks, w0, hp, ⟨g, cap, rfl, hown, hb1⟩, hb0⟩ := h
  have e16 := last_ok hp.perm
  rw [e16] at hown ⊢
  have hsz := hb0.size
  refine ⟨_, rfl, ⟨hb1.os.trans hb0.os, hb1.tape.trans hb0.tape, hb1.output.trans hb0.output, Nat.le_trans hb0.size hb1.size, fun b hb => (hb1.block b (Nat.lt_of_lt_of_le hb hsz)).trans (hb0.block b hb)⟩, ?_⟩
  rcases hown.2 with ⟨h0, _⟩ | ⟨g', cap', cur, hv, hbase, hb, h1, h2, h3, h4⟩
  · cases h0
  cases hv
  simp only [Nat.mul_one, List.length_map] at h1 h3 h4
  refine ⟨g, cur, (0, 0), by rw [h3, List.length_map], Nat.le_trans hsz hbase, hb, by omega, fun o _ h => by simp at h, fun k t hk => ?_⟩
  have hlt : k < ops16.length := (List.getElem?_eq_some_iff.1 hk).1
  have e2 : (cur.toList.take ops16.length)[k]? = some (encStr (t.map UInt8.ofNat)) := by
    rw [h4]
    simp [hk]
  rw [List.getElem?_take_of_lt hlt] at e2
  refine ⟨⟨(t.map UInt8.ofNat).toArray⟩, by simpa [encStr] using e2, ?_⟩
  rw [bytesOf_encoded, List.map_map]
  have hall : (ops16.all fun t => t.all fun n => decide (n < 256)) = true := by decide
  have ht := List.all_eq_true.1 (List.all_eq_true.1 hall t (List.mem_of_getElem? hk))
  refine (List.map_congr_left fun n hn => ?_).trans (List.map_id t)
  have := ht n hn
  simp only [decide_eq_true_eq] at this
  simp [UInt8.toNat_ofNat']
  omega
theorem operators_ok (base : Nat) : ExtOK Tryz.prog base 259 (sumGrown 9 ops16) :=
  extOK_grown (by kernel_rfl) noCount fun w => (ops_walk w).mono fun e w' h => ops_texts h
end Go.Proofs.YtnkjigjjckkaeaaGreatDoor
end
