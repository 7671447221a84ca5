/-
  OWN: an abstract machine over a function table, and the proof that its answers are the program's (part 2 of 3): what a call comes to, whatever the tape answers. By an AI agent. No person has read it.
-/
import Derived.Test.YtnkjigjjckkaeaaGreatDoorFnMa
import Derived.Lib.UnsafeStr
import Derived.RangeFuncLeaves
import Derived.OrdersIn
import Derived.Lib.Bytealg
import Derived.RecoverIn
import Derived.Conc.MuLone
import Derived.Lib.IndexMore
import Derived.Lib.MakeNoZero
import Derived.Below
import Derived.Lib.LaidTab
section
/-! One operation of the machine is the model's. -/
set_option linter.unusedSimpArgs false
set_option linter.unusedVariables false
namespace Go.Mach
open Go
section
variable {P : Program} {base : Nat} {C : CMap} {s s' : St} {w : World}

/-- What an operation yields. -/
def NR (r : AV) (C : CMap) : Next → Prop
  | .value v => VR C r v
  | .skip => VR C r undef
  | _ => False
theorem Res.toV {r : AV} {c : Sem Value} (h : Res P base C s s' w (fun C v => VR C r v) (c.run P w)) : Res P base C s s' w (NR r) ((do pure (.value (← c)) : Sem Next).run P w) := by
  obtain ⟨C', v, w', e, h1, h2⟩ := h
  exact ⟨C', .value v, w', by rw [Sem.run_bind, e]; rfl, h1, h2⟩
theorem Res.val {r : AV} {v : Value} {c : Result Next} (h : c = .ok (.value v) w) (hv : VR C r v) (hw : WR P base C s.h.get w.heap) : Res P base C s s w (NR r) c := Res.of h hv hw (Same.refl _)
theorem Res.toU {c : Sem Unit} (h : Res P base C s s' w (fun _ _ => True) (c.run P w)) : Res P base C s s' w (NR undefA) ((do c; pure .skip : Sem Next).run P w) := by
  obtain ⟨C', v, w', e, h1, h2⟩ := h
  exact ⟨C', .skip, w', by rw [Sem.run_bind, e]; rfl, VR.mk_undef, h2⟩
theorem run_retOpt {o : Option AV} {r : AV} : (retOpt o).run s = some (r, s') ↔ o = some r ∧ s = s' := by
  simp only [retOpt, run_opt, M.run_pure']
  constructor
  · rintro ⟨a, rfl, rfl, rfl⟩; exact ⟨rfl, rfl⟩
  · rintro ⟨rfl, rfl⟩; exact ⟨_, rfl, rfl, rfl⟩
theorem run_retUnit {m : M Unit} {r : AV} : (retUnit m).run s = some (r, s') ↔ ∃ u, m.run s = some (u, s') ∧ r = undefA := by
  simp only [retUnit, M.run_bind', M.run_pure']
  constructor
  · rintro ⟨u, s1, h, rfl, rfl⟩; exact ⟨u, h, rfl⟩
  · rintro ⟨u, h, rfl⟩; exact ⟨u, s', h, rfl, rfl⟩
theorem Res.pureV {o : Option AV} {r : AV} {c : Sem Value} (hw : WR P base C s.h.get w.heap) (h : (retOpt o).run s = some (r, s')) (hc : o = some r → ∃ v, c.run P w = .ok v w ∧ VR C r v) :
    Res P base C s s' w (NR r) ((do pure (.value (← c)) : Sem Next).run P w) := by
  rw [run_retOpt] at h
  obtain ⟨h1, rfl⟩ := h
  exact Res.toV (Res.value (hc h1) hw (Same.refl _))
theorem OVR_of {A : AAct} {a : Act} (hg : Glob P C) (hF : TR C A.tmps a.tmps) (x : Option Operand) : OVR C (evalOpt P A x) (x.map a.eval) := by
  cases x with
  | none => rfl
  | some x => exact ⟨_, rfl, evalA_ok hg hF x⟩
def isCall : Op → Bool
  | .call _ => true
  | _ => false
theorem evalAll_arr {A : AAct} {a : Act} (hg : Glob P C) (hF : TR C A.tmps a.tmps) (l : Array Operand) : VRs C (evalAll P A l.toList) (l.map a.eval).toList := by
  rw [Array.toList_map]; exact evalAll_ok hg hF _
theorem liesAt_bytes_at {e : TypeId} (hc : P.cellsOf e = 1) (count off n : Nat) (hn : off + n ≤ count) : liesAt P P.depth e count off e n = true := by
  have hd : P.depth = (2 * (P.types.size + Made.depth) + 1) + 1 := rfl
  rw [hd]
  simp only [liesAt, Bool.or_eq_true]
  left
  rw [hd]
  simp [rowAt, hc, hn, sameLayout, Nat.mod_one]
theorem freeze_heap_ne {b c : Nat} {o n : Nat} (h : c ≠ b) : (w.freeze ⟨b, o, none⟩ n).heap[c]? = w.heap[c]? := by
  unfold World.freeze
  split
  · rfl
  · simp only [Array.getElem?_modify]
    rw [if_neg (fun e => h e.symm)]
theorem freeze_heap_self {b o n : Nat} {arr : Array Value} {e : TypeId} {fz : Nat × Nat} (h : w.heap[b]? = some (.cells arr e fz)) : ∃ fz', (w.freeze ⟨b, o, none⟩ n).heap[b]? = some (.cells arr e fz') := by
  unfold World.freeze
  split
  · exact ⟨fz, h⟩
  · obtain ⟨lo, hi⟩ := fz
    refine ⟨if lo == hi then (o, o + n) else (min lo o, max hi (o + n)), ?_⟩
    simp only [Array.getElem?_modify]
    rw [if_pos trivial, h]
    rfl
theorem freeze_kept {b o n : Nat} (h : base ≤ b) : Kept base w (w.freeze ⟨b, o, none⟩ n) := by
  refine ⟨?_, ?_, ?_, ?_, fun c hc => freeze_heap_ne (by omega)⟩ <;> unfold World.freeze <;> split <;> simp
theorem sliceDataA_ok {argTypes : Array TypeId} {ty : TypeId} {x r : AV} {vx : Value} (hw : WR P base C s.h.get w.heap) (hx : VR C x vx) (h : (sliceDataA x).run s = some (r, s')) :
    Res P base C s s' w (fun C v => VR C r v) ((Builtin.unsafeSliceData_ argTypes ty #[vx]).run P w) := by
  unfold sliceDataA at h
  split at h
  · simp only [M.run_pure'] at h
    obtain ⟨rfl, rfl⟩ := h
    have := hx.nilSlice_inv; subst this
    exact Res.of (b := .pointer none) rfl (by simp [VR]) hw (Same.refl _)
  · rename_i id off len c
    simp only [M.run_pure'] at h
    obtain ⟨rfl, rfl⟩ := h
    obtain ⟨i, k, hi, rfl, hk⟩ := hx.slice_inv
    simp only [capR] at hk
    exact Res.of (Lib.run_unsafeSliceData_row w _ _ _ _ _ (by omega)) (by simp only [VR]; exact ⟨i, hi, rfl⟩) hw (Same.refl _)
  · rename_i id off len es
    simp only [M.run_pure'] at h
    obtain ⟨rfl, rfl⟩ := h
    obtain ⟨i, k, hi, rfl, hk⟩ := hx.slice_inv
    simp only [capR] at hk
    exact Res.of (Lib.run_unsafeSliceData_row w _ _ _ _ _ (by omega)) (by simp only [VR]; exact ⟨i, hi, rfl⟩) hw (Same.refl _)
  · simp at h
theorem unsafeStringA_ok {argTypes : Array TypeId} {ty : TypeId} {p n r : AV} {vp vn : Value} (hw : WR P base C s.h.get w.heap) (hp : VR C p vp) (hn : VR C n vn) (h : (unsafeStringA P argTypes.toList p n).run s = some (r, s')) :
    Res P base C s s' w (fun C v => VR C r v) ((Builtin.unsafeString_ argTypes ty #[vp, vn]).run P w) := by
  have hmax : IntKind.i64.max = 9223372036854775807 := by decide
  unfold unsafeStringA at h
  simp only [run_opt] at h
  obtain ⟨pt, hpt, h⟩ := h
  have hpt0 : argTypes[0]? = some pt := by simpa using hpt
  split at h
  · simp only [M.run_pure'] at h
    obtain ⟨rfl, rfl⟩ := h
    simp only [VR] at hp hn
    subst hp hn
    refine Res.of (b := .string .empty) ?_ (by simp only [VR]; exact ⟨_, rfl, rfl⟩) hw (Same.refl _)
    show Sem.run P (asInt (Value.int _ _) >>= _) w = _
    simp [asInt, asIntOf, hpt0, hmax]
  · simp only [M.run_pure'] at h
    obtain ⟨rfl, rfl⟩ := h
    obtain ⟨i, hi, rfl⟩ := hp.ptr_inv
    simp only [VR] at hn
    subst hn
    refine Res.of (b := .string .empty) ?_ (by simp only [VR]; exact ⟨_, rfl, rfl⟩) hw (Same.refl _)
    show Sem.run P (asInt (Value.int _ _) >>= _) w = _
    simp [asInt, asIntOf, hpt0, hmax]
  · rename_i id off k0 n
    have hpt' := hpt0
    split at h
    · rename_i e hu
      obtain ⟨c, len, elem, ro, g, s1, hid, hsame, h⟩ := run_rdCells h
      simp only [run_chk, run_opt, M.run_bind', M.run_pure', Bool.and_eq_true, Bool.not_eq_true'] at h
      obtain ⟨⟨hro, he, hc1, hle, hbig⟩, l, hl, bs, hbs, u, s2, hput, rfl, rfl⟩ := h
      have he' := Nat.eq_of_beq_eq_true he
      subst he'
      have hc1' : P.cellsOf elem = 1 := Nat.eq_of_beq_eq_true hc1
      have hle' : off + (n + 1) ≤ len := Nat.le_of_ble_eq_true hle
      have hbig' : n ≤ 1000000 := Nat.le_of_ble_eq_true hbig
      obtain ⟨i, arr, fz, hi, hb, hs, hlr, hcell, hfz, hg⟩ := hw.cellsOf hid
      obtain ⟨i', hi', rfl⟩ := hp.ptr_inv
      rw [hi] at hi'; injection hi' with hi'; subst hi'
      simp only [VR] at hn
      subst hn
      obtain ⟨vs, e1, e2, e3⟩ := span_ok hcell hle' hl
      obtain ⟨rfl, hlt⟩ := bytesA_ok hbs e2
      have hbl : bs.length = n + 1 := by simpa using e1
      let l8 : List UInt8 := bs.map UInt8.ofNat
      have hl8 : l8.length = n + 1 := by simp [l8, hbl]
      have hbytes : bytesOf ⟨l8.toArray⟩ = bs := by
        simp only [bytesOf, l8, List.map_map]
        conv => rhs; rw [← List.map_id' bs]
        refine List.map_congr_left fun b hb => ?_
        have := hlt b hb
        simp only [Function.comp, UInt8.toNat_ofNat']
        omega
      have hload := Lib.run_loadBytes (P := P) w l8 ⟨i.blk, i.off + off, none⟩ .empty (fun j x hj => by
        simp only [l8, List.getElem?_map, Option.map_eq_some_iff] at hj
        obtain ⟨b, hbj, rfl⟩ := hj
        have hb256 := hlt b (List.mem_of_getElem? hbj)
        have hv := e3 j (.int .u8 (Int.ofNat b)) (by simp [hbj])
        have ea : (⟨i.blk, i.off + off, none⟩ : Addr).add j = ⟨i.blk, i.off + off + j, none⟩ := by
          unfold Addr.add
          by_cases hj0 : j = 0
          · subst hj0; simp
          · simp [hj0]
        rw [ea, cell_of hb, hv]
        congr 2
        simp only [UInt8.toNat_ofNat']
        rw [Nat.mod_eq_of_lt (by omega)]
        rfl)
      rw [hl8] at hload
      have hlies := liesAt_bytes_at (P := P) hc1' (arr.size / P.cellsOf elem) (i.off + off) (n + 1) (by rw [hc1', Nat.div_one]; omega)
      have hsh : w.shape? i.blk = some (elem, arr.size) := by simp [World.shape?, hb]
      have hG : P.globals.size ≤ id := by
        rcases Nat.lt_or_ge id P.globals.size with hlt | hge
        · have := hw.low id _ hid hlt; simp [AObj.still, hro] at this
        · exact hge
      have hbase := hw.high id i hG hi
      have hrun : (Builtin.unsafeString_ argTypes ty #[.pointer (some ⟨i.blk, i.off + off, none⟩), .int k0 (Int.ofNat (n + 1))]).run P w = .ok (.string ⟨l8.toArray⟩) (w.freeze ⟨i.blk, i.off + off, none⟩ (n + 1)) := by
        show Sem.run P (asInt (Value.int _ _) >>= _) w = _
        have h1 : ¬ (Int.ofNat (n + 1) < 0) := by simp; omega
        have h2 : ¬ (Int.ofNat (n + 1) > IntKind.i64.max) := by rw [hmax]; simp; omega
        have h3 : ¬ (Int.ofNat (n + 1) = 0) := by simp; omega
        have h4 : (Int.ofNat (n + 1)).toNat = n + 1 := rfl
        have ha : (asInt (.int k0 (Int.ofNat (n + 1)))).run P w = .ok (Int.ofNat (n + 1)) w := rfl
        simp only [Sem.run_bind, ha, Result.andThen_ok, hpt', h1, h2, h3, if_false, h4]
        have hel : (elemOf pt).run P w = .ok elem w := by simp [elemOf, run_underlying hu]
        have hva : (variablesAt ⟨i.blk, i.off + off, none⟩ elem (n + 1)).run P w = .ok true w := by simp [variablesAt, hsh, hlies]
        simp only [Sem.run_pure, Result.andThen_ok, Sem.run_bind, hel, hva, if_true, hload]
        simp
      have hmod := freeze_heap_self (w := w) (o := i.off + off) (n := n + 1) hb
      obtain ⟨fz', hmod⟩ := hmod
      have hid1 : s1.h.get id = some (.cells c len elem ro g) := by rw [hsame.1]; exact hid
      rw [run_put] at hput
      obtain ⟨_, rfl⟩ := hput
      refine ⟨C, .string ⟨l8.toArray⟩, _, hrun, ?_, ?_, fun id' _ => rfl, freeze_kept hbase⟩
      · simp only [VR]; exact ⟨_, rfl, hbytes⟩
      · have := WR.update (i := i) (o' := .cells c len elem true g) (H' := (w.freeze ⟨i.blk, i.off + off, none⟩ (n + 1)).heap) hw hid hi (by simp [AObj.still, hro]) (fun b hb' => freeze_heap_ne hb') (freeze_kept (base := base) hbase).size
          ⟨arr, fz', hmod, hs, hlr, hcell, fun h => (Bool.noConfusion h), hg⟩
        refine this.congr fun q => ?_
        simp only [T.get_set, hsame.1]
    · simp at h
  · simp at h
theorem lastA_ok : ∀ {l : List Nat} {b : Nat}, lastA l = some b → l.toArray.back? = some b
  | [], b, h => by simp [lastA] at h
  | [x], b, h => by simp only [lastA, Option.some.injEq] at h; subst h; rfl
  | x :: y :: l, b, h => by
    simp only [lastA] at h
    have := lastA_ok (l := y :: l) h
    simp only [List.back?_toArray, List.getLast?_cons_cons] at this ⊢
    exact this
theorem bornA_ok {b : Nat} : ∀ {as : List (AV × AV × Nat)} {l : List MapEntry} {e : AV × AV}, ERs C as l → bornA b as = some e → ∃ m, l.find? (·.born == b) = some m ∧ VR C e.1 m.key ∧ VR C e.2 m.val
  | [], l, e, _, h => by simp [bornA] at h
  | a :: as, l, e, hl, h => by
    simp only [ERs] at hl
    obtain ⟨m, ms, rfl, h1, h2⟩ := hl
    simp only [bornA] at h
    obtain ⟨k1, k2, k3⟩ := h1
    cases hb : Nat.beq a.2.2 b with
    | true =>
      rw [hb] at h
      simp only [cond_true, Option.some.injEq] at h
      subst h
      have := Nat.eq_of_beq_eq_true hb
      exact ⟨m, by simp [k3, this], k1, k2⟩
    | false =>
      rw [hb] at h
      simp only [cond_false] at h
      have hne : (m.born == b) = false := by
        rw [k3]
        simp only [beq_eq_false_iff_ne]
        intro e
        rw [e] at hb
        simp at hb
      obtain ⟨q, q1, q2⟩ := bornA_ok h2 h
      exact ⟨q, by rw [List.find?_cons, hne]; exact q1, q2⟩
theorem entryA_ok {it r : AV} {vi : Value} (hw : WR P base C s.h.get w.heap) (hi : VR C it vi) (h : (entryA it).run s = some (r, s')) :
    Res P base C s s' w (fun C v => VR C r v) ((Instr.entry vi).run P w) := by
  unfold entryA at h
  split at h
  · rename_i id
    obtain ⟨i, hci, rfl⟩ := hi.ptr_inv
    simp only [M.run_bind', run_rd] at h
    obtain ⟨o, s1, ⟨hid, rfl⟩, h⟩ := h
    obtain ⟨i2, hi2, hr⟩ := hw.obj id _ hid
    rw [hci] at hi2; injection hi2 with hi2; subst hi2
    have hsame : Same s ⟨s.h, s.n, s.f ||| bit id, s.w⟩ := ⟨rfl, rfl⟩
    split at h
    · rename_i m since seen last
      obtain ⟨h0, m', hb, hm⟩ := hr
      cases m' with
      | none => exact hm.elim
      | some mb =>
        obtain ⟨j, hj, rfl⟩ := hm
        obtain ⟨es, clock, s2, hmid, hsame2, h⟩ := run_rdMap h
        simp only [run_chk, run_opt, M.run_pure'] at h
        obtain ⟨hcl, b, hlast, e, hborn, rfl, rfl⟩ := h
        have hcl' := Nat.eq_of_beq_eq_true hcl
        subst hcl'
        obtain ⟨j2, l, hj2, hmb, her⟩ := hw.mapOf hmid
        rw [hj] at hj2; injection hj2 with hj2; subst hj2
        obtain ⟨q, q1, q2, q3⟩ := bornA_ok her hborn
        have hfind : l.find? (fun x => x.born == b) = some q := by rw [← Array.find?_toList]; exact q1
        have hback := lastA_ok hlast
        refine Res.of (b := .tuple #[q.key, q.val]) ?_ ?_ hw (hsame.trans hsame2)
        · simp only [Instr.entry, h0, Nat.add_zero, Sem.run_bind, run_getObj' hb (by simp), Result.andThen_ok, hback, run_getObj' hmb (by simp), bne_self_eq_false, Bool.false_eq_true, if_false, hfind, Sem.run_pure]
        · simp only [VR]; exact ⟨_, rfl, by simp only [VRs.cons]; exact ⟨q2, q3, VRs.nil⟩⟩
    · simp at h
  · simp at h
theorem opA_ok {F : Fns} {o : Oper} {A : AAct} {a : Act} {r : AV} (hnc : isCall o.op = false) (hw : WR P base C s.h.get w.heap) (hG : P.globals.size ≤ s.n) (hf : Fresh C s.n s'.n) (hF : TR C A.tmps a.tmps)
    (h : (opA P F o.op A).run s = some (r, s')) : Res P base C s s' w (NR r) ((execOp a.eval o).run P w) := by
  have hg : Glob P C := hw.glob
  have ev := fun x => evalA_ok hg hF x
  unfold execOp
  cases hop : o.op <;> rw [hop] at h hnc <;> simp only [opA, M.run_fail, isCall, Bool.true_eq_false] at h hnc
  case move x =>
    rw [M.run_pure'] at h; obtain ⟨rfl, rfl⟩ := h
    exact Res.val rfl (ev x) hw
  case assign x =>
    rw [M.run_pure'] at h; obtain ⟨rfl, rfl⟩ := h
    exact Res.val rfl (ev x) hw
  case pick c x y =>
    rw [run_retOpt] at h
    obtain ⟨h, rfl⟩ := h
    unfold pickA at h
    have hc := ev c
    split at h
    · rename_i e
      rw [e] at hc
      injection h with h; subst h
      refine Res.val (v := a.eval x) ?_ (ev x) hw
      simp [hc.bool_inv, asBool]
    · rename_i e
      rw [e] at hc
      injection h with h; subst h
      refine Res.val (v := a.eval y) ?_ (ev y) hw
      simp [hc.bool_inv, asBool]
    · cases h
  case alloc elem =>
    simp only [run_opt, M.run_bind', M.run_pure'] at h
    obtain ⟨z, hz, id, s1, h, rfl, rfl⟩ := h
    exact Res.toV (allocA_ok hw hG hf hz h)
  case box elem x =>
    simp only [M.run_bind', M.run_pure'] at h
    obtain ⟨id, s1, h, rfl, rfl⟩ := h
    exact Res.toV (boxA_ok hw hG hf (ev x) h)
  case build t parts =>
    refine Res.pureV hw h fun h => buildA_ok ?_ h
    rw [Array.toList_map]
    exact evalParts_ok hg hF _
  case buildSlice t len parts =>
    refine Res.toV (buildSliceA_ok hw hG hf ?_ h)
    rw [Array.toList_map]
    exact evalParts_ok hg hF _
  case load t x =>
    have hx := ev x
    split at h
    · rename_i id off e
      rw [e] at hx
      obtain ⟨i, hi, hv⟩ := hx.ptr_inv
      obtain ⟨j, v, hj, e1, e2, e3⟩ := loadA_ok hw h
      rw [hi] at hj; injection hj with hj; subst hj
      exact Res.toV (Res.value ⟨v, by simp [Instr.loadAt, hv, Instr.sureAddr, e1], e2⟩ hw e3)
    · simp at h
  case store t x y =>
    have hx := ev x
    split at h
    · rename_i id off e
      rw [e] at hx
      obtain ⟨i, hi, hv⟩ := hx.ptr_inv
      rw [run_retUnit] at h
      obtain ⟨u, h, rfl⟩ := h
      obtain ⟨j, hj, hr⟩ := storeA_ok hw (ev y) h
      rw [hi] at hj; injection hj with hj; subst hj
      refine Res.toU ?_
      have e1 : (Instr.storeAt t (a.eval x) (a.eval y)).run P w = (storeVar t ⟨i.blk, i.off + off, none⟩ (a.eval y)).run P w := by simp [Instr.storeAt, hv, Instr.sureAddr]
      rw [e1]; exact hr
    · simp at h
  case nilCheck x =>
    rw [run_retOpt] at h
    obtain ⟨h, rfl⟩ := h
    have hx := ev x
    unfold nilCheckA at h
    split at h
    · rename_i e
      rw [e] at hx
      injection h with h; subst h
      obtain ⟨i, hi, hv⟩ := hx.ptr_inv
      refine Res.val (v := a.eval x) ?_ hx hw
      simp only [hv]
      rfl
    · rename_i e
      rw [e] at hx
      injection h with h; subst h
      obtain ⟨g, p, q, hv, hg', _⟩ := hx.func_inv
      simp only [fnR] at hg'
      subst hg'
      refine Res.val (v := a.eval x) ?_ hx hw
      simp only [hv]
      rfl
    · rename_i e
      rw [e] at hx
      injection h with h; subst h
      obtain ⟨y, hv, _⟩ := hx.iface_inv
      refine Res.val (v := a.eval x) ?_ hx hw
      simp only [hv]
      rfl
    · cases h
  case binOp op t x y yt => exact Res.pureV hw h fun h => binA_ok (ev x) (ev y) h
  case unOp op t x => exact Res.pureV hw h fun h => unA_ok (ev x) h
  case convert src dst x => exact Res.toV (convA_ok hw hG hf (ev x) h)
  case makeInterface t x => exact Res.pureV hw h fun h => ifaceA_ok (ev x) h
  case makeFunc fn first cap =>
    refine Res.pureV hw h fun h => ?_
    refine ⟨.func fn (first.map a.eval) (cap.map a.eval), rfl, ?_⟩
    unfold funcA at h
    split at h
    · cases h
    · rename_i hny
      injection h with h; subst h
      simp only [VR]
      refine ⟨fn, _, _, rfl, ?_, evalAll_arr hg hF first, evalAll_arr hg hF cap⟩
      cases fn <;> first | rfl | exact absurd rfl (hny _)
  case makeMap t r0 =>
    cases r0 with
    | some q => simp at h
    | none =>
      simp only [M.run_bind', M.run_pure'] at h
      obtain ⟨id, s1, h, rfl, rfl⟩ := h
      exact Res.toV (makeMapA_ok hw hG hf h)
  case makeSlice t l c => exact Res.toV (makeSliceA_ok hw hG hf (ev l) (ev c) h)
  case slice t x lo hi mx => exact Res.pureV hw h fun h => sliceA_ok (ev x) (OVR_of hg hF lo) (OVR_of hg hF hi) (OVR_of hg hF mx) h
  case fieldAddr st x f => exact Res.pureV hw h fun h => fieldAddrA_ok (ev x) h
  case field t x f => exact Res.pureV hw h fun h => fieldA_ok (ev x) h
  case indexAddr t x ix => exact Res.pureV hw h fun h => indexAddrA_ok (ev x) (ev ix) h
  case index t x ix => exact Res.pureV hw h fun h => indexA_ok (ev x) (ev ix) h
  case lookup t x k ok =>
    obtain ⟨h1, h2⟩ := lookupA_ok hw (ev x) (ev k) h
    exact Res.toV (Res.value h1 hw h2)
  case mapUpdate t m k x =>
    rw [run_retUnit] at h
    obtain ⟨u, h, rfl⟩ := h
    exact Res.toU (updateA_ok hw (ev m) (ev k) (ev x) h)
  case insert t m k x =>
    rw [run_retUnit] at h
    obtain ⟨u, h, rfl⟩ := h
    exact Res.toU (updateA_ok hw (ev m) (ev k) (ev x) h)
  case range t x => exact Res.toV (rangeA_ok hw hG hf (ev x) h)
  case next it b => exact Res.toV (nextA_ok hw hf (ev it) h)
  case entry it => exact Res.toV (entryA_ok hw (ev it) h)
  case typeAssert x xt t ok => exact Res.pureV hw h fun h => typeAssertA_ok (ev x) h
  case extract x i => exact Res.pureV hw h fun h => extractA_ok (ev x) h
theorem builtinA_ok {b : Builtin} {argTypes : Array TypeId} {ty : TypeId} {consts : Array Bool} {args : List AV} {vargs : Array Value} {r : AV} (hw : WR P base C s.h.get w.heap) (hG : P.globals.size ≤ s.n) (hf : Fresh C s.n s'.n) (ha : VRs C args vargs.toList)
    (h : (builtinA P b argTypes.toList args).run s = some (r, s')) : Res P base C s s' w (NR r) ((builtin b argTypes ty consts vargs).run P w) := by
  unfold builtinA at h
  obtain ⟨vl⟩ := vargs
  simp only at ha
  split at h
  · simp only [VRs] at ha
    obtain ⟨v1, l1, rfl, h1, rfl⟩ := ha
    exact Res.toV (sliceDataA_ok hw h1 h)
  · simp only [VRs] at ha
    obtain ⟨v1, l1, rfl, h1, v2, l2, rfl, h2, rfl⟩ := ha
    exact Res.toV (unsafeStringA_ok hw h1 h2 h)
  · simp only [VRs] at ha
    obtain ⟨v1, l1, rfl, h1, v2, l2, rfl, h2, rfl⟩ := ha
    exact Res.toV (appendA_ok hw hG hf h1 h2 h)
  · simp only [VRs] at ha
    obtain ⟨v1, l1, rfl, h1, v2, l2, rfl, h2, rfl⟩ := ha
    exact Res.toV (copyA_ok hw hf h1 h2 h)
  · simp only [VRs] at ha
    obtain ⟨v1, l1, rfl, h1, rfl⟩ := ha
    exact Res.toV (lenA_ok hw h1 h)
  · simp only [VRs] at ha
    obtain ⟨v1, l1, rfl, h1, rfl⟩ := ha
    exact Res.toV (capA_ok hw h1 h)
  · simp only [VRs] at ha
    obtain ⟨v1, l1, rfl, h1, rfl⟩ := ha
    exact Res.toV (clearA_ok hw hf h1 h)
  · simp only [VRs] at ha
    obtain ⟨v1, l1, rfl, h1, v2, l2, rfl, h2, rfl⟩ := ha
    simp only [run_opt] at h
    obtain ⟨t, ht, h⟩ := h
    exact Res.toV (deleteA_ok (by simpa using ht) hw hf h1 h2 h)
  · simp only [VRs] at ha
    obtain ⟨v1, l1, rfl, h1, h2⟩ := ha
    refine Res.pureV (c := Builtin.min_ argTypes ty ⟨v1 :: l1⟩) hw h fun h => ?_
    exact minA_ok h1 h2 h
  · simp only [VRs] at ha
    obtain ⟨v1, l1, rfl, h1, h2⟩ := ha
    refine Res.pureV (c := Builtin.max_ argTypes ty ⟨v1 :: l1⟩) hw h fun h => ?_
    exact minA_ok h1 h2 h
  · simp at h
end
end Go.Mach
end
section
/-! The machine's calls are the model's. -/
set_option linter.unusedSimpArgs false
set_option linter.unusedVariables false
namespace Go.Mach
open Go

/-- A fence that asks nothing, in a round or not. -/
def fenceOf (ro : Option Nat) : Fence := { Fence.wide with round := ro }
def RoR (C : CMap) : Option Nat → Option Nat → Prop
  | none, ro => ro = none
  | some l, ro => ∃ i, C l = some i ∧ ro = some i.blk
theorem RoR.mono {C C' : CMap} (h : C.le C') {r ro : Option Nat} (hr : RoR C r ro) : RoR C' r ro := by
  cases r with
  | none => exact hr
  | some l => obtain ⟨i, hi, e⟩ := hr; exact ⟨i, h _ _ hi, e⟩
/-- A call's end. -/
def Ends (R : Value → World → Prop) : Ending → World → Prop
  | .returned v, w => R v w
  | _, _ => False
/-- What a call comes to. -/
def UponR (P : Program) (R : Value → World → Prop) : Result Next → Prop
  | .ok (.value v) w => R v w
  | .ok (.enter f args) w => CallsIn Fence.wide 0 P f args w (Ends R)
  | .ok (.round l f tmps assign body) w => RoundIn Fence.wide 0 P l f tmps assign body w (Ends R)
  | _ => False
def PostV (P : Program) (base : Nat) (C : CMap) (s s' : St) (w : World) (r : AV) (v : Value) (w' : World) : Prop :=
  ∃ C', VR C' r v ∧ WR P base C' s'.h.get w'.heap ∧ Ext C C' s.n s'.n ∧ Kept base w w'
def exitR : AExit → Exit → Prop
  | .normal, .normal => True
  | .ret, .ret => True
  | .exit id, .exit id' => id' = id
  | _, _ => False
def CodePost (P : Program) (base : Nat) (C : CMap) (s s' : St) (w : World) (e : AExit) (A' : AAct) (e' : Exit) (a' : Act) (w' : World) : Prop :=
  exitR e e' ∧ ∃ C', FR C' A' a' ∧ WR P base C' s'.h.get w'.heap ∧ Ext C C' s.n s'.n ∧ Kept base w w'
/-- A loop from its body's start on. -/
def loopWp (F : Fence) (n : Nat) (P : Program) (c : Code) (Q : Exit → Act → World → Prop) (a : Act) (w : World) : Prop :=
  ∀ (b : Frame) (k : List Item) (cs : List Frame), b.roundOf = F.round → F.fn b.fn → F.room (cs.length + 1 + n) →
    ∃ e a' w', Q e a' w' ∧ ArrivesIn (Machine.fenced P F) P (lone (b.atR a (.code c :: .inLoop c :: k)) cs w) b k cs e a' w'
theorem loopWp.wp {F : Fence} {n : Nat} {P : Program} {c : Code} {Q : Exit → Act → World → Prop} {a : Act} {w : World} (h : loopWp F n P c Q a w) : (Code.loop c).wpIn F n P Q a w := by
  intro b k cs hro hb hr
  obtain ⟨e, a', w', hq, harr⟩ := h b k cs hro hb hr
  exact ⟨e, a', w', hq, .of_steps (.one (fenced_calm hb hr rfl) stepR_loop) harr⟩
theorem loopWp.of {F : Fence} {n : Nat} {P : Program} {c : Code} {Q : Exit → Act → World → Prop} {a : Act} {w : World} (h : c.wpIn F n P (Exit.then (loopWp F n P c Q) Q) a w) : loopWp F n P c Q a w := by
  intro b k cs hro hb hr
  obtain ⟨e, a₁, w₁, hq, harr⟩ := h b (.inLoop c :: k) cs hro hb hr
  cases e with
  | normal =>
    obtain ⟨e₂, a₂, w₂, hq₂, harr₂⟩ := hq b k cs hro hb hr
    exact ⟨e₂, a₂, w₂, hq₂, .of_steps (StepsIn.trans harr (.one (fenced_calm hb hr rfl) stepR_inLoop)) harr₂⟩
  | exit id => exact ⟨_, a₁, w₁, hq, .pass (x := .inLoop c) rfl (fun _ _ => .inl (by simp)) harr⟩
  | goto l => exact ⟨_, a₁, w₁, hq, .pass (x := .inLoop c) rfl (fun _ _ => .inl (by simp)) harr⟩
  | ret => exact ⟨_, a₁, w₁, hq, .pass (x := .inLoop c) rfl (fun _ _ => .inl (by simp)) harr⟩
  | panic ch => exact ⟨_, a₁, w₁, hq, .pass (x := .inLoop c) rfl (fun _ _ => .inl (by simp)) harr⟩
  | outgrown => exact ⟨_, a₁, w₁, hq, .pass (x := .inLoop c) rfl (fun _ _ => .inl (by simp)) harr⟩

/-- What is known of the machine's functions. -/
structure FnsOK (P : Program) (base : Nat) (F : Fns) : Prop where
  call : ∀ {C : CMap} {s s' : St} {w : World} {f : FuncId} {args : List AV} {cargs : Array Value} {r : AV}, (F.call f args).run s = some (r, s') → WR P base C s.h.get w.heap → P.globals.size ≤ s.n → Fresh C s.n s'.n →
    VRs C args cargs.toList → UponR P (PostV P base C s s' w r) ((callFunc f cargs).run P w)
  code : ∀ {C : CMap} {s s' : St} {w : World} {rd ro : Option Nat} {c : Code} {A A' : AAct} {a : Act} {e : AExit}, (F.code rd c A).run s = some ((e, A'), s') → WR P base C s.h.get w.heap → P.globals.size ≤ s.n → Fresh C s.n s'.n →
    FR C A a → RoR C rd ro → c.wpIn (fenceOf ro) 0 P (CodePost P base C s s' w e A') a w
  loop : ∀ {C : CMap} {s s' : St} {w : World} {rd ro : Option Nat} {c : Code} {A A' : AAct} {a : Act} {e : AExit}, (F.code rd (.loop c) A).run s = some ((e, A'), s') → WR P base C s.h.get w.heap → P.globals.size ≤ s.n → Fresh C s.n s'.n →
    FR C A a → RoR C rd ro → loopWp (fenceOf ro) 0 P c (CodePost P base C s s' w e A') a w

section
variable {P : Program} {base : Nat} {C : CMap} {s s' : St} {w : World}

theorem PostV.first {s1 : St} {r : AV} (hs : Same s s1) {v : Value} {w' : World} (h : PostV P base C s1 s' w r v w') : PostV P base C s s' w r v w' := by
  obtain ⟨C', h1, h2, h3, h4⟩ := h
  exact ⟨C', h1, h2, by rw [← hs.2]; exact h3, h4⟩
theorem UponR.mono {R R' : Value → World → Prop} (hR : ∀ v w, R v w → R' v w) : ∀ {x : Result Next}, UponR P R x → UponR P R' x := by
  intro x h
  have he : ∀ e w, Ends R e w → Ends R' e w := fun e w h => by cases e <;> simp only [Ends] at h ⊢; exact hR _ _ h
  cases x with
  | halt => exact h
  | ok nx w =>
    cases nx <;> simp only [UponR] at h ⊢
    · exact hR _ _ h
    · exact h.mono he
    · exact h.mono he
theorem UponR.first {s1 : St} {r : AV} (hs : Same s s1) {x : Result Next} (h : UponR P (PostV P base C s1 s' w r) x) : UponR P (PostV P base C s s' w r) x := UponR.mono (fun _ _ h => PostV.first hs h) h
theorem s_wrapnil {ts : Array TypeId} {t : TypeId} {x : Addr} {a b : String} : (Builtin.ssaWrapNilChk_ ts t #[.pointer (some x), strVal a, strVal b]).run P w = .ok (.pointer (some x)) w := rfl
theorem methodA_ok {t : TypeId} {v rv : AV} {vv : Value} {name : String} {f : FuncId} {fuel : Nat} (hw : WR P base C s.h.get w.heap) (hv : VR C v vv) (h : (methodA P t v name).run s = some ((f, rv), s')) :
    ∃ rv', (method (fuel + 1) t vv name).run P w = .ok (f, rv') w ∧ VR C rv rv' ∧ Same s s' := by
  unfold methodA at h
  simp only [run_opt, run_chk] at h
  obtain ⟨i, hi, m, hm, hp, fp, hfp, h⟩ := h
  have hpath : m.path.toList = [] := by
    have := Array.isEmpty_iff.1 hp
    rw [this]
  split at h
  · rename_i el g hu
    simp only [M.run_pure'] at h
    obtain ⟨h1, rfl⟩ := h
    cases h1
    refine ⟨vv, ?_, hv, Same.refl _⟩
    simp [method, s_typeInfo hi, hm, hpath, follow, hfp, receiverAt, s_underlying hu, Place.get]
  · rename_i el g hu
    split at h
    · rename_i id off
      simp only [M.run_bind', M.run_pure'] at h
      obtain ⟨x, s1, hl, h1, rfl⟩ := h
      cases h1
      obtain ⟨j, y, hj, e1, e2, e3⟩ := loadA_ok hw hl
      obtain ⟨k, hk, rfl⟩ := hv.ptr_inv
      rw [hj] at hk; injection hk with hk; subst hk
      refine ⟨y, ?_, e2, e3⟩
      simp [method, s_typeInfo hi, hm, hpath, follow, hfp, receiverAt, s_underlying hu, Place.get, s_wrapnil, asAddr, e1, Array.isEmpty_iff.1 hp]
    · simp at h
  · rename_i d g hnp hu
    simp only [M.run_pure'] at h
    obtain ⟨h1, rfl⟩ := h
    cases h1
    refine ⟨vv, ?_, hv, Same.refl _⟩
    simp only [method, Sem.run_bind, s_typeInfo hi, Result.andThen_ok, hm, hpath, follow, Sem.run_pure, hfp, receiverAt, s_underlying hu, Place.get]
  · simp at h

/-- No function is the one that counts goroutines. -/
def NoCount (P : Program) : Prop := ∀ (g : Nat) (fn : Func), P.funcs[g]? = some fn → fn.name ≠ "runtime.NumGoroutine"
/-- A function with a body is entered. -/
theorem hasBody_ok {g : FuncId} {args : Array Value} (hN : NoCount P) (h : hasBody P g = true) : (callFunc g args).run P w = .ok (.enter g args) w := by
  unfold hasBody at h
  split at h
  · rename_i fn hf
    split at h
    · rename_i c hc
      simp [callFunc, hf, hN g fn hf, hc]
    · cases h
  · cases h
theorem putAll_ok {size : Nat} : ∀ {ps : List Tmp} {vs : List AV} {t t' : T AV} {cs : List Value} {tmps : Array Value}, putAll size ps vs t = some t' → tmps.size = size → TR C t tmps → VRs C vs cs →
    TR C t' ((ps.zip cs).foldl (fun tmps (p : Tmp × Value) => tmps.setIfInBounds p.1 p.2) tmps) ∧ ((ps.zip cs).foldl (fun tmps (p : Tmp × Value) => tmps.setIfInBounds p.1 p.2) tmps).size = size ∧ vs.length = ps.length := by
  intro ps
  induction ps with
  | nil =>
    intro vs t t' cs tmps h hs ht hv
    cases vs with
    | nil => simp only [putAll, Option.some.injEq] at h; subst h; exact ⟨ht, hs, rfl⟩
    | cons v vs => simp [putAll] at h
  | cons p ps ih =>
    intro vs t t' cs tmps h hs ht hv
    cases vs with
    | nil => simp [putAll] at h
    | cons v vs =>
      simp only [VRs] at hv
      obtain ⟨x, xs, rfl, h1, h2⟩ := hv
      simp only [putAll] at h
      cases hb : Nat.blt p size with
      | false => rw [hb] at h; cases h
      | true =>
        rw [hb] at h
        simp only [cond_true] at h
        have hlt : p < size := Nat.le_of_ble_eq_true hb
        obtain ⟨e1, e2, e3⟩ := ih (tmps := tmps.setIfInBounds p x) h (by simpa using hs) (fun k => by
          rw [T.get_set]
          by_cases hk : k = p
          · subst hk
            rw [if_pos rfl, Array.getD_eq_getD_getElem?, Array.getElem?_setIfInBounds, if_pos rfl, if_pos (show k < tmps.size by rw [hs]; exact hlt)]
            exact h1
          · rw [if_neg hk, Array.getD_eq_getD_getElem?, Array.getElem?_setIfInBounds, if_neg (fun e => hk e.symm), ← Array.getD_eq_getD_getElem?]
            exact ht k) h2
        exact ⟨e1, e2, by simp [e3]⟩
end
end Go.Mach
end
section
/-! The machine's rounds of a range over a function are the model's. -/
set_option linter.unusedSimpArgs false
set_option linter.unusedVariables false
namespace Go.Mach
open Go
section
variable {P : Program} {base : Nat} {C : CMap} {s s' : St} {w : World}

theorem WR.loopOf (hw : WR P base C s.h.get w.heap) {id : Nat} {st : LoopState} {pe : Option Code} {size : Nat} {tmps : T AV} {params : Array Tmp} {assign body : Code} {defers : Nat} (h : s.h.get id = some (.loop st pe size tmps params assign body defers)) :
    ∃ i r, C id = some i ∧ w.heap[i.blk]? = some (.loop r) ∧ r.state = st ∧ r.pending = pe ∧ r.tmps.size = size ∧ TR C tmps r.tmps ∧ r.params = params ∧ r.assign = assign ∧ r.body = body ∧ (∃ j, C defers = some j ∧ r.defers = j.blk) ∧ base ≤ i.blk := by
  obtain ⟨i, hi, r, h1⟩ := hw.obj id _ h
  have hG : P.globals.size ≤ id := by
    rcases Nat.lt_or_ge id P.globals.size with hlt | hge
    · have := hw.low id _ h hlt; simp [AObj.still] at this
    · exact hge
  obtain ⟨h1, h2, h3, h4, h5, h6, h7, h8, h9⟩ := h1
  exact ⟨i, r, hi, h1, h2, h3, h4, h5, h6, h7, h8, h9, hw.high id i hG hi⟩
/-- The record of a loop is turned. -/
theorem WR.setLoop (hw : WR P base C s.h.get w.heap) {id : Nat} {st st' : LoopState} {pe pe' : Option Code} {size : Nat} {tmps : T AV} {params : Array Tmp} {assign body : Code} {defers : Nat} (h : s.h.get id = some (.loop st pe size tmps params assign body defers))
    {u : Unit} (hp : (put id (some (.loop st' pe' size tmps params assign body defers))).run s = some (u, s')) {i : RI} {r : Loop} (hi : C id = some i) (hb : w.heap[i.blk]? = some (.loop r)) {r' : Loop} (hr' : r' = { r with state := st', pending := pe' }) :
    WR P base C s'.h.get (World.setBlk w i.blk (.loop r')).heap ∧ s'.n = s.n ∧ Kept base w (World.setBlk w i.blk (.loop r')) := by
  subst hr'
  obtain ⟨j, q, hj, h1, h2, h3, h4, h5, h6, h7, h8, h9, h10⟩ := hw.loopOf h
  rw [hi] at hj; injection hj with hj; subst hj
  rw [hb] at h1; injection h1 with h1; injection h1 with h1; subst h1
  rw [run_put] at hp
  obtain ⟨_, rfl⟩ := hp
  refine ⟨?_, rfl, setBlk_kept h10⟩
  have := WR.update (i := i) (o' := .loop st' pe' size tmps params assign body defers) (H' := (World.setBlk w i.blk (.loop { r with state := st', pending := pe' })).heap) hw h hi rfl (fun b hb' => setBlk_heap_ne hb') (by simp [setBlk_size])
    ⟨_, setBlk_heap_self hb, rfl, rfl, h4, h5, h6, h7, h8, h9⟩
  refine this.congr fun q => ?_
  simp only [T.get_set]
theorem s_getLoop {l : Nat} {r : Loop} (h : w.heap[l]? = some (.loop r)) : (Instr.getLoop l).run P w = .ok r w := by
  simp [Instr.getLoop, run_getObj' h (by simp)]
theorem roundEnd_ok {l : Nat} {jump : Option Code} {r : AV} {i : RI} (hw : WR P base C s.h.get w.heap) (hi : C l = some i) (h : (roundEnd l jump).run s = some (r, s')) :
    ∃ v w', (Instr.endRound i.blk jump).run P w = .ok v w' ∧ VR C r v ∧ WR P base C s'.h.get w'.heap ∧ s'.n = s.n ∧ Kept base w w' := by
  obtain ⟨st, pe, size, tmps, params, assign, body, defers, s1, hid, hsame, h⟩ := run_rdLoop h
  split at h
  · simp only [M.run_bind', M.run_pure'] at h
    obtain ⟨u, s2, hp, rfl, rfl⟩ := h
    obtain ⟨j, q, hj, h1, h2, _⟩ := hw.loopOf hid
    rw [hi] at hj; injection hj with hj; subst hj
    have hid1 : s1.h.get l = some (.loop .busy pe size tmps params assign body defers) := by rw [hsame.1]; exact hid
    obtain ⟨a1, a2, a3⟩ := WR.setLoop (hw.same hsame) hid1 hp hi h1 (r' := { q with state := (if jump.isNone then .ready else .done), pending := jump }) (by cases jump <;> rfl)
    refine ⟨.bool jump.isNone, _, ?_, ?_, a1, by rw [a2, hsame.2], a3⟩
    · simp only [Instr.endRound, Sem.run_bind, s_getLoop h1, Result.andThen_ok, run_setObj' h1 (by simp), Sem.run_pure]
    · cases jump <;> exact VR.mk_bool _
  · simp at h
theorem s_beginRound {l : Nat} {r : Loop} (h : w.heap[l]? = some (.loop r)) (hr : r.state = .ready) : (Instr.beginRound l).run P w = .ok () (World.setBlk w l (.loop { r with state := .busy })) := by
  simp [Instr.beginRound, s_getLoop h, run_setObj' h (by simp), hr]
theorem yieldA_ok {F : Fns} (hF : FnsOK P base F) {l : Nat} {args : List AV} {cargs : Array Value} {r : AV} {i : RI} (hw : WR P base C s.h.get w.heap) (hG : P.globals.size ≤ s.n) (hf : Fresh C s.n s'.n) (hi : C l = some i) (ha : VRs C args cargs.toList)
    (h : (yieldA F l args).run s = some (r, s')) : UponR P (PostV P base C s s' w r) ((Instr.yield i.blk cargs).run P w) := by
  obtain ⟨st, pe, size, tmps, params, assign, body, defers, s1, hid, hsame, h⟩ := run_rdLoop h
  split at h
  · simp only [run_opt, M.run_bind'] at h
    obtain ⟨t, ht, ⟨e, A⟩, s2, h2, h⟩ := h
    split at h
    · rename_i A2 heq
      cases heq
      obtain ⟨st', pe', size', tmps', params', assign', body', defers', s3, hid3, hsame3, h⟩ := run_rdLoop h
      split at h
      · simp only [M.run_bind'] at h
        obtain ⟨u, s4, hput, ⟨e5, A5⟩, s5, h5, h6⟩ := h
        obtain ⟨j, q, hj, b1, b2, b3, b4, b5, b6, b7, b8, b9, b10⟩ := hw.loopOf hid
        rw [hi] at hj; injection hj with hj; subst hj
        obtain ⟨p1, p2, p3⟩ := putAll_ok ht b4 b5 ha
        have hn1 : s1.n = s.n := hsame.2
        have hn3 : s3.n = s2.n := hsame3.2
        have hn4 : s4.n = s3.n := by rw [run_put] at hput; obtain ⟨_, rfl⟩ := hput; rfl
        have l2 := M.le _ h2
        have l5 := M.le _ h5
        have l6 : s5.n ≤ s'.n := by
          revert h6; cases e5 <;> intro h6 <;> exact M.le _ h6
        have hargs : cargs.size = q.params.size := by
          have := ha.length
          rw [b6]
          simpa [p3] using this
        have hy : (Instr.yield i.blk cargs).run P w = .ok (.round i.blk q.fn ((q.params.zip cargs).foldl (fun tmps (p : Tmp × Value) => tmps.setIfInBounds p.1 p.2) q.tmps) q.assign q.body) w := by
          simp [Instr.yield, s_getLoop b1, hargs]
        rw [hy]
        simp only [UponR]
        refine roundIn_of_wpIn (F := Fence.wide) trivial ?_
        have hfr : FR C ⟨size, t, []⟩ { tmps := (q.params.zip cargs).foldl (fun tmps (p : Tmp × Value) => tmps.setIfInBounds p.1 p.2) q.tmps, defers := [] } := by
          have e : (q.params.zip cargs).foldl (fun tmps (p : Tmp × Value) => tmps.setIfInBounds p.1 p.2) q.tmps = (params.toList.zip cargs.toList).foldl (fun tmps (p : Tmp × Value) => tmps.setIfInBounds p.1 p.2) q.tmps := by
            rw [← Array.foldl_toList, b6, Array.toList_zip]
          refine ⟨?_, ?_, rfl⟩
          · simp only [e]; exact p2
          · simp only [e]; exact p1
        have hc := hF.code h2 (hw.same hsame) (by rw [hn1]; exact hG) (by rw [hn1]; exact hf.left (by omega)) hfr (rd := some l) (ro := some i.blk) ⟨i, hi, rfl⟩
        rw [b7]
        refine wpIn_mono hc ?_
        rintro e' a1 w1 ⟨hx, C1, c1, c2, c3, c4⟩
        cases e' <;> simp only [exitR] at hx
        simp only [Exit.then]
        have c3' : Ext C C1 s.n s2.n := by rw [← hn1]; exact c3
        have hle1 : C.le C1 := c3'.le (hf.left (by omega))
        have hi1 := hle1 _ _ hi
        obtain ⟨j', q', hj', d1, d2, d3, _⟩ := c2.loopOf (s := s2) hid3
        rw [hi1] at hj'; injection hj' with hj'; subst hj'
        have hid3' : s3.h.get l = some (.loop .ready pe' size' tmps' params' assign' body' defers') := by rw [hsame3.1]; exact hid3
        obtain ⟨f1, f2, f3⟩ := WR.setLoop (c2.same hsame3) hid3' hput hi1 d1 (r' := { q' with state := .busy }) (by rw [← d3])
        refine ⟨_, s_beginRound d1 d2, ?_⟩
        have hF4 : Fresh C1 s4.n s5.n := by
          rw [hn4, hn3]
          exact (hf.left (by omega)).right c3' (by omega)
        have hc5 := hF.code h5 f1 (by omega) hF4 c1 (rd := some l) (ro := some i.blk) ⟨i, hi1, rfl⟩
        rw [b8]
        refine wpIn_mono hc5 ?_
        rintro e'' a2 w2 ⟨hx2, C2, g1, g2, g3, g4⟩
        have hi2 : C2 l = some i := (g3.le hF4) _ _ hi1
        have hext : Ext C C2 s.n s5.n := c3'.trans (by rw [hn4, hn3] at g3; exact g3) (by omega) (by omega)
        have hk : Kept base w w2 := (c4.trans f3).trans g4
        cases e5 <;> cases e'' <;> simp only [exitR] at hx2 <;> simp only at h6
        · obtain ⟨v, w', k1, k2, k3, k4, k5⟩ := roundEnd_ok g2 hi2 h6
          exact ⟨v, w', k1, C2, k2, k3, by rw [k4]; exact hext, hk.trans k5⟩
        · subst hx2
          obtain ⟨v, w', k1, k2, k3, k4, k5⟩ := roundEnd_ok g2 hi2 h6
          exact ⟨v, w', k1, C2, k2, k3, by rw [k4]; exact hext, hk.trans k5⟩
        · obtain ⟨v, w', k1, k2, k3, k4, k5⟩ := roundEnd_ok g2 hi2 h6
          exact ⟨v, w', k1, C2, k2, k3, by rw [k4]; exact hext, hk.trans k5⟩
      · simp at h
    · simp at h
  · simp at h
end
end Go.Mach
end
section
/-! The machine's calls of function values are the model's; one operation in its place. -/
set_option linter.unusedSimpArgs false
set_option linter.unusedVariables false
namespace Go.Mach
open Go
section
variable {P : Program} {base : Nat} {C : CMap} {s s' : St} {w : World}

/-- A call's answer behind computations that turn nothing. -/
theorem UponR.behind {R : Value → World → Prop} {α : Type} {x : Sem α} {f : α → Sem Next} {a : α} (hx : x.run P w = .ok a w) (h : UponR P R ((f a).run P w)) : UponR P R ((x >>= f).run P w) := by
  rw [Sem.run_bind, hx]; exact h
theorem callMethod_ok {F : Fns} (hF : FnsOK P base F) {t : TypeId} {v : AV} {vv : Value} {name : String} {rest : List AV} {crest : Array Value} {r : AV} (hw : WR P base C s.h.get w.heap) (hG : P.globals.size ≤ s.n) (hf : Fresh C s.n s'.n)
    (hv : VR C v vv) (hr : VRs C rest crest.toList) (h : ((methodA P t v name).bind fun fr => F.call fr.1 (fr.2 :: rest)).run s = some (r, s')) :
    UponR P (PostV P base C s s' w r) ((callMethod (.iface t vv) name crest).run P w) := by
  simp only [M.run_bind'] at h
  obtain ⟨⟨f, rv⟩, s1, h1, h2⟩ := h
  obtain ⟨rv', e1, e2, e3⟩ := methodA_ok (fuel := P.types.size + 99) hw hv h1
  have hc := hF.call h2 (hw.same e3) (by rw [e3.2]; exact hG) (by rw [e3.2]; exact hf) (cargs := #[rv'] ++ crest) (by simp only [Array.toList_append]; exact VRs.cons.2 ⟨e2, hr⟩)
  have e : (callMethod (.iface t vv) name crest).run P w = (callFunc f (#[rv'] ++ crest)).run P w := by
    have hd : P.types.size + Made.depth = P.types.size + 99 + 1 := rfl
    simp only [callMethod, Sem.run_bind, run_program, Result.andThen_ok, hd, e1]
  rw [e]
  exact UponR.first e3 hc
theorem applyA_ok {F : Fns} (hF : FnsOK P base F) {fn fn' : Fn} {args cap : List AV} {cargs ccap : Array Value} {r : AV} (hw : WR P base C s.h.get w.heap) (hG : P.globals.size ≤ s.n) (hf : Fresh C s.n s'.n)
    (hfn : fnR C fn fn') (ha : VRs C args cargs.toList) (hc : VRs C cap ccap.toList) (h : (applyA P F fn args cap).run s = some (r, s')) :
    UponR P (PostV P base C s s' w r) ((invoke (.fn fn' ccap) cargs).run P w) := by
  unfold applyA at h
  split at h
  · simp only [fnR] at hfn
    subst hfn
    exact hF.call h hw hG hf (by rw [Array.toList_append]; exact ha.append hc)
  · rename_i name t v rest
    simp only [fnR] at hfn
    subst hfn
    obtain ⟨l⟩ := cargs
    simp only [VRs] at ha
    obtain ⟨x, xs, rfl, h1, h2⟩ := ha
    obtain ⟨vv, rfl, hv⟩ := h1.iface_inv
    have e : ((⟨Value.iface t vv :: xs⟩ : Array Value).extract 1 (⟨Value.iface t vv :: xs⟩ : Array Value).size) = ⟨xs⟩ := by
      apply Array.ext'; simp [List.extract_eq_drop_take']
    have := callMethod_ok hF (crest := ⟨xs⟩) hw hG hf hv h2 h
    simp only [invoke, e]
    exact this
  · rename_i t name x rest
    simp only [fnR] at hfn
    subst hfn
    obtain ⟨l⟩ := cargs
    simp only [VRs] at ha
    obtain ⟨y, ys, rfl, h1, h2⟩ := ha
    have e : ((⟨y :: ys⟩ : Array Value).extract 1 (⟨y :: ys⟩ : Array Value).size) = ⟨ys⟩ := by
      apply Array.ext'; simp [List.extract_eq_drop_take']
    split at h
    · rename_i ms ti v hu
      obtain ⟨vv, rfl, hv⟩ := h1.iface_inv
      have := callMethod_ok hF (crest := ⟨ys⟩) hw hG hf hv h2 h
      simp only [invoke, e]
      refine UponR.behind (s_underlying hu) ?_
      exact this
    · simp at h
    · rename_i d hni hu _
      have := callMethod_ok hF (crest := ⟨ys⟩) hw hG hf h1 h2 h
      simp only [invoke, e]
      refine UponR.behind (s_underlying hu) ?_
      cases d <;> first | exact absurd rfl (hni _) | exact this
    · simp at h
  · rename_i l
    simp only [fnR] at hfn
    obtain ⟨i, hi, rfl⟩ := hfn
    exact yieldA_ok hF hw hG hf hi ha h
  · simp at h
theorem NR_upon {r : AV} {x : Result Next} (h : Res P base C s s' w (NR r) x) : (∃ v w', x = .ok (.value v) w' ∧ PostV P base C s s' w r v w') ∨ (∃ w', x = .ok .skip w' ∧ PostV P base C s s' w r undef w') := by
  obtain ⟨C', b, w', rfl, h1, h2, h3, h4⟩ := h
  cases b <;> simp only [NR] at h1
  · exact .inl ⟨_, _, rfl, C', h1, h2, h3, h4⟩
  · exact .inr ⟨_, rfl, C', h1, h2, h3, h4⟩
theorem callA_ok {F : Fns} (hF : FnsOK P base F) {c : Call} {A : AAct} {a : Act} {r : AV} {ty : TypeId} (hw : WR P base C s.h.get w.heap) (hG : P.globals.size ≤ s.n) (hf : Fresh C s.n s'.n) (hT : TR C A.tmps a.tmps)
    (h : (callA P F c A).run s = some (r, s')) : UponR P (PostV P base C s s' w r) ((do let d ← resolve a.eval c ty; invoke d.target d.args : Sem Next).run P w) ∨
      ∃ w', (do let d ← resolve a.eval c ty; invoke d.target d.args : Sem Next).run P w = .ok .skip w' ∧ PostV P base C s s' w r undef w' := by
  have hg : Glob P C := hw.glob
  have hargs := evalAll_arr (a := a) hg hT c.args
  unfold callA at h
  split at h
  · rename_i b hcal
    have hr := builtinA_ok (ty := ty) (consts := c.args.map fun | .const _ => true | _ => false) (vargs := c.args.map a.eval) hw hG hf hargs h
    have e : (do let d ← resolve a.eval c ty; invoke d.target d.args : Sem Next).run P w = (builtin b c.argTypes ty (c.args.map fun | .const _ => true | _ => false) (c.args.map a.eval)).run P w := by
      simp only [resolve, hcal, Sem.run_bind, Sem.run_pure, Result.andThen_ok, invoke]
      rfl
    rw [e]
    rcases NR_upon hr with ⟨v, w', e1, hp⟩ | ⟨w', e1, hp⟩
    · left; rw [e1]; exact hp
    · right; exact ⟨w', e1, hp⟩
  · rename_i recv name hcal
    left
    have hrecv := evalA_ok (a := a) hg hT recv
    have := applyA_ok hF (fn' := .method name) (cargs := #[a.eval recv] ++ c.args.map a.eval) (ccap := #[]) hw hG hf (by simp only [fnR]) (by rw [Array.toList_append]; exact VRs.cons.2 ⟨hrecv, hargs⟩) VRs.nil h
    have e : (do let d ← resolve a.eval c ty; invoke d.target d.args : Sem Next).run P w = (invoke (.fn (.method name) #[]) (#[a.eval recv] ++ c.args.map a.eval)).run P w := by
      simp only [resolve, hcal, Sem.run_bind, Sem.run_pure, Result.andThen_ok]
    rw [e]; exact this
  · rename_i f hcal
    have hfv := evalA_ok (a := a) hg hT f
    split at h
    · rename_i fn first cap hev
      rw [hev] at hfv
      obtain ⟨g, fa, ca, hv, h1, h2, h3⟩ := hfv.func_inv
      left
      have := applyA_ok hF (cargs := fa ++ c.args.map a.eval) hw hG hf h1 (by rw [Array.toList_append]; exact h2.append hargs) h3 h
      have e : (do let d ← resolve a.eval c ty; invoke d.target d.args : Sem Next).run P w = (invoke (.fn g ca) (fa ++ c.args.map a.eval)).run P w := by
        simp only [resolve, hcal, hv, Deferred.ofValue, Sem.run_bind, Sem.run_pure, Result.andThen_ok]
      rw [e]; exact this
    · simp at h
end
end Go.Mach
end
section
/-! One operation in its place. -/
set_option linter.unusedSimpArgs false
set_option linter.unusedVariables false
namespace Go.Mach
open Go
section
variable {P : Program} {base : Nat} {C : CMap} {s s' : St} {w : World}

theorem putA_ok {A A' : AAct} {a : Act} {dst : Option Tmp} {v : AV} {vv : Value} (hfr : FR C A a) (hv : VR C v vv) (h : (putA A dst v).run s = some (A', s')) : s' = s ∧ FR C A' (a.put dst vv) := by
  unfold putA at h
  split at h
  · rw [M.run_pure'] at h
    obtain ⟨rfl, rfl⟩ := h
    exact ⟨rfl, hfr⟩
  · rename_i d size tmps ds
    simp only [run_chk, M.run_pure'] at h
    obtain ⟨hb, rfl, rfl⟩ := h
    have hlt : d < size := Nat.le_of_ble_eq_true hb
    refine ⟨rfl, ?_, fun k => ?_, hfr.defers⟩
    · simp only [Act.put, Array.size_setIfInBounds]; exact hfr.size
    · have hsz : a.tmps.size = size := hfr.size
      simp only [Act.put, T.get_set]
      by_cases hk : k = d
      · subst hk
        rw [if_pos rfl, Array.getD_eq_getD_getElem?, Array.getElem?_setIfInBounds, if_pos rfl, if_pos (show k < a.tmps.size by rw [hsz]; exact hlt)]
        exact hv
      · rw [if_neg hk, Array.getD_eq_getD_getElem?, Array.getElem?_setIfInBounds, if_neg (fun e => hk e.symm), ← Array.getD_eq_getD_getElem?]
        exact hfr.tmps k
theorem isBool_of {a : AV} {v : Value} (h : VR C a v) (hu : a ≠ .unk) (hb : ∀ b, a ≠ .bool b) : ∀ b, v ≠ .bool b := by
  rintro b rfl
  cases a <;> simp [VR] at h
  · subst h; exact hb _ rfl
  · exact hu rfl
theorem isTrueAt_ok {A : AAct} {a : Act} {d : Tmp} {want b : Bool} (hfr : FR C A a) (h : isTrueAt A d want = some b) :
    ((match a.tmps[d]? with | some (.bool b) => some b | _ => none : Option Bool) == some want) = b := by
  unfold isTrueAt at h
  have hsz := hfr.size
  cases hb : Nat.blt d A.size with
  | false =>
    rw [hb] at h
    injection h with h; subst h
    have : ¬ d < A.size := fun hlt => by rw [show Nat.blt d A.size = true from Nat.ble_eq_true_of_le hlt] at hb; cases hb
    rw [Array.getElem?_eq_none (by rw [hsz]; exact Nat.le_of_not_lt this)]
    rfl
  | true =>
    rw [hb] at h
    simp only [cond_true] at h
    have hlt : d < A.size := Nat.le_of_ble_eq_true hb
    have hlt' : d < a.tmps.size := by rw [hsz]; exact hlt
    have hv := hfr.tmps d
    rw [Array.getD_eq_getD_getElem?, Array.getElem?_eq_getElem hlt'] at hv
    rw [Array.getElem?_eq_getElem hlt']
    simp only [Option.getD_some] at hv
    split at h
    · rename_i x hx
      rw [hx] at hv
      injection h with h; subst h
      rw [hv.bool_inv]
      simp only [Option.some_beq_some]
    · cases h
    · rename_i hnb hnu
      injection h with h; subst h
      have hne : ∀ b, a.tmps[d] ≠ .bool b := by
        cases hg : A.tmps.get d with
        | none =>
          rw [hg] at hv
          intro b e
          rw [e] at hv
          simp [VR, undefA] at hv
        | some x =>
          rw [hg] at hv
          exact isBool_of (a := x) hv (fun e => hnu (by rw [hg, e])) (fun b e => hnb b (by rw [hg, e]))
      cases hd : a.tmps[d] <;> first | rfl | exact absurd hd (hne _)
theorem wanted_ok {A : AAct} {a : Act} {ops : Array Oper} {o : Oper} {b : Bool} (hfr : FR C A a) (h : wantedA ops.toList o A = some b) : Region.wanted o (yielded ops a.tmps) = b := by
  unfold wantedA at h
  unfold Region.wanted
  split at h
  · rename_i hg
    injection h with h; subst h
    simp [hg]
  · rename_i j want hg
    simp only [hg]
    split at h
    · rename_i p hp
      have hp' : ops[j]? = some p := by simpa using hp
      split at h
      · rename_i d hd
        have := isTrueAt_ok hfr h
        simp only [yielded, hp', Option.bind_some, hd]
        exact this
      · rename_i hd
        injection h with h; subst h
        simp only [yielded, hp', Option.bind_some, hd, Option.bind_none]
        rfl
    · rename_i hp
      have hp' : ops[j]? = none := by simpa using hp
      injection h with h; subst h
      simp only [yielded, hp', Option.bind_none]
      rfl
theorem upon_of {ro : Option Nat} {o : Oper} {a : Act} {K : Act → World → Prop} {Q : Exit → Act → World → Prop} {R : Value → World → Prop} {x : Result Next} (h : UponR P R x) (hK : ∀ v w', R v w' → K (a.put o.dst v) w') :
    o.uponIn (fenceOf ro) 0 P a K Q x := by
  have hd : (fenceOf ro).depth.isSome = true → 1 ≤ 0 := fun h => by simp [fenceOf, Fence.wide] at h
  have he : ∀ e w'', Ends R e w'' → (match e, w'' with | .returned v, w'' => K (a.put o.dst v) w'' | .panicked chain, w'' => Q (.panic chain) a w'' | .outgrown, _ => LetsOut Q : Prop) := by
    intro e w'' h
    cases e <;> simp only [Ends] at h
    exact hK _ _ h
  cases x with
  | halt => exact h.elim
  | ok nx w' =>
    cases nx <;> simp only [UponR] at h
    · exact hK _ _ h
    · refine ⟨hd, CallsIn.mono h fun e w'' hh => ?_⟩
      have := he e w'' hh
      cases e <;> exact this
    · refine ⟨hd, RoundIn.mono h fun e w'' hh => ?_⟩
      have := he e w'' hh
      cases e <;> exact this
theorem stepA_ok {F : Fns} (hF : FnsOK P base F) {ops : Array Oper} {o : Oper} {rd ro : Option Nat} {A A' : AAct} {a : Act} {K : Act → World → Prop} {Q : Exit → Act → World → Prop} (hw : WR P base C s.h.get w.heap) (hG : P.globals.size ≤ s.n) (hf : Fresh C s.n s'.n)
    (hfr : FR C A a) (hro : RoR C rd ro) (h : (stepA P F rd ops.toList o A).run s = some (A', s'))
    (hK : ∀ C' a' w', FR C' A' a' → WR P base C' s'.h.get w'.heap → Ext C C' s.n s'.n → Kept base w w' → K a' w') :
    if Region.wanted o (yielded ops a.tmps) then o.wpIn (fenceOf ro) 0 P a w K Q else (∀ f, o.about P w a.eval = some f → (fenceOf ro).fn f) ∧ K (a.put o.dst undef) w := by
  have hab : ∀ f, o.about P w a.eval = some f → (fenceOf ro).fn f := fun _ _ => trivial
  unfold stepA at h
  simp only [run_opt] at h
  obtain ⟨b, hb, h⟩ := h
  rw [wanted_ok hfr hb]
  cases b with
  | false =>
    simp only [cond_false] at h
    obtain ⟨rfl, hr⟩ := putA_ok hfr VR.mk_undef h
    exact ⟨hab, hK C _ _ hr hw (fun _ _ => rfl) (Kept.refl ..)⟩
  | true =>
    simp only [cond_true] at h
    rw [if_pos rfl]
    refine ⟨hab, ?_⟩
    split at h
    · rename_i c hop
      split at h
      · rename_i size tmps ds
        simp only [RoR] at hro
        subst hro
        simp only [run_opt] at h
        obtain ⟨d, hd, h⟩ := h
        unfold deferA at hd
        split at hd
        · rename_i f hcal
          split at hd
          · rename_i g first cap hev
            injection hd with hd; subst hd
            have hg : Glob P C := hw.glob
            have hT : TR C (⟨size, tmps, ds⟩ : AAct).tmps a.tmps := hfr.tmps
            have hfv := evalA_ok hg hT f
            rw [hev] at hfv
            obtain ⟨g', fa, ca, hv, h1, h2, h3⟩ := hfv.func_inv
            simp only [fnR] at h1
            subst h1
            have hargs := evalAll_arr hg hT c.args
            let dd : Deferred := { target := .fn (.func g) ca, args := fa ++ c.args.map a.eval }
            have hrun : (Oper.semAt (fenceOf none).round a.eval o).run P w = .ok (.defer dd) w := by
              have e1 : Oper.semAt (fenceOf none).round a.eval o = execOp a.eval o := rfl
              rw [e1]
              unfold execOp
              simp only [hop, resolve, hcal, hv, Deferred.ofValue, Sem.run_bind, Sem.run_pure, Result.andThen_ok]
              rfl
            rw [hrun]
            have hfr2 : FR C ⟨size, tmps, { mark := none, fn := .func g, args := first ++ evalAll P ⟨size, tmps, ds⟩ c.args.toList, cap } :: ds⟩ { a with defers := dd :: a.defers } := by
              refine ⟨hfr.size, hfr.tmps, dd, a.defers, rfl, ?_, hfr.defers⟩
              exact ⟨g, ca, rfl, rfl, by simp only [dd, Array.toList_append]; exact h2.append hargs, h3⟩
            obtain ⟨rfl, hr⟩ := putA_ok hfr2 VR.mk_undef h
            exact hK C _ _ hr hw (fun _ _ => rfl) (Kept.refl ..)
          · cases hd
        · cases hd
      · simp at h
    · rename_i hnd
      have hsem : Oper.semAt (fenceOf ro).round a.eval o = execOp a.eval o := Oper.semAt_eq _ _ _ hnd
      rw [hsem]
      simp only [M.run_bind'] at h
      obtain ⟨v, s1, h1, h2⟩ := h
      have hs1 : s'.n = s1.n := by
        unfold putA at h2
        split at h2
        · rw [M.run_pure'] at h2; obtain ⟨_, rfl⟩ := h2; rfl
        · simp only [run_chk, M.run_pure'] at h2; obtain ⟨_, _, rfl⟩ := h2; rfl
      have hK' : ∀ vv w', PostV P base C s s1 w v vv w' → K (a.put o.dst vv) w' := by
        rintro vv w' ⟨C', k1, k2, k3, k4⟩
        have hle : C.le C' := k3.le (by rw [← hs1]; exact hf)
        obtain ⟨rfl, hr⟩ := putA_ok (hfr.mono hle) k1 h2
        exact hK C' _ _ hr k2 k3 k4
      cases hc : isCall o.op with
      | false =>
        have := opA_ok hc hw hG (by rw [← hs1]; exact hf) hfr.tmps h1
        rcases NR_upon this with ⟨vv, w', e, hp⟩ | ⟨w', e, hp⟩
        · rw [e]; exact hK' _ _ hp
        · rw [e]; exact hK' _ _ hp
      | true =>
        cases hop : o.op <;> rw [hop] at hc <;> simp only [isCall, Bool.false_eq_true] at hc
        rename_i c
        rw [hop] at h1
        simp only [opA] at h1
        have hex : (execOp a.eval o).run P w = (do let d ← resolve a.eval c o.type; invoke d.target d.args : Sem Next).run P w := by
          unfold execOp; rw [hop]
        rw [hex]
        rcases callA_ok (ty := o.type) hF hw hG (by rw [← hs1]; exact hf) hfr.tmps h1 with hu | ⟨w', e, hp⟩
        · exact upon_of hu hK'
        · rw [e]; exact hK' _ _ hp
end
end Go.Mach
end
section
/-! A region that is evaluated in its text's order. -/
set_option linter.unusedSimpArgs false
set_option linter.unusedVariables false
namespace Go.Mach
open Go
section
variable {P : Program} {base : Nat}

theorem textA_ok {F : Fns} (hF : FnsOK P base F) {ops : Array Oper} {rd ro : Option Nat} {Q : Exit → Act → World → Prop} : ∀ (l : List Oper) (i : Nat) {C : CMap} {s s' : St} {w : World} {A A' : AAct} {a : Act}, ops.toList.drop i = l → WR P base C s.h.get w.heap → P.globals.size ≤ s.n → Fresh C s.n s'.n →
    FR C A a → RoR C rd ro → (textA P F rd ops.toList l A).run s = some (A', s') →
    (∀ C' a' w', FR C' A' a' → WR P base C' s'.h.get w'.heap → Ext C C' s.n s'.n → Kept base w w' → Q .normal a' w') → wpOpsIn (fenceOf ro) 0 P ops Q (List.range' i l.length) a w := by
  intro l
  induction l with
  | nil =>
    intro i C s s' w A A' a hl hw hG hf hfr hro h hQ
    simp only [textA, M.run_pure'] at h
    obtain ⟨rfl, rfl⟩ := h
    exact hQ C a w hfr hw (fun _ _ => rfl) (Kept.refl ..)
  | cons o l ih =>
    intro i C s s' w A A' a hl hw hG hf hfr hro h hQ
    simp only [textA, M.run_bind'] at h
    obtain ⟨A1, s1, h1, h2⟩ := h
    have l1 := M.le _ h1
    have l2 := M.le _ h2
    have ho : ops[i]? = some o := by
      have : (ops.toList.drop i)[0]? = some o := by rw [hl]; rfl
      simpa using this
    have hl' : ops.toList.drop (i + 1) = l := by
      rw [← List.tail_drop, hl]; rfl
    have key := stepA_ok hF (Q := Q) (K := wpOpsIn (fenceOf ro) 0 P ops Q (List.range' (i + 1) l.length)) hw hG (hf.left l2) hfr hro h1 (fun C' a' w' k1 k2 k3 k4 => by
      have hf1 := hf.left l2
      refine ih (i + 1) hl' k2 (by omega) (hf.right k3 l1) k1 (hro.mono (k3.le hf1)) h2 (fun C2 a2 w2 g1 g2 g3 g4 => ?_)
      exact hQ C2 a2 w2 g1 g2 (k3.trans g3 l1 l2) (k4.trans g4))
    simp only [List.length_cons, List.range'_succ, wpOpsIn, ho]
    exact key
end
end Go.Mach
end
section
/-! Operations in whatever order: the last writer of a name. -/
set_option linter.unusedSimpArgs false
set_option linter.unusedVariables false
namespace Go.Mach
open Go

/-- The writes of the operations of D, those of later numbers over those of earlier ones. -/
def over {α : Type} (H : Nat → Nat → α) (w : Nat → Nat) (D : Nat → Bool) : Nat → Nat → α
  | 0, x => H 0 x
  | k + 1, x => if D k = true ∧ (w k).testBit x = true then H (k + 1) x else over H w D k x
theorem over_congr {α : Type} {H : Nat → Nat → α} {w : Nat → Nat} {D D' : Nat → Bool} {x : Nat} : ∀ {k : Nat}, (∀ i, i < k → (w i).testBit x = true → D i = D' i) → over H w D k x = over H w D' k x
  | 0, _ => rfl
  | k + 1, h => by
    have ih := over_congr (H := H) (k := k) (fun i hi => h i (by omega))
    simp only [over]
    by_cases hw : (w k).testBit x = true
    · rw [h k (by omega) hw, ih]
    · rw [if_neg (fun h => hw h.2), if_neg (fun h => hw h.2), ih]
theorem over_all {α : Type} {H : Nat → Nat → α} {w : Nat → Nat} {x : Nat} {n : Nat} (hH : ∀ i, i < n → (w i).testBit x = false → H (i + 1) x = H i x) : ∀ {k : Nat}, k ≤ n → over H w (fun _ => true) k x = H k x
  | 0, _ => rfl
  | k + 1, hk => by
    simp only [over]
    by_cases hw : (w k).testBit x = true
    · rw [if_pos ⟨trivial, hw⟩]
    · rw [if_neg (fun h => hw h.2), over_all hH (by omega), hH k (by omega) (by simpa using hw)]
theorem over_lt {α : Type} {H : Nat → Nat → α} {w : Nat → Nat} {x : Nat} {n j : Nat} (hH : ∀ i, i < n → (w i).testBit x = false → H (i + 1) x = H i x) (hj : j ≤ n) : ∀ {k : Nat}, j ≤ k → over H w (fun m => decide (m < j)) k x = H j x
  | 0, hk => by
    have : j = 0 := by omega
    subst this; rfl
  | k + 1, hk => by
    by_cases hjk : j ≤ k
    · simp only [over]
      rw [if_neg (fun h => by have := h.1; simp at this; omega), over_lt hH hj hjk]
    · have : j = k + 1 := by omega
      subst this
      rw [over_congr (D' := fun _ => true) (fun i hi _ => by simp [hi]), over_all hH hj]
/-- What an operation finds that is apart from all that are done after it or not done before it. -/
theorem over_find {α : Type} {H : Nat → Nat → α} {w : Nat → Nat} {D : Nat → Bool} {x n j : Nat} (hH : ∀ i, i < n → (w i).testBit x = false → H (i + 1) x = H i x) (hj : j < n)
    (h1 : ∀ i, i < j → D i = false → (w i).testBit x = false) (h2 : ∀ i, j ≤ i → i < n → D i = true → (w i).testBit x = false) : over H w D n x = H j x := by
  rw [← over_lt (x := x) hH (Nat.le_of_lt hj) (Nat.le_of_lt hj)]
  refine over_congr fun i hi hw => ?_
  by_cases hij : i < j
  · cases hd : D i with
    | true => simp [hij]
    | false => rw [h1 i hij hd] at hw; cases hw
  · cases hd : D i with
    | false => simp [hij]
    | true => rw [h2 i (by omega) hi hd] at hw; cases hw
/-- One operation more. -/
theorem over_put {α : Type} {H : Nat → Nat → α} {w : Nat → Nat} {D : Nat → Bool} {x j : Nat} : ∀ {n : Nat}, j < n → D j = false → (∀ i, j < i → i < n → D i = true → (w j).testBit x = true → (w i).testBit x = false) →
    over H w (fun m => D m || decide (m = j)) n x = if (w j).testBit x = true then H (j + 1) x else over H w D n x
  | 0, hj, _, _ => by omega
  | n + 1, hj, hd, h => by
    by_cases hjn : j = n
    · subst hjn
      have e : over H w (fun m => D m || decide (m = j)) j x = over H w D j x := over_congr fun i hi _ => by
        have : i ≠ j := by omega
        simp [this]
      simp only [over, e, hd]
      by_cases hw : (w j).testBit x = true
      · simp [hw]
      · simp [hw]
    · have ih := over_put (H := H) (n := n) (by omega) hd (fun i h1 h2 => h i h1 (by omega))
      have hne : ¬ n = j := fun e => hjn e.symm
      simp only [over, ih, hne, decide_false, Bool.or_false]
      by_cases hw : (w j).testBit x = true
      · simp only [hw, if_true]
        by_cases hc : D n = true ∧ (w n).testBit x = true
        · have := h n (by omega) (by omega) hc.1 hw
          rw [this] at hc; exact absurd hc.2 (by simp)
        · rw [if_neg hc]
      · simp only [hw, Bool.false_eq_true, if_false]
end Go.Mach
end
section
/-! An operation looks at its operands' temporaries alone. -/
set_option linter.unusedSimpArgs false
set_option linter.unusedVariables false
namespace Go.Mach
open Go
section
variable {P : Program}

theorem evalA_congr {A B : AAct} {x : Operand} (h : ∀ t, x = .tmp t → A.tmps.get t = B.tmps.get t) : evalA P A x = evalA P B x := by
  cases x with
  | tmp t => simp only [evalA, h t rfl]
  | const v => rfl
  | global g => rfl
  | func f => rfl
theorem evalAll_congr {A B : AAct} : ∀ {l : List Operand}, (∀ x ∈ l, evalA P A x = evalA P B x) → evalAll P A l = evalAll P B l
  | [], _ => rfl
  | x :: l, h => by simp only [evalAll, h x (by simp), evalAll_congr (l := l) fun y hy => h y (by simp [hy])]
theorem evalParts_congr {A B : AAct} : ∀ {l : List (Nat × Operand)}, (∀ x ∈ l.map (·.2), evalA P A x = evalA P B x) → evalParts P A l = evalParts P B l
  | [], _ => rfl
  | (i, x) :: l, h => by simp only [evalParts, h x (by simp), evalParts_congr (l := l) fun y hy => h y (by simp at hy ⊢; exact .inr hy)]
theorem evalOpt_congr {A B : AAct} {x : Option Operand} (h : ∀ y, x = some y → evalA P A y = evalA P B y) : evalOpt P A x = evalOpt P B x := by
  cases x with
  | none => rfl
  | some y => simp only [evalOpt, h y rfl]
theorem opA_congr {F : Fns} {o : Op} {A B : AAct} (h : ∀ x ∈ o.operands.toList, evalA P A x = evalA P B x) : opA P F o A = opA P F o B := by
  cases o <;> simp only [Op.operands, Array.toList_append, List.mem_append, Option.toList_toArray] at h <;> simp only [opA]
  case move x | assign x => rw [h x (by simp)]
  case pick c x y => rw [h c (by simp), h x (by simp), h y (by simp)]
  case box elem x => rw [h x (by simp)]
  case build t parts => rw [evalParts_congr (l := parts.toList) h]
  case buildSlice t len parts => rw [evalParts_congr (l := parts.toList) h]
  case insert t m k v => rw [h m (by simp), h k (by simp), h v (by simp)]
  case load t x => rw [h x (by simp)]
  case store t x y => rw [h x (by simp), h y (by simp)]
  case nilCheck x => rw [h x (by simp)]
  case binOp op t x y yt => rw [h x (by simp), h y (by simp)]
  case unOp op t x => rw [h x (by simp)]
  case convert a b x => rw [h x (by simp)]
  case makeInterface t x => rw [h x (by simp)]
  case makeFunc fn first cap => rw [evalAll_congr (l := first.toList) fun x hx => h x (.inl hx), evalAll_congr (l := cap.toList) fun x hx => h x (.inr hx)]
  case makeMap t r => cases r <;> rfl
  case makeSlice t x y => rw [h x (by simp), h y (by simp)]
  case slice t x lo hi mx =>
    rw [h x (by simp), evalOpt_congr (x := lo) fun y hy => h y (by simp [hy]), evalOpt_congr (x := hi) fun y hy => h y (by simp [hy]), evalOpt_congr (x := mx) fun y hy => h y (by simp [hy])]
  case fieldAddr s x f => rw [h x (by simp)]
  case field s x f => rw [h x (by simp)]
  case indexAddr t x y => rw [h x (by simp), h y (by simp)]
  case index t x y => rw [h x (by simp), h y (by simp)]
  case lookup t x y ok => rw [h x (by simp), h y (by simp)]
  case mapUpdate t m k v => rw [h m (by simp), h k (by simp), h v (by simp)]
  case range t x => rw [h x (by simp)]
  case next x b => rw [h x (by simp)]
  case entry x => rw [h x (by simp)]
  case typeAssert x t u ok => rw [h x (by simp)]
  case extract x i => rw [h x (by simp)]
  case call c =>
    simp only [Call.operands, Array.toList_append, List.mem_append] at h
    have ha : evalAll P A c.args.toList = evalAll P B c.args.toList := evalAll_congr fun x hx => h x (.inr hx)
    unfold callA
    cases hc : c.callee with
    | builtin b => simp only [ha]
    | invoke recv name =>
      rw [hc] at h
      simp only [ha, h recv (by simp)]
    | value f =>
      rw [hc] at h
      simp only [ha, h f (by simp)]
theorem tmpBits_mem : ∀ {l : List Operand} {t : Tmp}, Operand.tmp t ∈ l → (tmpBits l).testBit t = true
  | [], t, h => by cases h
  | x :: l, t, h => by
    cases x with
    | tmp u =>
      show (bit u ||| tmpBits l).testBit t = true
      rw [Nat.testBit_or]
      rcases List.mem_cons.1 h with h | h
      · injection h with h; subst h; simp [testBit_bit]
      · simp [tmpBits_mem h]
    | const v =>
      rcases List.mem_cons.1 h with h | h
      · cases h
      · exact tmpBits_mem (l := l) h
    | global g =>
      rcases List.mem_cons.1 h with h | h
      · cases h
      · exact tmpBits_mem (l := l) h
    | func f =>
      rcases List.mem_cons.1 h with h | h
      · cases h
      · exact tmpBits_mem (l := l) h
end
end Go.Mach
end
section
/-! What a region that draws its order has done in its text's order. -/
set_option linter.unusedSimpArgs false
set_option linter.unusedVariables false
namespace Go.Mach
open Go
section
variable {P : Program}

theorem apartAll_ok {b : Nat} {x : Rec} : ∀ {l : List Rec} {j : Nat}, apartAll b x j l = true → ∀ m y, l[m]? = some y → b.testBit (j + m) = true ∨ apartA x y = true
  | [], j, _, m, y, h => by simp at h
  | z :: l, j, h, m, y, hy => by
    simp only [apartAll, Bool.and_eq_true, Bool.or_eq_true] at h
    cases m with
    | zero => simp only [List.getElem?_cons_zero, Option.some.injEq] at hy; subst hy; exact h.1
    | succ m =>
      have := apartAll_ok h.2 m y (by simpa using hy)
      rwa [show j + 1 + m = j + (m + 1) by omega] at this
/-- The operations that an operation follows: those of its edges, and those that these follow. -/
theorem beforeBits_ok {i : Nat} {bs : List Nat} : ∀ {l : List Edge} {b : Nat}, beforeBits i bs l = some b →
    (∀ e ∈ l, Region.binds .any e = true → e.on < i) ∧ ∀ m, b.testBit m = true ↔ ∃ e ∈ l, Region.binds .any e = true ∧ (m = e.on ∨ ∃ c, bs[e.on]? = some c ∧ c.testBit m = true)
  | [], b, h => by
    simp only [beforeBits, Option.some.injEq] at h
    subst h
    exact ⟨by simp, by simp⟩
  | e :: l, b, h => by
    simp only [beforeBits] at h
    split at h
    · cases h
    · rename_i r hr
      obtain ⟨h1, h2⟩ := beforeBits_ok hr
      cases hb : Region.binds .any e with
      | false =>
        rw [hb] at h
        simp only [cond_false, Option.some.injEq] at h
        subst h
        refine ⟨fun e' he' hb' => ?_, fun m => ?_⟩
        · rcases List.mem_cons.1 he' with rfl | he'
          · rw [hb] at hb'; cases hb'
          · exact h1 e' he' hb'
        · rw [h2 m]
          constructor
          · rintro ⟨e', he', x⟩; exact ⟨e', List.mem_cons_of_mem _ he', x⟩
          · rintro ⟨e', he', hb', x⟩
            rcases List.mem_cons.1 he' with rfl | he'
            · rw [hb] at hb'; cases hb'
            · exact ⟨e', he', hb', x⟩
      | true =>
        rw [hb] at h
        simp only [cond_true] at h
        cases hlt : Nat.blt e.on i with
        | false => rw [hlt] at h; cases h
        | true =>
          rw [hlt] at h
          simp only [cond_true] at h
          split at h
          · rename_i c hc
            injection h with h; subst h
            refine ⟨fun e' he' hb' => ?_, fun m => ?_⟩
            · rcases List.mem_cons.1 he' with rfl | he'
              · exact Nat.le_of_ble_eq_true hlt
              · exact h1 e' he' hb'
            · show ((bit e.on ||| c) ||| r).testBit m = true ↔ _
              rw [Nat.testBit_or, Nat.testBit_or, testBit_bit, Bool.or_eq_true, Bool.or_eq_true, decide_eq_true_eq, h2 m]
              constructor
              · rintro ((hx | hx) | ⟨e', he', x⟩)
                · exact ⟨e, by simp, hb, .inl hx.symm⟩
                · exact ⟨e, by simp, hb, .inr ⟨c, hc, hx⟩⟩
                · exact ⟨e', List.mem_cons_of_mem _ he', x⟩
              · rintro ⟨e', he', hb', x⟩
                rcases List.mem_cons.1 he' with rfl | he'
                · rcases x with x | ⟨c', hc', x⟩
                  · exact .inl (.inl x.symm)
                  · rw [hc] at hc'; injection hc' with hc'; subst hc'
                    exact .inl (.inr x)
                · exact .inr ⟨e', he', hb', x⟩
          · cases h

/-- What is known of the operation with the number j. -/
structure Did (P : Program) (F : Fns) (rd : Option Nat) (ops : List Oper) (A : Nat → AAct) (S : Nat → St) (R : Nat → Rec) (b : Nat → Nat) (j : Nat) (o : Oper) : Prop where
  quiet : isDefer o.op = false
  run : (stepA P F rd ops o (A j)).run ⟨(S j).h, (S j).n, 0, 0⟩ = some (A (j + 1), ⟨(S (j + 1)).h, (S (j + 1)).n, (R j).f, (R j).w⟩)
  tr : (R j).tr = readBits ops o
  tw : (R j).tw = dstBit o.dst
  edges : ∀ e ∈ o.after.toList, Region.binds .any e = true → e.on < j
  follows : ∀ m, (b j).testBit m = true ↔ ∃ e ∈ o.after.toList, Region.binds .any e = true ∧ (m = e.on ∨ (b e.on).testBit m = true)
  apart : ∀ m, m < j → (b j).testBit m = true ∨ apartA (R j) (R m) = true
theorem anyA_trace {F : Fns} {rd : Option Nat} {ops : List Oper} : ∀ (l : List Oper) (i : Nat) (bs : List Nat) (recs : List Rec) (A0 : AAct) (s : St) (A' : AAct) (s' : St), ops.drop i = l → bs.length = i → recs.length = i →
    (anyA P F rd ops l i bs recs A0).run s = some (A', s') →
    ∃ (A : Nat → AAct) (S : Nat → St) (R : Nat → Rec) (b : Nat → Nat), A i = A0 ∧ (S i).h = s.h ∧ (S i).n = s.n ∧ A (i + l.length) = A' ∧ (S (i + l.length)).h = s'.h ∧ (S (i + l.length)).n = s'.n ∧
      (∀ j, j < i → bs[j]? = some (b j)) ∧ (∀ j, j < i → recs[j]? = some (R j)) ∧ ∀ j o, i ≤ j → ops[j]? = some o → Did P F rd ops A S R b j o := by
  intro l
  induction l with
  | nil =>
    intro i bs recs A0 s A' s' hl hb hr h
    simp only [anyA, M.run_pure'] at h
    obtain ⟨rfl, rfl⟩ := h
    refine ⟨fun _ => A0, fun _ => s, fun j => recs[j]?.getD ⟨0, 0, 0, 0⟩, fun j => bs[j]?.getD 0, rfl, rfl, rfl, rfl, rfl, rfl, fun j hj => ?_, fun j hj => ?_, fun j o hij ho => ?_⟩
    · have : j < bs.length := by omega
      simp [this]
    · have : j < recs.length := by omega
      simp [this]
    · have : ops.length ≤ i := List.drop_eq_nil_iff.1 hl
      rw [List.getElem?_eq_none (by omega)] at ho; cases ho
  | cons o l ih =>
    intro i bs recs A0 s A' s' hl hb hr h
    simp only [anyA, run_chk, run_opt, M.run_bind', Bool.not_eq_true'] at h
    obtain ⟨hq, c, hc, ⟨a1, f, w⟩, s1, h1, h2⟩ := h
    simp only [run_chk] at h2
    obtain ⟨hap, h2⟩ := h2
    rw [run_traced] at h1
    obtain ⟨h3, n3, h1, rfl⟩ := h1
    have hl' : ops.drop (i + 1) = l := by rw [← List.tail_drop, hl]; rfl
    have ho : ops[i]? = some o := by
      have : (ops.drop i)[0]? = some o := by rw [hl]; rfl
      simpa using this
    obtain ⟨A, S, R, b, e1, e2, e3, e4, e5, e6, e7, e8, e9⟩ := ih (i + 1) (bs ++ [c]) (recs ++ [⟨f, w, readBits ops o, dstBit o.dst⟩]) a1 _ A' s' hl' (by simp [hb]) (by simp [hr]) h2
    have hbi : b i = c := by
      have := e7 i (by omega)
      rw [List.getElem?_append_right (by omega), hb, Nat.sub_self] at this
      simpa using this.symm
    have hRi : R i = ⟨f, w, readBits ops o, dstBit o.dst⟩ := by
      have := e8 i (by omega)
      rw [List.getElem?_append_right (by omega), hr, Nat.sub_self] at this
      simpa using this.symm
    have hbs : ∀ j, j < i → bs[j]? = some (b j) := fun j hj => by
      have := e7 j (by omega)
      rwa [List.getElem?_append_left (by omega)] at this
    have hrs : ∀ j, j < i → recs[j]? = some (R j) := fun j hj => by
      have := e8 j (by omega)
      rwa [List.getElem?_append_left (by omega)] at this
    have hlen : i + (o :: l).length = i + 1 + l.length := by simp only [List.length_cons]; omega
    refine ⟨fun j => if j = i then A0 else A j, fun j => if j = i then s else S j, R, b, by simp, by simp, by simp, ?_, ?_, ?_, hbs, hrs, fun j o' hij ho' => ?_⟩
    · simp only [hlen]; rw [if_neg (by omega)]; exact e4
    · simp only [hlen]; rw [if_neg (by omega)]; exact e5
    · simp only [hlen]; rw [if_neg (by omega)]; exact e6
    · by_cases hj : j = i
      · subst hj
        rw [ho] at ho'; injection ho' with ho'; subst ho'
        obtain ⟨g1, g2⟩ := beforeBits_ok hc
        refine ⟨hq, ?_, by rw [hRi], by rw [hRi], g1, fun m => ?_, fun m hm => ?_⟩
        · simp only [if_true, show ¬ (j + 1 = j) by omega, if_false, e1, e2, e3, hRi]
          exact h1
        · rw [hbi, g2 m]
          constructor
          · rintro ⟨e, he, hbd, x⟩
            refine ⟨e, he, hbd, x.imp id ?_⟩
            rintro ⟨d, hd, x⟩
            rw [hbs _ (g1 e he hbd)] at hd
            injection hd with hd; subst hd; exact x
          · rintro ⟨e, he, hbd, x⟩
            exact ⟨e, he, hbd, x.imp id fun x => ⟨_, hbs _ (g1 e he hbd), x⟩⟩
        · rw [hbi, hRi]
          have := apartAll_ok hap m (R m) (hrs m hm)
          rwa [Nat.zero_add] at this
      · have hd := e9 j o' (by omega) ho'
        refine ⟨hd.quiet, ?_, hd.tr, hd.tw, hd.edges, hd.follows, hd.apart⟩
        simp only [hj, if_false, show ¬ (j + 1 = i) by omega]
        exact hd.run
end
end Go.Mach
end
section
/-! A region that draws its order. -/
set_option linter.unusedSimpArgs false
set_option linter.unusedVariables false
namespace Go.Mach
open Go
section
variable {P : Program} {base : Nat}

theorem putA_spec {A A' : AAct} {dst : Option Tmp} {v : AV} {s s' : St} (h : (putA A dst v).run s = some (A', s')) :
    s' = s ∧ A'.size = A.size ∧ A'.defers = A.defers ∧ (∀ t, A'.tmps.get t = if (dstBit dst).testBit t = true then some v else A.tmps.get t) ∧
      ∀ B : AAct, B.size = A.size → ∃ B', (putA B dst v).run s = some (B', s) := by
  unfold putA at h
  split at h
  · rw [M.run_pure'] at h
    obtain ⟨rfl, rfl⟩ := h
    exact ⟨rfl, rfl, rfl, fun t => by simp [dstBit], fun B _ => ⟨B, by simp [putA]⟩⟩
  · rename_i d size tmps ds
    simp only [run_chk, M.run_pure'] at h
    obtain ⟨hb, rfl, rfl⟩ := h
    refine ⟨rfl, rfl, rfl, fun t => ?_, fun B hB => ?_⟩
    · simp only [T.get_set, dstBit, testBit_bit, decide_eq_true_eq]
      by_cases hk : t = d
      · subst hk; simp
      · rw [if_neg hk, if_neg (fun e => hk e.symm)]
    · obtain ⟨bs, bt, bd⟩ := B
      simp only at hB
      subst hB
      exact ⟨⟨bs, bt.set d (some v), bd⟩, by simp only [putA, run_chk, M.run_pure', and_true]; exact hb⟩
theorem wantedA_congr {ops : List Oper} {o : Oper} {A B : AAct} (hs : B.size = A.size) (h : ∀ t, (guardBits ops o.guard).testBit t = true → B.tmps.get t = A.tmps.get t) : wantedA ops o B = wantedA ops o A := by
  unfold wantedA
  cases hg : o.guard with
  | none => rfl
  | some p =>
    obtain ⟨j, want⟩ := p
    simp only
    cases hj : ops[j]? with
    | none => rfl
    | some q =>
      simp only
      cases hd : q.dst with
      | none => rfl
      | some d =>
        have := h d (by simp [guardBits, hg, hj, hd, dstBit, testBit_bit])
        simp only [isTrueAt, hs, this]
theorem stepA_congr {F : Fns} {rd : Option Nat} {ops : List Oper} {o : Oper} {A A' B : AAct} {s s' : St} (h : (stepA P F rd ops o A).run s = some (A', s')) (hq : isDefer o.op = false) (hs : B.size = A.size)
    (ht : ∀ t, (readBits ops o).testBit t = true → B.tmps.get t = A.tmps.get t) :
    A'.size = A.size ∧ A'.defers = A.defers ∧ (∀ t, (dstBit o.dst).testBit t = false → A'.tmps.get t = A.tmps.get t) ∧
      ∃ B', (stepA P F rd ops o B).run s = some (B', s') ∧ B'.size = B.size ∧ B'.defers = B.defers ∧ ∀ t, B'.tmps.get t = if (dstBit o.dst).testBit t = true then A'.tmps.get t else B.tmps.get t := by
  have hr : ∀ t, (readBits ops o).testBit t = ((tmpBits o.op.operands.toList).testBit t || (guardBits ops o.guard).testBit t) := fun t => by
    show ((tmpBits o.op.operands.toList) ||| (guardBits ops o.guard)).testBit t = _
    rw [Nat.testBit_or]
  have hw : wantedA ops o B = wantedA ops o A := wantedA_congr hs fun t h => ht t (by rw [hr, h]; simp)
  have hop : ∀ F, opA P F o.op B = opA P F o.op A := fun F => opA_congr fun x hx => evalA_congr fun t e => ht t (by subst e; rw [hr, tmpBits_mem hx]; simp)
  have key : ∀ (m : M AV), (m.bind fun v => putA A o.dst v).run s = some (A', s') → A'.size = A.size ∧ A'.defers = A.defers ∧ (∀ t, (dstBit o.dst).testBit t = false → A'.tmps.get t = A.tmps.get t) ∧
      ∃ B', (m.bind fun v => putA B o.dst v).run s = some (B', s') ∧ B'.size = B.size ∧ B'.defers = B.defers ∧ ∀ t, B'.tmps.get t = if (dstBit o.dst).testBit t = true then A'.tmps.get t else B.tmps.get t := by
    intro m h
    simp only [M.run_bind'] at h ⊢
    obtain ⟨v, s1, h1, h2⟩ := h
    obtain ⟨rfl, g1, g2, g3, g4⟩ := putA_spec h2
    obtain ⟨B', hB⟩ := g4 B hs
    obtain ⟨_, k1, k2, k3, _⟩ := putA_spec hB
    refine ⟨g1, g2, fun t h => by rw [g3 t, h]; simp, B', ⟨v, _, h1, hB⟩, k1, k2, fun t => ?_⟩
    rw [k3 t, g3 t]
    by_cases hd : (dstBit o.dst).testBit t = true
    · simp [hd]
    · simp [hd]
  unfold stepA at h ⊢
  simp only [run_opt] at h ⊢
  obtain ⟨b, hb, h⟩ := h
  cases b with
  | false =>
    simp only [cond_false] at h
    have := key (M.pure undefA) (by simp only [M.run_bind', M.run_pure']; exact ⟨undefA, s, ⟨rfl, rfl⟩, h⟩)
    obtain ⟨g1, g2, g3, B', g4, g5, g6, g7⟩ := this
    simp only [M.run_bind', M.run_pure'] at g4
    obtain ⟨_, _, ⟨rfl, rfl⟩, g4⟩ := g4
    exact ⟨g1, g2, g3, B', ⟨false, by rw [hw]; exact hb, g4⟩, g5, g6, g7⟩
  | true =>
    simp only [cond_true] at h
    split at h
    · rename_i c hc
      rw [hc] at hq; cases hq
    · rename_i hnd
      obtain ⟨g1, g2, g3, B', g4, g5, g6, g7⟩ := key _ h
      refine ⟨g1, g2, g3, B', ⟨true, by rw [hw]; exact hb, ?_⟩, g5, g6, g7⟩
      simp only [cond_true]
      rw [hop]; exact g4
end
end Go.Mach
end
section
/-! A region that draws its order comes to what its text's order comes to. -/
set_option linter.unusedSimpArgs false
set_option linter.unusedVariables false
namespace Go.Mach
open Go
section
variable {P : Program} {base : Nat}

theorem and_zero {x y : Nat} (h : Nat.beq (Nat.land x y) 0 = true) (i : Nat) (hx : x.testBit i = true) : y.testBit i = false := by
  have h0 : x &&& y = 0 := Nat.eq_of_beq_eq_true h
  have := Nat.testBit_and x y i
  rw [h0, hx, Nat.zero_testBit, Bool.true_and] at this
  exact this.symm
theorem apartA_spec {x y : Rec} (h : apartA x y = true) : (∀ i, x.w.testBit i = true → y.f.testBit i = false) ∧ (∀ i, y.w.testBit i = true → x.f.testBit i = false) ∧
    (∀ i, x.tw.testBit i = true → y.tr.testBit i = false ∧ y.tw.testBit i = false) ∧ (∀ i, y.tw.testBit i = true → x.tr.testBit i = false) := by
  simp only [apartA, Bool.and_eq_true] at h
  obtain ⟨h1, h2, h3, h4⟩ := h
  refine ⟨fun i hi => and_zero h1 i hi, fun i hi => and_zero h2 i hi, fun i hi => ?_, fun i hi => and_zero h4 i hi⟩
  have := and_zero h3 i hi
  have e : (Nat.lor y.tr y.tw).testBit i = (y.tr.testBit i || y.tw.testBit i) := Nat.testBit_or ..
  rw [e, Bool.or_eq_false_iff] at this
  exact this
/-- The whole of what is known of a region's operations, in their text's order. -/
structure Text (P : Program) (F : Fns) (rd : Option Nat) (ops : List Oper) (A : Nat → AAct) (S : Nat → St) (R : Nat → Rec) (b : Nat → Nat) : Prop where
  did : ∀ j o, ops[j]? = some o → Did P F rd ops A S R b j o
  sub : ∀ j, j < ops.length → ∀ i, (R j).w.testBit i = true → (R j).f.testBit i = true
  keep : ∀ j, j < ops.length → ∀ i, (R j).w.testBit i = false → (S (j + 1)).h.get i = (S j).h.get i
  again : ∀ j o, ops[j]? = some o → ∀ B : AAct, B.size = (A j).size → (∀ t, (R j).tr.testBit t = true → B.tmps.get t = (A j).tmps.get t) → ∀ hT : T AObj, (∀ i, (R j).f.testBit i = true → hT.get i = (S j).h.get i) →
    ∃ B' hT', (stepA P F rd ops o B).run ⟨hT, (S j).n, 0, 0⟩ = some (B', ⟨hT', (S (j + 1)).n, (R j).f, (R j).w⟩) ∧ B'.size = B.size ∧ B'.defers = B.defers ∧
      (∀ t, B'.tmps.get t = if (R j).tw.testBit t = true then (A (j + 1)).tmps.get t else B.tmps.get t) ∧ ∀ i, hT'.get i = if (R j).w.testBit i = true then (S (j + 1)).h.get i else hT.get i
  tkeep : ∀ j, j < ops.length → ∀ t, (R j).tw.testBit t = false → (A (j + 1)).tmps.get t = (A j).tmps.get t
  size : ∀ j, j < ops.length → (A (j + 1)).size = (A j).size
  defers : ∀ j, j < ops.length → (A (j + 1)).defers = (A j).defers
  grow : ∀ j, j < ops.length → (S j).n ≤ (S (j + 1)).n
theorem text_of {F : Fns} {rd : Option Nat} {ops : List Oper} {A : Nat → AAct} {S : Nat → St} {R : Nat → Rec} {b : Nat → Nat} (h : ∀ j o, ops[j]? = some o → Did P F rd ops A S R b j o) : Text P F rd ops A S R b := by
  have loc : ∀ j o, ops[j]? = some o → (∀ i, (R j).w.testBit i = true → (R j).f.testBit i = true) ∧ (∀ i, (R j).w.testBit i = false → (S (j + 1)).h.get i = (S j).h.get i) ∧ (S j).n ≤ (S (j + 1)).n := by
    intro j o ho
    obtain ⟨F', W', a1, a2, a3, a4, a5, a6⟩ := (stepA P F rd ops o (A j)).loc _ _ _ _ _ _ (h j o ho).run
    simp only [Nat.zero_or] at a1 a2 a3 a5
    subst a1 a2
    exact ⟨a4, a5, a3⟩
  have get : ∀ j, j < ops.length → ∃ o, ops[j]? = some o := fun j hj => ⟨_, List.getElem?_eq_getElem hj⟩
  have con : ∀ j o, ops[j]? = some o → (A (j + 1)).size = (A j).size ∧ (A (j + 1)).defers = (A j).defers ∧ (∀ t, (R j).tw.testBit t = false → (A (j + 1)).tmps.get t = (A j).tmps.get t) := by
    intro j o ho
    have hd := h j o ho
    obtain ⟨g1, g2, g3, _⟩ := stepA_congr hd.run hd.quiet rfl (fun _ _ => rfl)
    exact ⟨g1, g2, fun t ht => g3 t (by rw [← hd.tw]; exact ht)⟩
  refine ⟨h, fun j hj => ?_, fun j hj => ?_, fun j o ho B hB ht hT hh => ?_, fun j hj => ?_, fun j hj => ?_, fun j hj => ?_, fun j hj => ?_⟩
  · obtain ⟨o, ho⟩ := get j hj; exact (loc j o ho).1
  · obtain ⟨o, ho⟩ := get j hj; exact (loc j o ho).2.1
  · have hd := h j o ho
    obtain ⟨g1, g2, g3, B', g4, g5, g6, g7⟩ := stepA_congr hd.run hd.quiet hB (fun t h => ht t (by rw [hd.tr]; exact h))
    obtain ⟨F', W', a1, a2, a3, a4, a5, a6⟩ := (stepA P F rd ops o B).loc _ _ _ _ _ _ g4
    simp only [Nat.zero_or] at a1 a2 a3 a5 a6
    subst a1 a2
    obtain ⟨hT', k1, k2⟩ := a6 hT 0 0 hh
    refine ⟨B', hT', by rw [k1]; simp, g5, g6, fun t => ?_, k2⟩
    rw [hd.tw]; exact g7 t
  · obtain ⟨o, ho⟩ := get j hj; exact (con j o ho).2.2
  · obtain ⟨o, ho⟩ := get j hj; exact (con j o ho).1
  · obtain ⟨o, ho⟩ := get j hj; exact (con j o ho).2.1
  · obtain ⟨o, ho⟩ := get j hj; exact (loc j o ho).2.2

/-- The operations that are listed have done what they did in the text's order. -/
structure Part (P : Program) (base : Nat) (ops : List Oper) (A : Nat → AAct) (S : Nat → St) (R : Nat → Rec) (C0 : CMap) (w0 : World) (D : Nat → Bool) (a : Act) (w : World) : Prop where
  st : ∃ (C : CMap) (B : AAct) (hT : T AObj), (∀ i, hT.get i = over (fun j => (S j).h.get) (fun j => (R j).w) D ops.length i) ∧ (∀ t, B.tmps.get t = over (fun j => (A j).tmps.get) (fun j => (R j).tw) D ops.length t) ∧
    B.size = (A 0).size ∧ B.defers = (A 0).defers ∧ FR C B a ∧ WR P base C hT.get w.heap ∧ Ext C0 C (S 0).n (S ops.length).n ∧ Kept base w0 w ∧ C0.le C ∧ ∀ j, j < ops.length → D j = false → Fresh C (S j).n (S (j + 1)).n

section
variable {F : Fns} {rd ro : Option Nat} {ops : Array Oper} {A : Nat → AAct} {S : Nat → St} {R : Nat → Rec} {b : Nat → Nat}

theorem Text.mono (T : Text P F rd ops.toList A S R b) {i : Nat} : ∀ {j : Nat}, i ≤ j → j ≤ ops.toList.length → (S i).n ≤ (S j).n
  | 0, h, _ => by have : i = 0 := by omega
                  subst this; exact Nat.le_refl _
  | j + 1, h, hj => by
    by_cases e : i = j + 1
    · subst e; exact Nat.le_refl _
    · exact Nat.le_trans (T.mono (by omega) (by omega)) (T.grow j (by omega))
theorem Text.sizes (T : Text P F rd ops.toList A S R b) : ∀ {j : Nat}, j ≤ ops.toList.length → (A j).size = (A 0).size ∧ (A j).defers = (A 0).defers
  | 0, _ => ⟨rfl, rfl⟩
  | j + 1, hj => by
    obtain ⟨h1, h2⟩ := T.sizes (j := j) (by omega)
    exact ⟨(T.size j (by omega)).trans h1, (T.defers j (by omega)).trans h2⟩
/-- A set of operations that holds what its operations follow. -/
def Shut (ops : Array Oper) (D : Nat → Bool) : Prop := ∀ (j : Nat) (o : Oper), ops[j]? = some o → D j = true → ∀ e ∈ o.after.toList, Region.binds .any e = true → D e.on = true
theorem Text.bits (T : Text P F rd ops.toList A S R b) {D : Nat → Bool} (hD : Shut ops D) : ∀ (i : Nat) (o : Oper), ops[i]? = some o → (∀ e ∈ o.after.toList, Region.binds .any e = true → D e.on = true) → ∀ m, (b i).testBit m = true → D m = true := by
  intro i
  induction i using Nat.strongRecOn with
  | _ i ih =>
    intro o ho he m hm
    have hd := T.did i o (by simpa using ho)
    obtain ⟨e, h1, h2, h3⟩ := (hd.follows m).1 hm
    rcases h3 with rfl | h3
    · exact he e h1 h2
    · have hlt := hd.edges e h1 h2
      have hi : i < ops.size := (Array.getElem?_eq_some_iff.1 ho).1
      obtain ⟨o', ho'⟩ : ∃ o', ops[e.on]? = some o' := ⟨_, Array.getElem?_eq_getElem (by omega)⟩
      exact ih e.on hlt o' ho' (fun e' h' hb' => hD e.on o' ho' (he e h1 h2) e' h' hb') m h3
theorem part_step (hF : FnsOK P base F) (T : Text P F rd ops.toList A S R b) (hG : P.globals.size ≤ (S 0).n) {C0 : CMap} {w0 : World} (hro : RoR C0 rd ro) {D : Nat → Bool} (hD : Shut ops D) {j : Nat} {o : Oper} (ho : ops[j]? = some o) (hDj : D j = false)
    (hready : ∀ e ∈ o.after.toList, Region.binds .any e = true → D e.on = true) {a : Act} {w : World} (hp : Part P base ops.toList A S R C0 w0 D a w) {K : Act → World → Prop} {Q : Exit → Act → World → Prop}
    (hK : ∀ a' w', Part P base ops.toList A S R C0 w0 (fun m => D m || decide (m = j)) a' w' → K a' w') : wpOpIn (fenceOf ro) 0 P ops Q j K a w := by
  have ho' : ops.toList[j]? = some o := by simpa using ho
  have hj : j < ops.toList.length := by
    have := (Array.getElem?_eq_some_iff.1 ho).1
    simpa using this
  obtain ⟨C, B, hT, p1, p2, p3, p4, p5, p6, p7, p8, p9, p10⟩ := hp.st
  have early : ∀ i, i < j → D i = false → apartA (R j) (R i) = true := by
    intro i hi hd
    refine ((T.did j o ho').apart i hi).resolve_left fun h => ?_
    have := T.bits hD j o ho hready i h
    rw [hd] at this; cases this
  have late : ∀ i, j < i → i < ops.toList.length → D i = true → apartA (R i) (R j) = true := by
    intro i hi hin hd
    obtain ⟨oi, hoi⟩ : ∃ oi, ops[i]? = some oi := ⟨_, Array.getElem?_eq_getElem (by simpa using hin)⟩
    refine ((T.did i oi (by simpa using hoi)).apart j hi).resolve_left fun h => ?_
    have := T.bits hD i oi hoi (fun e he hb => hD i oi hoi hd e he hb) j h
    rw [hDj] at this; cases this
  have hheap : ∀ x, (R j).f.testBit x = true → hT.get x = (S j).h.get x := by
    intro x hx
    rw [p1 x]
    refine over_find (H := fun j => (S j).h.get) (w := fun j => (R j).w) (fun i hi h => T.keep i hi x h) hj (fun i hi hd => ?_) (fun i hi hin hd => ?_)
    · have := (apartA_spec (early i hi hd)).2.1 x
      cases h : (R i).w.testBit x with
      | false => rfl
      | true => rw [this h] at hx; cases hx
    · have hne : j ≠ i := by rintro rfl; rw [hDj] at hd; cases hd
      have := (apartA_spec (late i (by omega) hin hd)).1 x
      cases h : (R i).w.testBit x with
      | false => rfl
      | true => rw [this h] at hx; cases hx
  have htmps : ∀ x, (R j).tr.testBit x = true → B.tmps.get x = (A j).tmps.get x := by
    intro x hx
    rw [p2 x]
    refine over_find (H := fun j => (A j).tmps.get) (w := fun j => (R j).tw) (fun i hi h => T.tkeep i hi x h) hj (fun i hi hd => ?_) (fun i hi hin hd => ?_)
    · have := (apartA_spec (early i hi hd)).2.2.2 x
      cases h : (R i).tw.testBit x with
      | false => rfl
      | true => rw [this h] at hx; cases hx
    · have hne : j ≠ i := by rintro rfl; rw [hDj] at hd; cases hd
      have := (apartA_spec (late i (by omega) hin hd)).2.2.1 x
      cases h : (R i).tw.testBit x with
      | false => rfl
      | true => rw [(this h).1] at hx; cases hx
  obtain ⟨z1, z2⟩ := T.sizes (j := j) (by omega)
  obtain ⟨B', hT', q1, q2, q3, q4, q5⟩ := T.again j o ho' B (by rw [p3, z1]) htmps hT hheap
  have hmono0 := T.mono (i := 0) (j := j) (by omega) (by omega)
  have hmono1 := T.mono (i := j + 1) (j := ops.toList.length) (by omega) (by omega)
  have hFj : Fresh C (S j).n (S (j + 1)).n := p10 j hj hDj
  have key := stepA_ok hF (Q := Q) (K := K) (s := ⟨hT, (S j).n, 0, 0⟩) (s' := ⟨hT', (S (j + 1)).n, (R j).f, (R j).w⟩) p6 (Nat.le_trans hG hmono0) hFj p5 (hro.mono p9) q1 (fun C' a' w' k1 k2 k3 k4 => ?_)
  · unfold wpOpIn
    rw [ho]
    exact key
  · refine hK a' w' ⟨C', B', hT', fun i => ?_, fun t => ?_, q2.trans p3, q3.trans p4, k1, k2, fun id hid => ?_, p8.trans k4, CMap.le_trans p9 (k3.le hFj), fun m hm hdm => ?_⟩
    · rw [q5 i, over_put (H := fun j => (S j).h.get) (w := fun j => (R j).w) hj hDj (fun i' h1 h2 h3 h4 => ?_), p1 i]
      have := (apartA_spec (late i' h1 h2 h3)).1 i
      cases h : (R i').w.testBit i with
      | false => rfl
      | true => have h5 := T.sub j hj i h4; rw [this h] at h5; cases h5
    · rw [q4 t, over_put (H := fun j => (A j).tmps.get) (w := fun j => (R j).tw) hj hDj (fun i' h1 h2 h3 h4 => ?_), p2 t]
      have := (apartA_spec (late i' h1 h2 h3)).2.2.1 t
      cases h : (R i').tw.testBit t with
      | false => rfl
      | true => rw [(this h).2] at h4; cases h4
    · have e1 : C' id = C id := k3 id (fun h => hid ⟨by have : (S j).n ≤ id := h.1; omega, by have : id < (S (j + 1)).n := h.2; omega⟩)
      rw [e1, p7 id hid]
    · simp only [Bool.or_eq_false_iff, decide_eq_false_iff_not] at hdm
      intro id h1 h2
      have e1 : C' id = C id := k3 id (fun h => by
        have ha : (S j).n ≤ id := h.1
        have hb : id < (S (j + 1)).n := h.2
        rcases Nat.lt_or_ge m j with hlt | hge
        · have := T.mono (i := m + 1) (j := j) (by omega) (by omega); omega
        · have := T.mono (i := j + 1) (j := m) (by omega) (by omega); omega)
      rw [e1]
      exact p10 m hm hdm.1 id h1 h2
end
end
end Go.Mach
end
section
/-! A region comes to what the machine says. -/
set_option linter.unusedSimpArgs false
set_option linter.unusedVariables false
namespace Go.Mach
open Go
section
variable {P : Program} {base : Nat}

theorem over_none {α : Type} {H : Nat → Nat → α} {w : Nat → Nat} {x : Nat} : ∀ {n : Nat}, over H w (fun _ => false) n x = H 0 x
  | 0 => rfl
  | n + 1 => by simp only [over]; rw [if_neg (by simp), over_none]

section
variable {F : Fns} {rd ro : Option Nat} {ops : Array Oper} {A : Nat → AAct} {S : Nat → St} {R : Nat → Rec} {b : Nat → Nat} {C0 : CMap} {w0 : World}

theorem part_start (T : Text P F rd ops.toList A S R b) {a : Act} {w : World} (hfr : FR C0 (A 0) a) (hw : WR P base C0 (S 0).h.get w.heap) (hf : Fresh C0 (S 0).n (S ops.toList.length).n) (hk : Kept base w0 w) :
    Part P base ops.toList A S R C0 w0 (fun _ => false) a w := by
  refine ⟨C0, A 0, (S 0).h, fun i => ?_, fun t => ?_, rfl, rfl, hfr, hw, fun _ _ => rfl, hk, CMap.le_refl _, fun j hj _ id h1 h2 => ?_⟩
  · rw [over_none (H := fun j => (S j).h.get)]
  · rw [over_none (H := fun j => (A j).tmps.get)]
  · have := T.mono (i := 0) (j := j) (by omega) (by omega)
    have := T.mono (i := j + 1) (j := ops.toList.length) (by omega) (by omega)
    exact hf id (by omega) (by omega)
theorem part_end (T : Text P F rd ops.toList A S R b) {D : Nat → Bool} (hD : ∀ j, j < ops.toList.length → D j = true) {a : Act} {w : World} (hp : Part P base ops.toList A S R C0 w0 D a w) :
    ∃ C, FR C (A ops.toList.length) a ∧ WR P base C (S ops.toList.length).h.get w.heap ∧ Ext C0 C (S 0).n (S ops.toList.length).n ∧ Kept base w0 w := by
  obtain ⟨C, B, hT, p1, p2, p3, p4, p5, p6, p7, p8, p9, p10⟩ := hp.st
  obtain ⟨z1, z2⟩ := T.sizes (j := ops.toList.length) (Nat.le_refl _)
  have e1 : ∀ i, hT.get i = (S ops.toList.length).h.get i := fun i => by
    rw [p1 i, over_congr (D' := fun _ => true) (fun j hj _ => hD j hj), over_all (H := fun j => (S j).h.get) (n := ops.toList.length) (fun j hj h => T.keep j hj i h) (Nat.le_refl _)]
  have e2 : ∀ t, B.tmps.get t = (A ops.toList.length).tmps.get t := fun t => by
    rw [p2 t, over_congr (D' := fun _ => true) (fun j hj _ => hD j hj), over_all (H := fun j => (A j).tmps.get) (n := ops.toList.length) (fun j hj h => T.tkeep j hj t h) (Nat.le_refl _)]
  refine ⟨C, ⟨?_, fun k => ?_, ?_⟩, p6.congr fun id => (e1 id).symm, p7, p8⟩
  · rw [p5.size, p3, z1]
  · rw [← e2 k]; exact p5.tmps k
  · rw [z2, ← p4]; exact p5.defers
theorem getD_any {l : Array Bool} {j : Nat} (h : j < l.size) : l.getD j true = l.getD j false := by
  simp [Array.getD_eq_getD_getElem?, Array.getElem?_eq_getElem h]
theorem all_done (T : Text P F rd ops.toList A S R b) {listed : Array Bool} (hs : listed.size = ops.size) (hr : Region.ready .any ops listed = []) : ∀ j, j < ops.size → listed.getD j false = true := by
  intro j
  induction j using Nat.strongRecOn with
  | _ j ih =>
    intro hj
    cases hd : listed.getD j false with
    | true => rfl
    | false =>
      obtain ⟨o, ho⟩ : ∃ o, ops[j]? = some o := ⟨_, Array.getElem?_eq_getElem hj⟩
      have hd' := T.did j o (by simpa using ho)
      have : j ∈ Region.ready .any ops listed := mem_ready.2 ⟨by rw [getD_any (by omega)]; exact hd, o, ho, fun e he hb => by
        have := hd'.edges e (by simpa using he) hb
        exact ih e.on this (by omega)⟩
      rw [hr] at this; cases this
theorem any_go (hF : FnsOK P base F) (T : Text P F rd ops.toList A S R b) (hG : P.globals.size ≤ (S 0).n) (hro : RoR C0 rd ro) {Q : Exit → Act → World → Prop}
    (hQ : ∀ C' a' w', FR C' (A ops.toList.length) a' → WR P base C' (S ops.toList.length).h.get w'.heap → Ext C0 C' (S 0).n (S ops.toList.length).n → Kept base w0 w' → Q .normal a' w') :
    ∀ (fuel : Nat) (u : List Nat) (listed : Array Bool) (a : Act) (w : World), u.Nodup → u.length ≤ fuel → listed.size = ops.size → (∀ m, m < ops.size → (listed.getD m false = false ↔ m ∈ u)) →
      Shut ops (fun m => listed.getD m false) → Part P base ops.toList A S R C0 w0 (fun m => listed.getD m false) a w → wpAnyIn (fenceOf ro) 0 P .any ops Q fuel listed a w := by
  have fin : ∀ (listed : Array Bool) (a : Act) (w : World), (∀ j, j < ops.size → listed.getD j false = true) → Part P base ops.toList A S R C0 w0 (fun m => listed.getD m false) a w → Q .normal a w := by
    intro listed a w hd hp
    obtain ⟨C, h1, h2, h3, h4⟩ := part_end T (fun j hj => hd j (by simpa using hj)) hp
    exact hQ C a w h1 h2 h3 h4
  intro fuel
  induction fuel with
  | zero =>
    intro u listed a w hu hl hs hm hD hp
    have hu0 : u = [] := List.length_eq_zero_iff.1 (by omega)
    subst hu0
    have hall : ∀ j, j < ops.size → listed.getD j false = true := fun j hj => by
      cases hd : listed.getD j false with
      | true => rfl
      | false => have := (hm j hj).1 hd; cases this
    refine ⟨?_, fin _ _ _ hall hp⟩
    rw [List.eq_nil_iff_forall_not_mem]
    intro j hj
    obtain ⟨h1, o, ho, _⟩ := mem_ready.1 hj
    have hlt : j < ops.size := (Array.getElem?_eq_some_iff.1 ho).1
    rw [getD_any (by omega), hall j hlt] at h1; cases h1
  | succ fuel ih =>
    intro u listed a w hu hl hs hm hD hp
    refine ⟨fun hr => fin _ _ _ (all_done T hs hr) hp, fun j hj => ?_⟩
    obtain ⟨h1, o, ho, hready⟩ := mem_ready.1 hj
    have hlt : j < ops.size := (Array.getElem?_eq_some_iff.1 ho).1
    rw [getD_any (by omega)] at h1
    have hready' : ∀ e ∈ o.after.toList, Region.binds .any e = true → listed.getD e.on false = true := fun e he hb => hready e (by simpa using he) hb
    refine part_step hF T hG hro hD ho h1 hready' hp fun a' w' hp' => ?_
    have hset : (fun m => (listed.setIfInBounds j true).getD m false) = fun m => listed.getD m false || decide (m = j) := by
      funext m
      rw [Array.getD_eq_getD_getElem?, Array.getElem?_setIfInBounds]
      by_cases e : j = m
      · subst e; simp [hs, hlt]
      · rw [if_neg e, ← Array.getD_eq_getD_getElem?]; simp [show ¬ m = j from fun h => e h.symm]
    have hju : j ∈ u := (hm j hlt).1 h1
    refine ih (u.erase j) _ a' w' (hu.erase j) ?_ (by simp [hs]) (fun m hmlt => ?_) ?_ ?_
    · rw [List.length_erase_of_mem hju]; omega
    · have this : (listed.setIfInBounds j true).getD m false = (listed.getD m false || decide (m = j)) := congrFun hset m
      rw [this, hu.mem_erase_iff, ← hm m hmlt]
      by_cases e : m = j <;> simp [e]
    · rw [hset]
      intro i oi hoi hi e he hb
      simp only [Bool.or_eq_true, decide_eq_true_eq] at hi ⊢
      rcases hi with hi | hi
      · exact .inl (hD i oi hoi hi e he hb)
      · subst hi
        rw [ho] at hoi; injection hoi with hoi; subst hoi
        exact .inl (hready' e he hb)
    · rw [hset]; exact hp'
end

variable {C : CMap} {s s' : St} {w : World}
theorem regionA_ok {F : Fns} (hF : FnsOK P base F) (hmix : P.follows .mixedOrders = true) {rd ro : Option Nat} {id : Nat} {ops : Array Oper} {draw : Bool} {A0 A' : AAct} {a : Act} {Q : Exit → Act → World → Prop} (hw : WR P base C s.h.get w.heap) (hG : P.globals.size ≤ s.n) (hf : Fresh C s.n s'.n)
    (hfr : FR C A0 a) (hro : RoR C rd ro) (h : (regionA P F rd ops.toList draw A0).run s = some (A', s'))
    (hQ : ∀ C' a' w', FR C' A' a' → WR P base C' s'.h.get w'.heap → Ext C C' s.n s'.n → Kept base w w' → Q .normal a' w') : (Code.region id ops draw).wpIn (fenceOf ro) 0 P Q a w := by
  cases draw with
  | false =>
    refine wpIn_region ?_
    have := textA_ok hF (ops := ops) (rd := rd) (ro := ro) (Q := Q) ops.toList 0 (by simp) hw hG hf hfr hro h hQ
    rwa [List.range_eq_range', ← Array.length_toList]
  | true =>
    obtain ⟨A, S, R, b, e1, e2, e3, e4, e5, e6, _, _, e9⟩ := anyA_trace (ops := ops.toList) ops.toList 0 [] [] A0 s A' s' (by simp) rfl rfl h
    rw [Nat.zero_add] at e4 e5 e6
    have T : Text P F rd ops.toList A S R b := text_of fun j o ho => e9 j o (Nat.zero_le _) ho
    refine wpIn_region_any hmix ?_
    have hz : ∀ m, (Array.replicate ops.size false).getD m false = false := fun m => by
      simp only [Array.getD_eq_getD_getElem?, Array.getElem?_replicate]
      split <;> rfl
    have hz' : (fun m => (Array.replicate ops.size false).getD m false) = fun _ => false := funext hz
    refine any_go (base := base) (C0 := C) (w0 := w) hF T (by rw [e3]; exact hG) hro (fun C' a' w' h1 h2 h3 h4 => ?_) ops.size (List.range ops.size) _ _ _ List.nodup_range (by simp) (by simp) (fun m hm => by simp [hz, hm]) ?_ ?_
    · rw [e4] at h1
      rw [e5] at h2
      rw [e3, e6] at h3
      exact hQ C' a' w' h1 h2 h3 h4
    · intro j o ho hj
      have hj : (Array.replicate ops.size false).getD j false = true := hj
      rw [hz] at hj; cases hj
    · rw [hz']
      refine part_start T (by rw [e1]; exact hfr) (by rw [e2]; exact hw) (by rw [e3, e6]; exact hf) (Kept.drawn _)
end
end Go.Mach
end
section
/-! A piece of code comes to what the machine says. -/
set_option linter.unusedSimpArgs false
set_option linter.unusedVariables false
namespace Go.Mach
open Go
section
variable {P : Program} {base : Nat} {C C1 : CMap} {s s1 s' : St} {w w1 : World}

theorem CodePost.behind {e : AExit} {A' : AAct} {e' : Exit} {a' : Act} {w' : World} (hE : Ext C C1 s.n s1.n) (h1 : s.n ≤ s1.n) (h2 : s1.n ≤ s'.n) (hK : Kept base w w1) (h : CodePost P base C1 s1 s' w1 e A' e' a' w') : CodePost P base C s s' w e A' e' a' w' :=
  let ⟨hx, C', a1, a2, a3, a4⟩ := h; ⟨hx, C', a1, a2, hE.trans a3 h1 h2, hK.trans a4⟩
theorem CodePost.same {e : AExit} {A' : AAct} {e' : Exit} {a' : Act} {w' : World} (hs : Same s s1) (h : CodePost P base C s1 s' w e A' e' a' w') : CodePost P base C s s' w e A' e' a' w' :=
  let ⟨hx, C', a1, a2, a3, a4⟩ := h; ⟨hx, C', a1, a2, by rw [← hs.2]; exact a3, a4⟩
theorem loopWp.mono {F : Fence} {n : Nat} {c : Code} {Q Q' : Exit → Act → World → Prop} {a : Act} (h : loopWp F n P c Q a w) (hq : ∀ e a w, Q e a w → Q' e a w) : loopWp F n P c Q' a w :=
  fun b k cs h1 h2 h3 => let ⟨e, a', w', q, r⟩ := h b k cs h1 h2 h3; ⟨e, a', w', hq _ _ _ q, r⟩

theorem codeLoop_ok {F : Fns} (hF : FnsOK P base F) {rd ro : Option Nat} {c : Code} {A A' : AAct} {a : Act} {e : AExit} (h : (codeA P F rd (.loop c) A).run s = some ((e, A'), s')) (hw : WR P base C s.h.get w.heap) (hG : P.globals.size ≤ s.n) (hf : Fresh C s.n s'.n)
    (hfr : FR C A a) (hro : RoR C rd ro) : loopWp (fenceOf ro) 0 P c (CodePost P base C s s' w e A') a w := by
  simp only [codeA, M.run_bind'] at h
  obtain ⟨⟨e1, A1⟩, s1, h1, h2⟩ := h
  have l1 := M.le _ h1
  have l2 : s1.n ≤ s'.n := by revert h2; cases e1 <;> intro h2 <;> exact M.le _ h2
  refine loopWp.of (wpIn_mono (hF.code h1 hw hG (hf.left l2) hfr hro) ?_)
  rintro e' a1 w1 ⟨hx, C1, c1, c2, c3, c4⟩
  have hle := c3.le (hf.left l2)
  cases e1 with
  | normal =>
    cases e' <;> simp only [exitR] at hx
    simp only [Exit.then]
    exact loopWp.mono (hF.loop h2 c2 (by omega) (hf.right c3 l1) c1 (hro.mono hle)) fun e2 a2 w2 h => h.behind c3 l1 l2 c4
  | ret =>
    simp only [M.run_pure', Prod.mk.injEq] at h2
    obtain ⟨⟨rfl, rfl⟩, rfl⟩ := h2
    cases e' <;> simp only [exitR] at hx
    exact ⟨trivial, C1, c1, c2, c3, c4⟩
  | exit id =>
    simp only [M.run_pure', Prod.mk.injEq] at h2
    obtain ⟨⟨rfl, rfl⟩, rfl⟩ := h2
    cases e' <;> simp only [exitR] at hx
    exact ⟨hx, C1, c1, c2, c3, c4⟩

theorem s_endLoop {l : Nat} {r : Loop} (h : w.heap[l]? = some (.loop r)) (hr : r.state ≠ .busy) : (Instr.endLoop l).run P w = .ok r.pending (World.setBlk w l (.loop { r with state := .exhausted })) := by
  simp [Instr.endLoop, s_getLoop h, hr, run_setObj' h (by simp)]

/-- A range over a function, from its record on. -/
theorem rangeGo_ok {F : Fns} (hF : FnsOK P base F) (hN : NoCount P) {rd ro : Option Nat} {f : Operand} {params : Array Tmp} {assign body : Code} {size : Nat} {tmps : T AV} {ds ds' : List ADef} {a : Act} {mark : List Deferred} {d : Nat} {j : RI} {e : AExit} {A' : AAct} {fn : FuncId}
    (h : ((new (.loop .ready none size tmps params assign body d)).bind fun l =>
      match evalA P ⟨size, tmps, ds⟩ f with
      | .func (.func g) first cap => chk (hasBody P g) <| (F.call g (first ++ [.func (.yield l) [] []] ++ cap)).bind fun _ =>
        rdLoop l fun st pe size' tmps' params assign body d => match st with
          | .busy => M.fail
          | _ => (put l (some (.loop .exhausted pe size' tmps' params assign body d))).bind fun _ => match pe with
            | none => M.pure (.normal, ⟨size, tmps, ds'⟩)
            | some c => F.code rd c ⟨size, tmps, ds'⟩
      | _ => M.fail : M (AExit × AAct)).run s = some ((e, A'), s'))
    (hw : WR P base C s.h.get w.heap) (hG : P.globals.size ≤ s.n) (hf : Fresh C s.n s'.n) (hT : TR C tmps a.tmps) (hsz : a.tmps.size = size) (hds : DRs C ds' (mark ++ a.defers)) (hro : RoR C rd ro) (hj : C d = some j) :
    ∃ (l : Nat) (w₁ : World) (dd : Deferred) (w₁' : World) (g : FuncId) (args : Array Value) (w₂ : World),
      (newObj (.loop { state := .ready, pending := none, fn, tmps := a.tmps, params, assign, body, defers := j.blk })).run P w = .ok l w₁ ∧
      (resolve a.eval (rangeCall f l) 0).run P w₁ = .ok dd w₁' ∧
      (invoke dd.target dd.args).run P w₁' = .ok (.enter g args) w₂ ∧
      CallsIn (fenceOf ro) 0 P g args w₂ (rangePost (fenceOf ro) 0 P l (CodePost P base C s s' w e A') { a with defers := mark ++ a.defers }) := by
  simp only [M.run_bind'] at h
  obtain ⟨l, s1, hnew, h⟩ := h
  have l1 := M.le _ hnew
  split at h
  · rename_i g first cap hev
    simp only [run_chk, M.run_bind'] at h
    obtain ⟨hbody, r, s2, hcall, h⟩ := h
    have l2 := M.le _ hcall
    have l3 : s2.n ≤ s'.n := M.le _ h
    obtain ⟨C1, hC1, hle1, C2, lv, w1, hrun, ⟨_, hC2, rfl⟩, hw1, hext1, hk1⟩ := new_ok hw hG (hf.left (by omega)) (x := .loop { state := .ready, pending := none, fn, tmps := a.tmps, params, assign, body, defers := j.blk }) hnew (fun C' i hle h0 hb hi => ⟨{ state := .ready, pending := none, fn, tmps := a.tmps, params, assign, body, defers := j.blk }, by simp [hb], rfl, rfl, hsz, hT.mono hle, rfl, rfl, rfl, j, hle _ _ hj, rfl⟩)
    have hle2' : C.le C2 := hext1.le (hf.left (by omega))
    have hfv := evalA_ok (a := a) (A := ⟨size, tmps, ds⟩) (Glob.mono hle2' hw.glob) (hT.mono hle2') f
    rw [hev] at hfv
    obtain ⟨g', fa, ca, hv, g1, g2, g3⟩ := hfv.func_inv
    simp only [fnR] at g1
    subst g1
    have hargs : VRs C2 (first ++ [.func (.yield l) [] []] ++ cap) (fa ++ #[Value.func (.yield w.heap.size) #[] #[]] ++ ca).toList := by
      rw [Array.toList_append, Array.toList_append]
      refine (g2.append (VRs.cons.2 ⟨?_, VRs.nil⟩)).append g3
      exact ⟨_, _, _, rfl, ⟨_, hC2, rfl⟩, VRs.nil, VRs.nil⟩
    have hc := hF.call hcall hw1 (by omega) ((hf.left (by omega)).right hext1 l1) hargs
    rw [hasBody_ok hN hbody] at hc
    simp only [UponR] at hc
    refine ⟨w.heap.size, w1, { target := .fn (.func g) ca, args := fa ++ #[Value.func (.yield w.heap.size) #[] #[]] }, w1, g, fa ++ #[Value.func (.yield w.heap.size) #[] #[]] ++ ca, w1, hrun, ?_, ?_, ?_⟩
    · simp only [resolve, rangeCall, hv, Deferred.ofValue, Sem.run_bind, Sem.run_pure, Result.andThen_ok]
      simp [Act.eval]
    · simp only [invoke]
      exact hasBody_ok hN hbody
    · refine CallsIn.mono hc ?_
      rintro e3 w3 he
      cases e3 <;> simp only [Ends] at he
      obtain ⟨C3, _, hw3, hext3, hk3⟩ := he
      have hle3 := hext3.le ((hf.left (by omega : s2.n ≤ s'.n)).right hext1 l1)
      obtain ⟨st, pe, size', tmps', params', assign', body', d', s3, hid, hsame, h⟩ := run_rdLoop h
      obtain ⟨i, q, hi, b1, b2, b3, b4, b5, b6, b7, b8, b9, b10⟩ := hw3.loopOf hid
      have hil : C3 l = some ⟨w.heap.size, 0, 0⟩ := hle3 _ _ hC2
      rw [hil] at hi; injection hi with hi; subst hi
      have hnb : st ≠ .busy := by
        rintro rfl
        simp at h
      have h' : ((put l (some (.loop .exhausted pe size' tmps' params' assign' body' d'))).bind fun _ => match (generalizing := false) pe with
            | none => M.pure (.normal, ⟨size, tmps, ds'⟩)
            | some c => F.code rd c ⟨size, tmps, ds'⟩ : M (AExit × AAct)).run s3 = some ((e, A'), s') := by
        cases st <;> first | exact absurd rfl hnb | exact h
      simp only [M.run_bind'] at h'
      obtain ⟨u, s4, hput, h'⟩ := h'
      have hid3 : s3.h.get l = some (.loop st pe size' tmps' params' assign' body' d') := by rw [hsame.1]; exact hid
      obtain ⟨f1, f2, f3⟩ := WR.setLoop (hw3.same hsame) hid3 hput hil b1 (r' := { q with state := .exhausted }) (by rw [← b3])
      have hn4 : s4.n = s2.n := by rw [f2, hsame.2]
      have hextA : Ext C C3 s.n s2.n := hext1.trans hext3 l1 l2
      have hleA : C.le C3 := CMap.le_trans hle2' hle3
      have hkA : Kept base w (World.setBlk w3 w.heap.size (.loop { q with state := .exhausted })) := (hk1.trans hk3).trans f3
      refine ⟨pe, World.setBlk w3 w.heap.size (.loop { q with state := .exhausted }), by rw [s_endLoop b1 (by rw [b2]; exact hnb), b3], ?_⟩
      have hfr3 : FR C3 ⟨size, tmps, ds'⟩ { a with defers := mark ++ a.defers } := ⟨hsz, hT.mono hleA, hds.mono hleA⟩
      cases pe with
      | none =>
        simp only [M.run_pure', Prod.mk.injEq] at h'
        obtain ⟨⟨rfl, rfl⟩, rfl⟩ := h'
        exact ⟨trivial, C3, hfr3, f1, by rw [hn4]; exact hextA, hkA⟩
      | some c =>
        simp only at h' ⊢
        have l4 := M.le _ h'
        have := hF.code h' f1 (by omega) (by rw [hn4]; exact hf.right hextA (by omega)) hfr3 (hro.mono hleA)
        exact wpIn_mono this fun e2 a2 w2 hh => hh.behind (by rw [hn4]; exact hextA) (by omega) l4 hkA
  · simp at h

theorem codeA_ok {F : Fns} (hF : FnsOK P base F) (hmix : P.follows .mixedOrders = true) (hN : NoCount P) {rd ro : Option Nat} {c : Code} {A A' : AAct} {a : Act} {e : AExit} (h : (codeA P F rd c A).run s = some ((e, A'), s')) (hw : WR P base C s.h.get w.heap) (hG : P.globals.size ≤ s.n) (hf : Fresh C s.n s'.n)
    (hfr : FR C A a) (hro : RoR C rd ro) : c.wpIn (fenceOf ro) 0 P (CodePost P base C s s' w e A') a w := by
  have h0 := h
  unfold codeA at h
  split at h
  · simp only [M.run_pure', Prod.mk.injEq] at h
    obtain ⟨⟨rfl, rfl⟩, rfl⟩ := h
    exact wpIn_skip ⟨trivial, C, hfr, hw, fun _ _ => rfl, Kept.refl ..⟩
  · simp only [M.run_pure', Prod.mk.injEq] at h
    obtain ⟨⟨rfl, rfl⟩, rfl⟩ := h
    exact wpIn_label ⟨trivial, C, hfr, hw, fun _ _ => rfl, Kept.refl ..⟩
  · simp only [M.run_pure', Prod.mk.injEq] at h
    obtain ⟨⟨rfl, rfl⟩, rfl⟩ := h
    exact wpIn_ret ⟨trivial, C, hfr, hw, fun _ _ => rfl, Kept.refl ..⟩
  · simp only [M.run_pure', Prod.mk.injEq] at h
    obtain ⟨⟨rfl, rfl⟩, rfl⟩ := h
    exact wpIn_exit ⟨rfl, C, hfr, hw, fun _ _ => rfl, Kept.refl ..⟩
  · rename_i x y
    simp only [M.run_bind'] at h
    obtain ⟨⟨e1, A1⟩, s1, h1, h2⟩ := h
    have l1 := M.le _ h1
    have l2 : s1.n ≤ s'.n := by revert h2; cases e1 <;> intro h2 <;> exact M.le _ h2
    refine wpIn_seq (wpIn_mono (hF.code h1 hw hG (hf.left l2) hfr hro) ?_)
    rintro e' a1 w1 ⟨hx, C1, c1, c2, c3, c4⟩
    have hle := c3.le (hf.left l2)
    cases e1 with
    | normal =>
      cases e' <;> simp only [exitR] at hx
      simp only [Exit.then]
      exact wpIn_mono (hF.code h2 c2 (by omega) (hf.right c3 l1) c1 (hro.mono hle)) fun e2 a2 w2 h => h.behind c3 l1 l2 c4
    | ret =>
      simp only [M.run_pure', Prod.mk.injEq] at h2
      obtain ⟨⟨rfl, rfl⟩, rfl⟩ := h2
      cases e' <;> simp only [exitR] at hx
      exact ⟨trivial, C1, c1, c2, c3, c4⟩
    | exit id =>
      simp only [M.run_pure', Prod.mk.injEq] at h2
      obtain ⟨⟨rfl, rfl⟩, rfl⟩ := h2
      cases e' <;> simp only [exitR] at hx
      exact ⟨hx, C1, c1, c2, c3, c4⟩
  · rename_i c x y
    have hcv := evalA_ok (a := a) hw.glob hfr.tmps c
    split at h
    · rename_i hev
      rw [hev] at hcv
      exact wpIn_cond_true hcv.bool_inv (hF.code h hw hG hf hfr hro)
    · rename_i hev
      rw [hev] at hcv
      exact wpIn_cond_false hcv.bool_inv (hF.code h hw hG hf hfr hro)
    · simp at h
  · rename_i id body
    simp only [M.run_bind'] at h
    obtain ⟨⟨e1, A1⟩, s1, h1, h2⟩ := h
    have hsn : s1 = s' := by
      cases e1 with
      | normal => simp only [M.run_pure'] at h2; exact h2.2
      | ret => simp only [M.run_pure'] at h2; exact h2.2
      | exit id' =>
        simp only at h2
        cases hb : Nat.beq id' id <;> rw [hb] at h2 <;> simp only [cond_true, cond_false, M.run_pure'] at h2 <;> exact h2.2
    subst hsn
    refine wpIn_block (wpIn_mono (hF.code h1 hw hG hf hfr hro) ?_)
    rintro e' a1 w1 ⟨hx, C1, c1, c2, c3, c4⟩
    cases e1 with
    | normal =>
      simp only [M.run_pure', Prod.mk.injEq] at h2
      obtain ⟨⟨rfl, rfl⟩, _⟩ := h2
      cases e' <;> simp only [exitR] at hx
      exact ⟨trivial, C1, c1, c2, c3, c4⟩
    | ret =>
      simp only [M.run_pure', Prod.mk.injEq] at h2
      obtain ⟨⟨rfl, rfl⟩, _⟩ := h2
      cases e' <;> simp only [exitR] at hx
      exact ⟨trivial, C1, c1, c2, c3, c4⟩
    | exit id' =>
      obtain ⟨k, rfl⟩ : ∃ k, e' = .exit k := by cases e' <;> simp only [exitR] at hx; exact ⟨_, rfl⟩
      simp only [exitR] at hx
      subst hx
      simp only at h2
      cases hb : Nat.beq k id with
      | true =>
        rw [hb] at h2
        simp only [cond_true, M.run_pure', Prod.mk.injEq] at h2
        obtain ⟨⟨rfl, rfl⟩, _⟩ := h2
        simp only [Exit.inBlock, Nat.eq_of_beq_eq_true hb, if_true]
        exact ⟨trivial, C1, c1, c2, c3, c4⟩
      | false =>
        rw [hb] at h2
        simp only [cond_false, M.run_pure', Prod.mk.injEq] at h2
        obtain ⟨⟨rfl, rfl⟩, _⟩ := h2
        have hne : ¬ k = id := by
          rintro rfl
          rw [show Nat.beq k k = true from Nat.beq_refl k] at hb
          cases hb
        simp only [Exit.inBlock, hne, if_false]
        exact ⟨rfl, C1, c1, c2, c3, c4⟩
  · exact (codeLoop_ok hF h0 hw hG hf hfr hro).wp
  · rename_i id ops draw
    simp only [M.run_bind', M.run_pure', Prod.mk.injEq] at h
    obtain ⟨A1, s1, h1, ⟨rfl, rfl⟩, rfl⟩ := h
    exact regionA_ok hF hmix hw hG hf hfr hro h1 fun C' a' w' k1 k2 k3 k4 => ⟨trivial, C', k1, k2, k3, k4⟩
  · rename_i f params assign body
    obtain ⟨size, tmps, ds⟩ := A
    simp only [rangeFuncA] at h
    cases rd with
    | some l0 =>
      simp only at h
      obtain ⟨st, pe, size0, tmps0, params0, assign0, body0, d0, s1, hid, hsame, h⟩ := run_rdLoop h
      obtain ⟨i, q, hi, b1, b2, b3, b4, b5, b6, b7, b8, ⟨j, hj, hjb⟩, b10⟩ := hw.loopOf hid
      simp only [RoR] at hro
      obtain ⟨i', hi', rfl⟩ := hro
      rw [hi] at hi'; injection hi' with hi'; subst hi'
      refine wpIn_rangeFunc fun fn _ => ?_
      obtain ⟨l, w₁, dd, w₁', g, args, w₂, g1, g2, g3, g4⟩ := rangeGo_ok hF hN (rd := some l0) (ro := some i.blk) (mark := []) (fn := fn) h (hw.same hsame) (by rw [hsame.2]; exact hG) (by rw [hsame.2]; exact hf) hfr.tmps hfr.size hfr.defers ⟨i, hi, rfl⟩ hj
      refine ⟨l, [], w₁, dd, w₁', g, args, w₂, ?_, g2, fun _ _ => trivial, g3, fun h => by simp [fenceOf, Fence.wide] at h, ?_⟩
      · have e1 : (Instr.getLoop i.blk).run P w = .ok q w := s_getLoop b1
        simp only [fenceOf, Instr.enterLoop, Sem.run_bind, e1, Result.andThen_ok, Sem.run_pure, hjb, g1]
      · refine CallsIn.mono g4 fun e2 w2 hh => ?_
        cases e2 with
        | returned v =>
          obtain ⟨jump, w4, k1, k2⟩ := hh
          refine ⟨jump, w4, k1, ?_⟩
          cases jump with
          | none => exact CodePost.same hsame k2
          | some c => exact wpIn_mono k2 fun _ _ _ h => CodePost.same hsame h
        | panicked ch => exact CodePost.same hsame hh
        | outgrown => obtain ⟨a0, w0, hh⟩ := hh; exact ⟨a0, w0, CodePost.same hsame hh⟩
    | none =>
      rw [M.run_bind'] at h
      obtain ⟨d, s1, hnew, h⟩ := h
      have l1 := M.le _ hnew
      have l2 : s1.n ≤ s'.n := M.le _ h
      simp only [RoR] at hro
      subst hro
      obtain ⟨C1, hC1, hle1, C2, lv, w1, hrun, ⟨_, hC2, rfl⟩, hw1, hext1, hk1⟩ := new_ok hw hG (hf.left l2) (x := .deferred (some [])) hnew (fun C' i hle h0 hb hi => by simp [OR, hb])
      have hle2 : C.le C2 := hext1.le (hf.left l2)
      refine wpIn_rangeFunc fun fn _ => ?_
      obtain ⟨l, w₁, dd, w₁', g, args, w₂, g1, g2, g3, g4⟩ := rangeGo_ok hF hN (rd := none) (ro := none) (mark := [{ target := .collected w.heap.size, args := #[] }]) (a := a) (fn := fn) h hw1 (by omega) (hf.right hext1 l1) (hfr.tmps.mono hle2) hfr.size
        ⟨_, _, rfl, ⟨_, hC2, rfl⟩, hfr.defers.mono hle2⟩ rfl hC2
      refine ⟨l, [{ target := .collected w.heap.size, args := #[] }], w₁, dd, w₁', g, args, w₂, ?_, g2, fun _ _ => trivial, g3, fun h => by simp [fenceOf, Fence.wide] at h, ?_⟩
      · simp only [fenceOf, Fence.wide, Instr.enterLoop, Sem.run_bind, hrun, Result.andThen_ok, Sem.run_pure, g1]
      · refine CallsIn.mono g4 fun e2 w2 hh => ?_
        cases e2 with
        | returned v =>
          obtain ⟨jump, w4, k1, k2⟩ := hh
          refine ⟨jump, w4, k1, ?_⟩
          cases jump with
          | none => exact CodePost.behind hext1 l1 l2 hk1 k2
          | some c => exact wpIn_mono k2 fun _ _ _ h => CodePost.behind hext1 l1 l2 hk1 h
        | panicked ch => exact CodePost.behind hext1 l1 l2 hk1 hh
        | outgrown => obtain ⟨a0, w0, hh⟩ := hh; exact ⟨a0, w0, CodePost.behind hext1 l1 l2 hk1 hh⟩
  · simp at h
end
end Go.Mach
end
section
/-! The machine's functions come to what the model's come to. -/
set_option linter.unusedSimpArgs false
set_option linter.unusedVariables false
namespace Go.Mach
open Go
section
variable {P : Program} {base : Nat} {C C1 : CMap} {s s1 s' : St} {w w1 : World}

/-- What is asked of the functions that are not entered. -/
structure SumsOK (P : Program) (base : Nat) (S : Sums) : Prop where
  ext : ∀ {C : CMap} {s s' : St} {w : World} {f : FuncId} {g : List AV → M AV} {args : List AV} {cargs : Array Value} {r : AV}, S.ext f = some g → (g args).run s = some (r, s') → WR P base C s.h.get w.heap → P.globals.size ≤ s.n → Fresh C s.n s'.n →
    VRs C args cargs.toList → UponR P (PostV P base C s s' w r) ((callFunc f cargs).run P w)
  dext : ∀ {C : CMap} {s s' : St} {w : World} {f : FuncId} {g : List AV → M AV} {args : List AV} {cargs : Array Value} {r : AV}, S.dext f = some g → (g args).run s = some (r, s') → WR P base C s.h.get w.heap → P.globals.size ≤ s.n → Fresh C s.n s'.n →
    VRs C args cargs.toList → (callFunc f cargs).run P w = .ok (.enter f cargs) w ∧ CallsDIn Fence.wide 0 P f cargs .returning w (fun e u' w' => u' = .returning ∧ ∃ v, e = .returned v ∧ PostV P base C s s' w r v w')

theorem PostV.behind {r : AV} {v : Value} {w' : World} (hE : Ext C C1 s.n s1.n) (h1 : s.n ≤ s1.n) (h2 : s1.n ≤ s'.n) (hK : Kept base w w1) (h : PostV P base C1 s1 s' w1 r v w') : PostV P base C s s' w r v w' :=
  let ⟨C', a1, a2, a3, a4⟩ := h; ⟨C', a1, a2, hE.trans a3 h1 h2, hK.trans a4⟩

theorem resultA_ok {A : AAct} {a : Act} {x : ResultVar} {r : AV} (hw : WR P base C s.h.get w.heap) (hT : TR C A.tmps a.tmps) (h : (resultA P A x).run s = some (r, s')) :
    ∃ v, ((match x with | .tmp t => pure (a.tmps.getD t undef) | .cell c t => do loadVar t (← asAddr (a.tmps.getD c undef)) : Sem Value)).run P w = .ok v w ∧ VR C r v ∧ Same s s' := by
  have ht : ∀ t, VR C (evalA P A (.tmp t)) (a.tmps.getD t undef) := fun t => evalA_ok (a := a) hw.glob hT (.tmp t)
  unfold resultA at h
  cases x with
  | tmp t =>
    simp only [M.run_pure'] at h
    obtain ⟨rfl, rfl⟩ := h
    exact ⟨_, rfl, ht t, Same.refl _⟩
  | cell t ty =>
    simp only at h ⊢
    have hv := ht t
    split at h
    · rename_i id off hev
      rw [hev] at hv
      obtain ⟨i, hi, e⟩ := hv.ptr_inv
      obtain ⟨j, v, hj, e1, e2, e3⟩ := loadA_ok hw h
      rw [hi] at hj; injection hj with hj; subst hj
      exact ⟨v, by simp only [Sem.run_bind, e, asAddr, Sem.run_pure, Result.andThen_ok, e1], e2, e3⟩
    · simp at h
theorem resultsFrom_ok {A : AAct} {a : Act} : ∀ {l : List ResultVar} {s s' : St} {rs : List AV}, WR P base C s.h.get w.heap → TR C A.tmps a.tmps → (resultsFrom P A l).run s = some (rs, s') →
    ∃ vs : List Value, (l.mapM (m := Sem) (fun | .tmp t => pure (a.tmps.getD t undef) | .cell c t => do loadVar t (← asAddr (a.tmps.getD c undef)))).run P w = .ok vs w ∧ VRs C rs vs ∧ Same s s' := by
  intro l
  induction l with
  | nil =>
    intro s s' rs hw hT h
    simp only [resultsFrom, M.run_pure'] at h
    obtain ⟨rfl, rfl⟩ := h
    exact ⟨[], rfl, VRs.nil, Same.refl _⟩
  | cons x l ih =>
    intro s s' rs hw hT h
    simp only [resultsFrom, M.run_bind', M.run_pure'] at h
    obtain ⟨v, s1, h1, vs, s2, h2, rfl, rfl⟩ := h
    obtain ⟨cv, e1, e2, e3⟩ := resultA_ok (a := a) hw hT h1
    obtain ⟨cvs, g1, g2, g3⟩ := ih (hw.same e3) hT h2
    refine ⟨cv :: cvs, ?_, VRs.cons.2 ⟨e2, g2⟩, e3.trans g3⟩
    rw [List.mapM_cons]
    cases x <;> simp only at e1 ⊢ <;> rw [Sem.run_bind, e1] <;> simp only [Result.andThen_ok, Sem.run_bind, g1, Sem.run_pure]
theorem results_ok {fn : Func} {A : AAct} {a : Act} {r : AV} (hw : WR P base C s.h.get w.heap) (hT : TR C A.tmps a.tmps) (h : (resultsA P A fn.results.toList).run s = some (r, s')) :
    ∃ v, (results fn a.tmps).run P w = .ok v w ∧ VR C r v ∧ Same s s' := by
  simp only [resultsA, M.run_bind', M.run_pure'] at h
  obtain ⟨rs, s1, h1, rfl, rfl⟩ := h
  obtain ⟨vs, e1, e2, e3⟩ := resultsFrom_ok (a := a) hw hT h1
  have hm : (fn.results.mapM (m := Sem) (fun | .tmp t => pure (a.tmps.getD t undef) | .cell c t => do loadVar t (← asAddr (a.tmps.getD c undef)))).run P w = .ok vs.toArray w := by
    rw [Array.mapM_eq_mapM_toList, Sem.run_map, e1]; rfl
  have hm2 : (results fn a.tmps).run P w = ((fn.results.mapM (m := Sem) (fun | .tmp t => pure (a.tmps.getD t undef) | .cell c t => do loadVar t (← asAddr (a.tmps.getD c undef)))) >>= fun vs => pure (if h : vs.size = 1 then vs[0] else .tuple vs)).run P w := rfl
  rw [hm2, Sem.run_bind, hm]
  simp only [Result.andThen_ok, Sem.run_pure]
  refine ⟨_, rfl, ?_, e3⟩
  cases rs with
  | nil => simp only [VRs] at e2; subst e2; exact ⟨#[], rfl, VRs.nil⟩
  | cons x rs =>
    simp only [VRs] at e2
    obtain ⟨v, vs', rfl, hh1, h2⟩ := e2
    cases rs with
    | nil => simp only [VRs] at h2; subst h2; exact hh1
    | cons y rs =>
      have h3 := h2
      simp only [VRs] at h3
      obtain ⟨v2, vs2, rfl, _, _⟩ := h3
      rw [dif_neg (by simp)]
      exact ⟨_, rfl, VRs.cons.2 ⟨hh1, h2⟩⟩

theorem enter_FR {args : List AV} {cargs : Array Value} {n : Nat} (h : VRs C args cargs.toList) : FR C ⟨max n args.length, putFrom .leaf 0 args, []⟩ { tmps := cargs ++ Array.replicate (n - cargs.size) undef, defers := [] } := by
  have hl := h.length
  rw [Array.length_toList] at hl
  refine ⟨?_, fun k => ?_, rfl⟩
  · simp only [Array.size_append, Array.size_replicate, hl]; omega
  · simp only [putFrom_get, Nat.zero_le, true_and, Nat.zero_add, Nat.sub_zero, T.get_leaf, Array.getD_eq_getD_getElem?]
    by_cases hk : k < args.length
    · rw [if_pos hk]
      have ha : args[k]? = some args[k] := List.getElem?_eq_getElem hk
      obtain ⟨v, hv, hr⟩ := h.get ha
      have hv' : cargs[k]? = some v := by simpa using hv
      rw [Array.getElem?_append_left (by omega), hv', ha]
      exact hr
    · rw [if_neg hk]
      rw [Array.getElem?_append_right (by omega), Array.getElem?_replicate]
      have e : (if k - cargs.size < n - cargs.size then some undef else none).getD undef = undef := by split <;> rfl
      rw [e]; exact VR.mk_undef

theorem s_takeDeferred {l : Nat} (h : w.heap[l]? = some (.deferred (some []))) : (Instr.takeDeferred l).run P w = .ok [] (World.setBlk w l (.deferred none)) := by
  simp [Instr.takeDeferred, run_getObj' h (by simp), run_setObj' h (by simp)]
theorem WR.setMarks (hw : WR P base C s.h.get w.heap) {id : Nat} (h : s.h.get id = some (.marks true)) {u : Unit} (hp : (put id (some (.marks false))).run s = some (u, s')) {i : RI} (hi : C id = some i) :
    w.heap[i.blk]? = some (.deferred (some [])) ∧ WR P base C s'.h.get (World.setBlk w i.blk (.deferred none)).heap ∧ s'.n = s.n ∧ Kept base w (World.setBlk w i.blk (.deferred none)) := by
  obtain ⟨j, hj, hr⟩ := hw.obj id _ h
  rw [hi] at hj; injection hj with hj; subst hj
  simp only [OR, if_true] at hr
  have hG : P.globals.size ≤ id := by
    rcases Nat.lt_or_ge id P.globals.size with hlt | hge
    · have := hw.low id _ h hlt; simp [AObj.still] at this
    · exact hge
  rw [run_put] at hp
  obtain ⟨_, rfl⟩ := hp
  refine ⟨hr, ?_, rfl, setBlk_kept (hw.high id i hG hi)⟩
  have := WR.update (i := i) (o' := .marks false) (H' := (World.setBlk w i.blk (.deferred none)).heap) hw h hi rfl (fun b hb' => setBlk_heap_ne hb') (by simp [setBlk_size]) (by simp [OR, setBlk_heap_self hr])
  refine this.congr fun q => ?_
  simp only [T.get_set]
theorem wide_leads {f : FuncId} : Fence.wide.fn f := trivial

theorem leaveA_ok {S : Sums} {F : Fns} (hF : FnsOK P base F) (hS : SumsOK P base S) (hN : NoCount P) {fn : Func} {tmps : Array Value} {R : Ending → World → Prop} : ∀ {l : List ADef} {C : CMap} {s s' : St} {w : World} {ds : List Deferred} {u : Unit}, (leaveA P S F l).run s = some (u, s') → WR P base C s.h.get w.heap → P.globals.size ≤ s.n → Fresh C s.n s'.n → DRs C l ds →
    (∀ C' w', WR P base C' s'.h.get w'.heap → Ext C C' s.n s'.n → Kept base w w' → ∃ v, (results fn tmps).run P w' = .ok v w' ∧ R (.returned v) w') → LeavesInM Fence.wide 0 P fn tmps R ds .returning w := by
  intro l
  induction l with
  | nil =>
    intro C s s' w ds u h hw hG hf hd hR
    simp only [DRs] at hd
    subst hd
    simp only [leaveA, M.run_pure'] at h
    obtain ⟨_, rfl⟩ := h
    exact hR C w hw (fun _ _ => rfl) (Kept.refl ..)
  | cons d l ih =>
    intro C s s' w ds u h hw hG hf hd hR
    simp only [DRs] at hd
    obtain ⟨cd, cds, rfl, hd1, hd2⟩ := hd
    simp only [leaveA, M.run_bind'] at h
    obtain ⟨u1, s1, h1, h2⟩ := h
    have l1 := M.le _ h1
    have l2 := M.le _ h2
    have go : ∀ C' w', WR P base C' s1.h.get w'.heap → Ext C C' s.n s1.n → Kept base w w' → LeavesInM Fence.wide 0 P fn tmps R cds .returning w' := by
      intro C' w' k1 k2 k3
      refine ih h2 k1 (by omega) (hf.right k2 l1) (hd2.mono (k2.le (hf.left l2))) fun C2 w2 g1 g2 g3 => ?_
      exact hR C2 w2 g1 (k2.trans g2 l1 l2) (k3.trans g3)
    refine ⟨by simp, ?_⟩
    obtain ⟨mark, dfn, args, cap⟩ := d
    cases mark with
    | some id =>
      simp only [DR] at hd1
      obtain ⟨i, hi, e⟩ := hd1
      simp only [M.run_bind', run_rd] at h1
      obtain ⟨o, s2, ⟨ho, rfl⟩, h1⟩ := h1
      split at h1
      · obtain ⟨a1, a2, a3, a4⟩ := WR.setMarks (s := ⟨s.h, s.n, s.f ||| bit id, s.w⟩) hw ho h1 hi
        exact .inl ⟨i.blk, _, e, s_takeDeferred a1, go C _ a2 (fun _ _ => rfl) a4⟩
      · simp at h1
    | none =>
      simp only [DR] at hd1
      obtain ⟨f, ccap, rfl, e, hargs, hcap⟩ := hd1
      simp only at h1
      have hall : VRs C (args ++ cap) (cd.args ++ ccap).toList := by rw [Array.toList_append]; exact hargs.append hcap
      have key : ∀ R' : Ending → World → Prop, (callFunc f (cd.args ++ ccap)).run P w = .ok (.enter f (cd.args ++ ccap)) w → CallsDIn Fence.wide 0 P f (cd.args ++ ccap) .returning w (fun e u' w' => u' = .returning ∧ R' e w') → (∀ e w', R' e w' → ∃ v, e = .returned v ∧ LeavesInM Fence.wide 0 P fn tmps R cds .returning w') →
          (∃ r w', cd.target = .collected r ∧ (Instr.takeDeferred r).run P w = .ok [] w' ∧ LeavesInM Fence.wide 0 P fn tmps R cds .returning w') ∨
       ((Fence.wide.depth.isSome = true → 1 ≤ 0) ∧ ∃ fv cap f args, cd.target = .fn fv cap ∧ (invoke cd.target cd.args).run P w = .ok (.enter f args) w ∧ (∀ g, cd.target.leads P w cd.args = some g → Fence.wide.fn g) ∧
        CallsDIn Fence.wide (0 - 1) P f args .returning w fun
          | .returned _, u', w' => LeavesInM Fence.wide 0 P fn tmps R cds (settle u') w'
          | .panicked chain, u', w' => LeavesInM Fence.wide 0 P fn tmps R cds (raised u' chain) w'
          | .outgrown, _, w' => R .outgrown w') := by
        intro R' hcf hc hR'
        refine .inr ⟨fun h => by simp [Fence.wide] at h, .func f, ccap, f, cd.args ++ ccap, e, ?_, fun _ _ => trivial, ?_⟩
        · rw [e]; exact hcf
        · refine CallsDIn.mono hc fun e2 u2 w2 ⟨hu, hr⟩ => ?_
          obtain ⟨v, rfl, hl⟩ := hR' _ _ hr
          subst hu
          exact hl
      split at h1
      · rename_i g hg
        simp only [M.run_bind', M.run_pure'] at h1
        obtain ⟨r, s2, hr, _, rfl⟩ := h1
        obtain ⟨k1, k2⟩ := hS.dext hg hr hw hG (hf.left l2) hall
        exact key _ k1 k2 fun e2 w2 ⟨v, hv, C', _, p1, p2, p3⟩ => ⟨v, hv, go C' w2 p1 p2 p3⟩
      · unfold plainCall at h1
        simp only [run_opt, M.run_bind'] at h1
        obtain ⟨fnd, hfn, c, hc, ⟨e1, A1⟩, s2, hcode, h1⟩ := h1
        have hcc := hF.code hcode hw hG ?_ (enter_FR (n := fnd.ntmps) hall) (rd := none) (ro := none) rfl
        · have hcf : (callFunc f (cd.args ++ ccap)).run P w = .ok (.enter f (cd.args ++ ccap)) w := hasBody_ok hN (by simp [hasBody, hfn, hc])
          refine key (fun e2 w2 => ∃ v, e2 = .returned v ∧ LeavesInM Fence.wide 0 P fn tmps R cds .returning w2) hcf ?_ (fun _ _ h => h)
          refine callsDIn_of_wp hfn hc trivial (wpIn_mono hcc ?_)
          rintro e3 a3 w3 ⟨hx, C3, c1, c2, c3, c4⟩
          have hres : ∀ {ds : List ADef}, A1.defers = ds → (match ds with | [] => chk fnd.results.isEmpty (M.pure ()) | _ => M.fail : M Unit).run s2 = some (u1, s1) → a3.defers = [] ∧ ∃ v, (results fnd a3.tmps).run P w3 = .ok v w3 ∧ ∃ v', Ending.returned v = .returned v' ∧ LeavesInM Fence.wide 0 P fn tmps R cds .returning w3 := by
            intro ds hds h1
            cases ds with
            | nil =>
              simp only [run_chk, M.run_pure'] at h1
              obtain ⟨he, _, rfl⟩ := h1
              have hd3 := c1.defers
              rw [hds] at hd3
              refine ⟨hd3, .tuple #[], ?_, _, rfl, go C3 w3 c2 c3 c4⟩
              have : fnd.results = #[] := by simpa using he
              simp [results, this]
            | cons d ds => simp at h1
          obtain ⟨sz1, t1, d1⟩ := A1
          cases e1 with
          | normal => cases e3 <;> simp only [exitR] at hx; exact hres rfl (by cases d1 <;> exact h1)
          | ret => cases e3 <;> simp only [exitR] at hx; exact hres rfl (by cases d1 <;> exact h1)
          | exit id => simp at h1
        · refine hf.left ?_
          have : s2.n ≤ s1.n := by
            revert h1
            obtain ⟨sz1, t1, d1⟩ := A1
            cases e1 <;> cases d1 <;> intro h1 <;> exact M.le _ h1
          omega

theorem enterA_ok {S : Sums} {F : Fns} (hF : FnsOK P base F) (hS : SumsOK P base S) (hN : NoCount P) {f : FuncId} {args : List AV} {cargs : Array Value} {r : AV} (h : (enterA P S F f args).run s = some (r, s')) (hw : WR P base C s.h.get w.heap) (hG : P.globals.size ≤ s.n) (hf : Fresh C s.n s'.n)
    (hargs : VRs C args cargs.toList) : UponR P (PostV P base C s s' w r) ((callFunc f cargs).run P w) := by
  unfold enterA at h
  split at h
  · rename_i g hg
    exact hS.ext hg h hw hG hf hargs
  · simp only [run_opt, M.run_bind'] at h
    obtain ⟨fn, hfn, c, hc, ⟨e, A1⟩, s1, hcode, h⟩ := h
    rw [hasBody_ok hN (by simp [hasBody, hfn, hc])]
    simp only [UponR]
    have hrest : e = .normal ∨ e = .ret := by
      cases e with
      | normal => exact .inl rfl
      | ret => exact .inr rfl
      | exit id => simp at h
    have h' : ((leaveA P S F A1.defers).bind fun _ => resultsA P A1 fn.results.toList).run s1 = some (r, s') := by
      rcases hrest with rfl | rfl <;> exact h
    simp only [M.run_bind'] at h'
    obtain ⟨u, s2, hleave, hres⟩ := h'
    have l1 := M.le _ hcode
    have l2 := M.le _ hleave
    have l3 := M.le _ hres
    refine callsIn_of_wp_marks hfn hc trivial (wpIn_mono (hF.code hcode hw hG (hf.left (by omega)) (enter_FR (n := fn.ntmps) hargs) (rd := none) (ro := none) rfl) ?_)
    rintro e3 a3 w3 ⟨hx, C3, c1, c2, c3, c4⟩
    have hlv : LeavesInM Fence.wide 0 P fn a3.tmps (Ends (PostV P base C s s' w r)) a3.defers .returning w3 := by
      refine leaveA_ok hF hS hN hleave c2 (by omega) ((hf.left (by omega)).right c3 l1) c1.defers fun C4 w4 g1 g2 g3 => ?_
      have hle4 := g2.le ((hf.left (by omega : s2.n ≤ s'.n)).right c3 l1)
      obtain ⟨v, k1, k2, k3⟩ := results_ok (a := a3) g1 (c1.tmps.mono hle4) hres
      refine ⟨v, k1, C4, k2, g1.same k3, ?_, c4.trans g3⟩
      rw [k3.2]
      exact c3.trans g2 l1 l2
    rcases hrest with rfl | rfl
    · cases e3 <;> simp only [exitR] at hx; exact hlv
    · cases e3 <;> simp only [exitR] at hx; exact hlv

theorem fns_ok {S : Sums} (hS : SumsOK P base S) (hmix : P.follows .mixedOrders = true) (hN : NoCount P) : ∀ n, FnsOK P base (fns P S n)
  | 0 => ⟨fun {_ s _ _ _ _ _ r} h => by have h : (M.fail : M AV).run s = _ := h; simp at h, fun {_ s _ _ _ _ _ _ _ _ _} h => by have h : (M.fail : M (AExit × AAct)).run s = _ := h; simp at h,
      fun {_ s _ _ _ _ _ _ _ _ _} h => by have h : (M.fail : M (AExit × AAct)).run s = _ := h; simp at h⟩
  | n + 1 => by
    have ih := fns_ok hS hmix hN n
    refine ⟨fun h hw hG hf ha => enterA_ok ih hS hN h hw hG hf ha, fun h hw hG hf hfr hro => codeA_ok ih hmix hN h hw hG hf hfr hro, fun h hw hG hf hfr hro => codeLoop_ok ih h hw hG hf hfr hro⟩
end
end Go.Mach
end
section
/-! A function that is run by itself, at nothing but the program's variables, is a summary. -/
set_option linter.unusedSimpArgs false
set_option linter.unusedVariables false
namespace Go.Mach
open Go

mutual
/-- Values without names. -/
def AV.plain : AV → Bool
  | .ptr _ _ | .slice _ _ _ _ | .map _ | .func _ _ _ => false
  | .iface _ v => v.plain
  | .agg l | .tuple l => plains l
  | _ => true
def plains : List AV → Bool
  | [] => true
  | v :: l => v.plain && plains l
end
mutual
theorem VR.of_plain {C C' : CMap} : ∀ (a : AV) (v : Value), a.plain = true → VR C a v → VR C' a v
  | .bool b, v, _, hv | .int k n, v, _, hv | .str s, v, _, hv | .nilPtr, v, _, hv | .nilSlice, v, _, hv | .nilMap, v, _, hv | .nilFunc, v, _, hv | .nilIface, v, _, hv | .unk, v, _, hv | .strG _ _, v, _, hv | .intG _ _, v, _, hv | .slice0, v, _, hv | .intU, v, _, hv => by
    simp only [VR] at hv ⊢; exact hv
  | .ptr id off, v, h, _ | .slice id off len cap, v, h, _ | .map id, v, h, _ | .func fn a b, v, h, _ => by simp [AV.plain] at h
  | .iface t x, v, h, hv => by
    simp only [AV.plain] at h
    simp only [VR] at hv ⊢
    obtain ⟨y, e, h1⟩ := hv
    exact ⟨y, e, VR.of_plain _ _ h h1⟩
  | .agg cs, v, h, hv => by
    simp only [AV.plain] at h
    simp only [VR] at hv ⊢
    obtain ⟨l, e, h1⟩ := hv
    exact ⟨l, e, VRs.of_plain _ _ h h1⟩
  | .tuple cs, v, h, hv => by
    simp only [AV.plain] at h
    simp only [VR] at hv ⊢
    obtain ⟨l, e, h1⟩ := hv
    exact ⟨l, e, VRs.of_plain _ _ h h1⟩
theorem VRs.of_plain {C C' : CMap} : ∀ (as : List AV) (l : List Value), plains as = true → VRs C as l → VRs C' as l
  | [], l, _, hv => by simp only [VRs] at hv ⊢; exact hv
  | a :: as, l, h, hv => by
    simp only [plains, Bool.and_eq_true] at h
    simp only [VRs] at hv ⊢
    obtain ⟨v, vs, e, h1, h2⟩ := hv
    exact ⟨v, vs, e, VR.of_plain _ _ h.1 h1, VRs.of_plain _ _ h.2 h2⟩
end

section
variable {P : Program} {base : Nat} {C : CMap} {s s' : St} {w : World}

/-- The names of the program's variables alone. -/
def globOf (P : Program) (C : CMap) : CMap := fun id => if id < P.globals.size then C id else none
theorem WR.globs (hw : WR P base C s.h.get w.heap) {h0 : T AObj} (hcov : ∀ id o, h0.get id = some o → id < P.globals.size ∧ o.still = true ∧ ∃ i, C id = some i ∧ OR P (globOf P C) w.heap i o) : WR P w.heap.size (globOf P C) h0.get w.heap := by
  refine ⟨fun g hg => ?_, fun id o ho => ?_, fun id id' o o' i i' ho ho' hi hi' e => ?_, fun id i hid hi => ?_, fun id o ho _ => (hcov id o ho).2.1, Nat.le_refl _⟩
  · obtain ⟨i, hi, h1⟩ := hw.glob g hg
    exact ⟨i, by simp [globOf, hg, hi], h1⟩
  · obtain ⟨h1, _, i, hi, h3⟩ := hcov id o ho
    exact ⟨i, by simp [globOf, h1, hi], h3⟩
  · obtain ⟨h1, _⟩ := hcov id o ho
    obtain ⟨h1', _⟩ := hcov id' o' ho'
    simp only [globOf, h1, h1', if_true] at hi hi'
    obtain ⟨j, hj, e1, _⟩ := hw.glob id h1
    obtain ⟨j', hj', e1', _⟩ := hw.glob id' h1'
    rw [hi] at hj; injection hj with hj; subst hj
    rw [hi'] at hj'; injection hj' with hj'; subst hj'
    rw [← e1, ← e1', e]
  · simp only [globOf, show ¬ id < P.globals.size by omega, if_false] at hi; cases hi
theorem globOf_fresh (C : CMap) (n n' : Nat) (h : P.globals.size ≤ n) : Fresh (globOf P C) n n' := fun id h1 _ => by
  simp [globOf, show ¬ id < P.globals.size by omega]
theorem globOf_le (C : CMap) : (globOf P C).le C := fun id i h => by
  simp only [globOf] at h
  split at h
  · exact h
  · cases h

/-- A call at known arguments that yields a value without names. -/
theorem sum_plain {F : Fns} (hF : FnsOK P w.heap.size F) {f : FuncId} {args : List AV} {cargs : Array Value} {h0 : T AObj} {r : AV} {s1 : St} (hrun : (F.call f args).run ⟨h0, P.globals.size, 0, 0⟩ = some (r, s1)) (hr : r.plain = true)
    (hw : WR P base C s.h.get w.heap) (hcov : ∀ id o, h0.get id = some o → id < P.globals.size ∧ o.still = true ∧ ∃ i, C id = some i ∧ OR P (globOf P C) w.heap i o) (ha : VRs (globOf P C) args cargs.toList) (hs : Same s s') :
    UponR P (PostV P base C s s' w r) ((callFunc f cargs).run P w) := by
  have h := hF.call (C := globOf P C) (s := ⟨h0, P.globals.size, 0, 0⟩) hrun (hw.globs hcov) (Nat.le_refl _) (globOf_fresh C _ _ (Nat.le_refl _)) ha
  refine h.mono ?_
  rintro v w' ⟨C', h1, h2, h3, h4⟩
  refine ⟨C, VR.of_plain _ _ hr h1, ?_, fun _ _ => rfl, ⟨h4.os, h4.tape, h4.output, h4.size, fun b hb => h4.below b (Nat.lt_of_lt_of_le hb hw.base)⟩⟩
  have hws := hw.same hs
  refine ⟨hws.glob, fun id o ho => ?_, hws.inj, hws.high, hws.low, Nat.le_trans hw.base h4.size⟩
  obtain ⟨i, hi, hr⟩ := hws.obj id o ho
  exact ⟨i, hi, hr.congr (h4.below _ hr.lt)⟩

/-- A call at known arguments that yields a new slice of values without names. -/
theorem sum_slice {F : Fns} (hF : FnsOK P w.heap.size F) {f : FuncId} {args : List AV} {cargs : Array Value} {h0 : T AObj} {s1 : St} {id n len : Nat} {cap : Cap} {c : T AV} {elem : TypeId} {ro g : Bool} (hrun : (F.call f args).run ⟨h0, P.globals.size, 0, 0⟩ = some (.slice id 0 n cap, s1)) (hid : s1.h.get id = some (.cells c len elem ro g))
    (hG : P.globals.size ≤ id) {l : List AV} (hl : l.length = len) (hcl : ∀ k a, l[k]? = some a → c.get k = some a) (hpl : plains l = true) (hro : ro = false)
    (hw : WR P base C s.h.get w.heap) (hGs : P.globals.size ≤ s.n) (hf : Fresh C s.n s'.n) (hcov : ∀ id o, h0.get id = some o → id < P.globals.size ∧ o.still = true ∧ ∃ i, C id = some i ∧ OR P (globOf P C) w.heap i o) (ha : VRs (globOf P C) args cargs.toList) {m : Nat} {s0 : St} (hs : Same s s0) (hs' : (newCells elem l g).run s0 = some (m, s')) :
    UponR P (PostV P base C s s' w (.slice m 0 n cap)) ((callFunc f cargs).run P w) := by
  have h := hF.call (C := globOf P C) (s := ⟨h0, P.globals.size, 0, 0⟩) hrun (hw.globs hcov) (Nat.le_refl _) (globOf_fresh C _ _ (Nat.le_refl _)) ha
  refine h.mono ?_
  rintro v w' ⟨C', h1, h2, h3, h4⟩
  simp only [newCells, run_new] at hs'
  obtain ⟨k1, rfl, rfl⟩ := hs'
  have hn : s0.n = s.n := hs.2
  have hws := hw.same hs
  simp only [VR] at h1
  obtain ⟨i, k, hi, rfl, hcap⟩ := h1
  obtain ⟨i', hi', hor⟩ := h2.obj id _ hid
  rw [hi] at hi'; injection hi' with hi'; subst hi'
  simp only at hf
  have hnone : C s0.n = none := hf s0.n (by omega) (by omega)
  have hle : C.le (fun j => if j = s0.n then some i else C j) := fun id k hk => by
    by_cases e : id = s0.n
    · subst e; rw [hnone] at hk; cases hk
    · simp only [e, if_false]; exact hk
  have hib : w.heap.size ≤ i.blk := h2.high id i hG hi
  refine ⟨fun j => if j = s0.n then some i else C j, ?_, ?_, ?_, ⟨h4.os, h4.tape, h4.output, h4.size, fun b hb => h4.below b (Nat.lt_of_lt_of_le hb hw.base)⟩⟩
  · simp only [VR]
    exact ⟨i, k, by simp, rfl, hcap⟩
  · refine WR.congr (h := fun j => if j = s0.n then some (.cells (putFrom .leaf 0 l) l.length elem false g) else s0.h.get j) ?_ (fun j => by simp only [T.get_set])
    refine ⟨fun q hq => ?_, fun j o ho => ?_, fun j j' o o' y y' ho ho' hy hy' e => ?_, fun j y hj hy => ?_, fun j o ho hlt => ?_, Nat.le_trans hw.base h4.size⟩
    · obtain ⟨y, hy, e⟩ := hw.glob q hq
      exact ⟨y, hle _ _ hy, e⟩
    · by_cases e : j = s0.n
      · subst e
        simp only [if_true, Option.some.injEq] at ho
        subst ho
        refine ⟨i, by simp, ?_⟩
        obtain ⟨arr, fz, a1, a2, a3, a4, a5, a6⟩ := hor
        refine ⟨arr, fz, a1, a2, by rw [hl]; exact a3, fun k a hk ha => ?_, fun _ => a5 hro, by rw [hl]; exact a6⟩
        rw [putFrom_get] at ha
        simp only [Nat.zero_le, true_and, Nat.zero_add, hk, if_true, Nat.sub_zero] at ha
        obtain ⟨v, hv, hvr⟩ := a4 k a (by omega) (hcl k a ha)
        refine ⟨v, hv, VR.of_plain _ _ ?_ hvr⟩
        have : ∀ (l : List AV) (k : Nat) (a : AV), plains l = true → l[k]? = some a → a.plain = true := by
          intro l
          induction l with
          | nil => intro k a _ h; simp at h
          | cons x l ih =>
            intro k a hp h
            simp only [plains, Bool.and_eq_true] at hp
            cases k with
            | zero => simp at h; subst h; exact hp.1
            | succ k => exact ih k a hp.2 (by simpa using h)
        exact this l k a hpl ha
      · simp only [e, if_false] at ho
        obtain ⟨y, hy, hr⟩ := hws.obj j o ho
        exact ⟨y, hle _ _ hy, (hr.congr (h4.below _ hr.lt)).mono hle⟩
    · by_cases e1 : j = s0.n
      · by_cases e2 : j' = s0.n
        · rw [e1, e2]
        · subst e1
          simp only [e2, if_false, if_true, Option.some.injEq] at ho ho' hy hy'
          subst hy
          obtain ⟨z, hz, hr⟩ := hws.obj j' o' ho'
          rw [hz] at hy'; injection hy' with hy'; subst hy'
          have := hr.lt
          omega
      · by_cases e2 : j' = s0.n
        · subst e2
          simp only [e1, if_false, if_true, Option.some.injEq] at ho ho' hy hy'
          subst hy'
          obtain ⟨z, hz, hr⟩ := hws.obj j o ho
          rw [hz] at hy; injection hy with hy; subst hy
          have := hr.lt
          omega
        · simp only [e1, e2, if_false] at ho ho' hy hy'
          exact hws.inj j j' o o' y y' ho ho' hy hy' e
    · by_cases e : j = s0.n
      · subst e
        simp only [if_true, Option.some.injEq] at hy
        subst hy
        exact Nat.le_trans hw.base hib
      · simp only [e, if_false] at hy
        exact hw.high j y hj hy
    · by_cases e : j = s0.n
      · omega
      · simp only [e, if_false] at ho
        exact hws.low j o ho hlt
  · intro j hj
    simp only at hj
    have : j ≠ s0.n := by rintro rfl; exact hj ⟨by omega, by omega⟩
    simp [this]
end
end Go.Mach
end
section
/-! The model's entries for functions without bodies. -/
set_option linter.unusedSimpArgs false
set_option linter.unusedVariables false
namespace Go.Mach
open Go

/-- Entries that the machine knows. -/
inductive ExtKind where
  | idx | cnt | cmp | same

def idxZ : List Nat → Nat → Int
  | [], _ => -1
  | b :: l, c => bif Nat.beq b c then 0 else match idxZ l c with
    | .ofNat n => .ofNat (n + 1)
    | .negSucc n => .negSucc n
def cntZ : List Nat → Nat → Nat
  | [], _ => 0
  | b :: l, c => bif Nat.beq b c then cntZ l c + 1 else cntZ l c
def cmpZ : List Nat → List Nat → Int
  | [], [] => 0
  | [], _ :: _ => -1
  | _ :: _, [] => 1
  | a :: x, b :: y => bif Nat.blt a b then -1 else bif Nat.blt b a then 1 else cmpZ x y
noncomputable def extK : ExtKind → List AV → M AV
  | .idx, [.str s, .int .u8 (.ofNat c)] => chk (Nat.blt c 256) (M.pure (.int .i64 (idxZ s c)))
  | .cnt, [.str s, .int .u8 (.ofNat c)] => chk (Nat.blt c 256) (M.pure (.int .i64 (Int.ofNat (cntZ s c))))
  | .cmp, [.str a, .str b] => M.pure (.int .i64 (cmpZ a b))
  | .same, [x] => M.pure x
  | _, _ => M.fail
def rowK : ExtKind → Array Value → Sem Value
  | .idx => Extern.BytealgIndexByte.indexByte
  | .cnt => Extern.BytealgCount.count
  | .cmp => Extern.BytealgCompare.compare
  | .same => Extern.AbiNoEscape.same

theorem idxZ_ok (c : Nat) (hc : c < 256) : ∀ l : List UInt8, Lib.indexByte l (Int.ofNat c).toNat.toUInt8 = idxZ (l.map (·.toNat)) c
  | [] => rfl
  | b :: l => by
    have ih := idxZ_ok c hc l
    unfold Lib.indexByte
    simp only [List.map_cons, idxZ]
    have hb : (b == (Int.ofNat c).toNat.toUInt8) = Nat.beq b.toNat c := by
      rw [Bool.eq_iff_iff, beq_iff_eq]
      show _ ↔ Nat.beq b.toNat c = true
      rw [Nat.beq_eq]
      constructor
      · rintro rfl
        show (UInt8.ofNat c).toNat = c
        rw [UInt8.toNat_ofNat']; omega
      · intro h
        apply UInt8.toNat_inj.1
        rw [h]
        show c = (UInt8.ofNat c).toNat
        rw [UInt8.toNat_ofNat']; omega
    rw [hb]
    cases Nat.beq b.toNat c with
    | true => rfl
    | false =>
      simp only [Bool.false_eq_true, if_false, cond_false]
      rw [ih]
      have hge : -1 ≤ Lib.indexByte l (Int.ofNat c).toNat.toUInt8 := Lib.indexByte_ge _ _
      rw [ih] at hge
      cases hz : idxZ (l.map (·.toNat)) c with
      | ofNat n =>
        have : (Int.ofNat n == -1) = false := by rw [beq_eq_false_iff_ne]; intro h; cases h
        rw [this]
        rfl
      | negSucc n =>
        rw [hz] at hge
        have : n = 0 := by omega
        subst this
        rfl
theorem cntZ_ok (c : Nat) (hc : c < 256) : ∀ l : List UInt8, Lib.countByte l (Int.ofNat c).toNat.toUInt8 = cntZ (l.map (·.toNat)) c
  | [] => rfl
  | b :: l => by
    have ih := cntZ_ok c hc l
    unfold Lib.countByte at ih ⊢
    simp only [List.map_cons, cntZ, List.count_cons]
    have hb : (b == (Int.ofNat c).toNat.toUInt8) = Nat.beq b.toNat c := by
      rw [Bool.eq_iff_iff, beq_iff_eq]
      show _ ↔ Nat.beq b.toNat c = true
      rw [Nat.beq_eq]
      constructor
      · rintro rfl
        show (UInt8.ofNat c).toNat = c
        rw [UInt8.toNat_ofNat']; omega
      · intro h
        apply UInt8.toNat_inj.1
        rw [h]
        show c = (UInt8.ofNat c).toNat
        rw [UInt8.toNat_ofNat']; omega
    rw [hb, ih]
    cases Nat.beq b.toNat c <;> simp
theorem cmpZ_ok : ∀ a b : List UInt8, Lib.compareBytes a b = cmpZ (a.map (·.toNat)) (b.map (·.toNat))
  | [], [] => rfl
  | [], _ :: _ => rfl
  | _ :: _, [] => rfl
  | x :: a, y :: b => by
    have ih := cmpZ_ok a b
    simp only [Lib.compareBytes, List.map_cons, cmpZ, ih]
    have h : ∀ x y : UInt8, decide (x < y) = Nat.blt x.toNat y.toNat := fun x y => by
      rw [Bool.eq_iff_iff, decide_eq_true_eq, UInt8.lt_iff_toNat_lt]
      exact ⟨fun h => Nat.ble_eq_true_of_le h, fun h => Nat.le_of_ble_eq_true h⟩
    rw [← h, ← h]
    by_cases h1 : x < y
    · simp [h1]
    · by_cases h2 : y < x <;> simp [h1, h2]

section
variable {P : Program} {base : Nat} {C : CMap} {s s' : St} {w : World}

theorem extK_ok {k : ExtKind} {args : List AV} {cargs : Array Value} {r : AV} (hw : WR P base C s.h.get w.heap) (ha : VRs C args cargs.toList) (h : (extK k args).run s = some (r, s')) :
    ∃ v w', (rowK k cargs).run P w = .ok v w' ∧ PostV P base C s s' w r v w' := by
  have keep : ∀ {v : Value}, VR C r v → s' = s → PostV P base C s s' w r v w := fun {v} hv e => by subst e; exact ⟨C, hv, hw, fun _ _ => rfl, Kept.refl ..⟩
  obtain ⟨l⟩ := cargs
  simp only at ha
  unfold extK at h
  split at h
  · rename_i bs c
    simp only [run_chk, M.run_pure'] at h
    obtain ⟨hc, rfl, rfl⟩ := h
    simp only [VRs] at ha
    obtain ⟨v1, l1, rfl, h1, v2, l2, rfl, h2, rfl⟩ := ha
    obtain ⟨b, rfl, rfl⟩ := h1.str_inv
    have := h2.int_inv; subst this
    have e := Lib.run_indexByteString (P := P) b (Int.ofNat c) w
    rw [idxZ_ok _ (Nat.le_of_ble_eq_true hc)] at e
    exact ⟨_, _, e, keep (VR.mk_int _ _) rfl⟩
  · rename_i bs c
    simp only [run_chk, M.run_pure'] at h
    obtain ⟨hc, rfl, rfl⟩ := h
    simp only [VRs] at ha
    obtain ⟨v1, l1, rfl, h1, v2, l2, rfl, h2, rfl⟩ := ha
    obtain ⟨b, rfl, rfl⟩ := h1.str_inv
    have := h2.int_inv; subst this
    have e := Lib.run_countString (P := P) b (Int.ofNat c) w
    rw [cntZ_ok _ (Nat.le_of_ble_eq_true hc)] at e
    exact ⟨_, _, e, keep (VR.mk_int _ _) rfl⟩
  · simp only [M.run_pure'] at h
    obtain ⟨rfl, rfl⟩ := h
    simp only [VRs] at ha
    obtain ⟨v1, l1, rfl, h1, v2, l2, rfl, h2, rfl⟩ := ha
    obtain ⟨b, rfl, rfl⟩ := h1.str_inv
    obtain ⟨c, rfl, rfl⟩ := h2.str_inv
    have e := Lib.run_compareString (P := P) b c w
    rw [cmpZ_ok] at e
    exact ⟨_, _, e, keep (VR.mk_int _ _) rfl⟩
  · simp only [M.run_pure'] at h
    obtain ⟨rfl, rfl⟩ := h
    simp only [VRs] at ha
    obtain ⟨v1, l1, rfl, h1, rfl⟩ := ha
    exact ⟨v1, w, Lib.run_noEscape w v1, keep h1 rfl⟩
  · simp at h

/-- A function of a program is an entry. -/
def EntryOK (P : Program) (f : FuncId) (k : ExtKind) : Prop := ∃ fn, P.funcs[f]? = some fn ∧ (fn.name == "runtime.NumGoroutine") = false ∧ fn.body.isNone = true ∧ Extern.findNext fn = none ∧ Extern.find fn = some (rowK k)
theorem entry_upon {f : FuncId} {k : ExtKind} {args : List AV} {cargs : Array Value} {r : AV} (he : EntryOK P f k) (hw : WR P base C s.h.get w.heap) (ha : VRs C args cargs.toList) (h : (extK k args).run s = some (r, s')) :
    UponR P (PostV P base C s s' w r) ((callFunc f cargs).run P w) := by
  obtain ⟨fn, h1, h2, h3, h4, h5⟩ := he
  obtain ⟨v, w', e, hp⟩ := extK_ok hw ha h
  rw [run_callFunc_extern h1 h2 h3 h4 h5, e]
  exact hp

/-- A deferred function that finds nothing to recover from. -/
def IdleOK (P : Program) (f : FuncId) : Prop := ∀ (cargs : Array Value) (w : World), cargs.size = 1 → (callFunc f cargs).run P w = .ok (.enter f cargs) w ∧ CallsDIn Fence.wide 0 P f cargs .returning w (fun e u' w' => u' = .returning ∧ e = .returned (.tuple #[]) ∧ w' = w)
end
end Go.Mach
end
section
/-! Checks that the kernel runs, and what they say. -/
set_option linter.unusedSimpArgs false
set_option linter.unusedVariables false
namespace Go.Mach
open Go
noncomputable section

def eqN : List Nat → List Nat → Bool
  | [], [] => true
  | a :: x, b :: y => Nat.beq a b && eqN x y
  | _, _ => false
theorem eqN_ok : ∀ {x y : List Nat}, eqN x y = true → x = y
  | [], [], _ => rfl
  | a :: x, b :: y, h => by
    simp only [eqN, Bool.and_eq_true] at h
    rw [Nat.eq_of_beq_eq_true h.1, eqN_ok h.2]
  | [], _ :: _, h => by cases h
  | _ :: _, [], h => by cases h
/-- From a place on there are these bytes. -/
def bytesAt (c : T AV) : Nat → List Nat → Bool
  | _, [] => true
  | o, b :: l => match c.get o with
    | some (.int .u8 (.ofNat n)) => Nat.beq n b && bytesAt c (o + 1) l
    | _ => false
def byteVal (b : Nat) : AV := .int .u8 (Int.ofNat b)
theorem bytesAt_ok {c : T AV} : ∀ {l : List Nat} {o : Nat}, bytesAt c o l = true → ∀ k b, l[k]? = some b → c.get (o + k) = some (byteVal b)
  | [], o, _, k, b, h => by simp at h
  | x :: l, o, h, k, b, hk => by
    unfold bytesAt at h
    split at h
    · rename_i n hn
      simp only [Bool.and_eq_true] at h
      cases k with
      | zero =>
        simp only [List.getElem?_cons_zero, Option.some.injEq] at hk
        subst hk
        rw [Nat.add_zero, hn, Nat.eq_of_beq_eq_true h.1]; rfl
      | succ k =>
        have := bytesAt_ok h.2 k b (by simpa using hk)
        rw [← this]; congr 1; omega
    · cases h
/-- From a place on there are these texts. -/
def textsAt (c : T AV) : Nat → List (List Nat) → Bool
  | _, [] => true
  | o, b :: l => match c.get o with
    | some (.str n) => eqN n b && textsAt c (o + 1) l
    | _ => false
theorem textsAt_ok {c : T AV} : ∀ {l : List (List Nat)} {o : Nat}, textsAt c o l = true → ∀ k b, l[k]? = some b → c.get (o + k) = some (.str b)
  | [], o, _, k, b, h => by simp at h
  | x :: l, o, h, k, b, hk => by
    unfold textsAt at h
    split at h
    · rename_i n hn
      simp only [Bool.and_eq_true] at h
      cases k with
      | zero =>
        simp only [List.getElem?_cons_zero, Option.some.injEq] at hk
        subst hk
        rw [Nat.add_zero, hn, eqN_ok h.1]
      | succ k =>
        have := textsAt_ok h.2 k b (by simpa using hk)
        rw [← this]; congr 1; omega
    · cases h
def bytesL : List AV → List Nat → Bool
  | [], [] => true
  | .int .u8 (.ofNat n) :: l, b :: r => Nat.beq n b && bytesL l r
  | _, _ => false
theorem bytesL_ok : ∀ {l : List AV} {r : List Nat}, bytesL l r = true → l = r.map byteVal
  | [], [], _ => rfl
  | x :: l, [], h => by unfold bytesL at h; split at h <;> simp_all
  | [], b :: r, h => by simp [bytesL] at h
  | x :: l, b :: r, h => by
    unfold bytesL at h
    split at h
    · rename_i e _; cases e
    · rename_i n l' b' r' e1 e2
      injection e1 with e1 e3; injection e2 with e2 e4
      subst e1 e2 e3 e4
      simp only [Bool.and_eq_true] at h
      rw [bytesL_ok h.2, Nat.eq_of_beq_eq_true h.1]; rfl
    · cases h
/-- A run that ends with a new slice of these texts. -/
def isTexts (G elem : Nat) (l : List (List Nat)) : Option (AV × St) → Bool
  | some (.slice id 0 n (.known c), ⟨h, _, _, _⟩) => Nat.ble G id && (Nat.beq n l.length && (Nat.beq c l.length && (match h.get id with
    | some (.cells t len e ro g) => Nat.beq len l.length && (Nat.beq e elem && (!ro && (!g && textsAt t 0 l)))
    | _ => false)))
  | _ => false
theorem isTexts_ok {G elem : Nat} {l : List (List Nat)} {o : Option (AV × St)} (h : isTexts G elem l o = true) : ∃ id s1 c, o = some (.slice id 0 l.length (.known l.length), s1) ∧ G ≤ id ∧ s1.h.get id = some (.cells c l.length elem false false) ∧ ∀ k b, l[k]? = some b → c.get k = some (.str b) := by
  unfold isTexts at h
  split at h
  · rename_i id n c h0 n0 f0 w0
    simp only [Bool.and_eq_true] at h
    obtain ⟨h1, h2, h3, h⟩ := h
    split at h
    · rename_i t len e ro g hg
      simp only [Bool.and_eq_true, Bool.not_eq_true'] at h
      obtain ⟨h4, h5, h6, h7, h8⟩ := h
      have e2 := Nat.eq_of_beq_eq_true h2
      have e3 := Nat.eq_of_beq_eq_true h3
      have e4 := Nat.eq_of_beq_eq_true h4
      have e5 := Nat.eq_of_beq_eq_true h5
      subst e2 e3 e4 e5 h6 h7
      refine ⟨id, _, t, rfl, Nat.le_of_ble_eq_true h1, hg, fun k b hk => ?_⟩
      have := textsAt_ok h8 k b hk
      rwa [Nat.zero_add] at this
    · cases h
  · cases h
/-- A run that ends with an array of these bytes. -/
def isBytes (l : List Nat) : Option (AV × St) → Bool
  | some (.agg x, _) => bytesL x l
  | _ => false
theorem isBytes_ok {l : List Nat} {o : Option (AV × St)} (h : isBytes l o = true) : ∃ s1, o = some (.agg (l.map byteVal), s1) := by
  unfold isBytes at h
  split at h
  · rw [bytesL_ok h]; exact ⟨_, rfl⟩
  · cases h
def isTrue : Option (AV × St) → Bool
  | some (.bool true, _) => true
  | _ => false
theorem isTrue_ok {o : Option (AV × St)} (h : isTrue o = true) : ∃ s1, o = some (.bool true, s1) := by
  unfold isTrue at h
  split at h
  · exact ⟨_, rfl⟩
  · cases h
theorem plains_bytes : ∀ l : List Nat, plains (l.map byteVal) = true
  | [] => rfl
  | b :: l => by simp [plains, byteVal, AV.plain, plains_bytes l]
theorem plains_texts : ∀ l : List (List Nat), plains (l.map AV.str) = true
  | [] => rfl
  | b :: l => by simp [plains, AV.plain, plains_texts l]

/-- The one variable of the program that is read: a table of bytes. -/
def heap1 (g elem : Nat) (l : List Nat) : T AObj := T.set .leaf g (some (.cells (putFrom .leaf 0 (l.map byteVal)) l.length elem true false))
theorem heap1_get {g elem : Nat} {l : List Nat} {id : Nat} : (heap1 g elem l).get id = if id = g then some (.cells (putFrom .leaf 0 (l.map byteVal)) l.length elem true false) else none := by
  unfold heap1
  rw [T.get_set, T.get_leaf]
theorem heap1_cov {P : Program} {C : CMap} {H : Array Obj} {g elem : Nat} {l : List Nat} (hg : g < P.globals.size) {i : RI} (hi : C g = some i) (ho : i.off = 0) {arr : Array Value} {fz : Nat × Nat} (hb : H[i.blk]? = some (.cells arr elem fz)) (hs : arr.size = i.room)
    (hr : i.room = l.length) (hv : ∀ (k b : Nat), l[k]? = some b → arr[k]? = some (Value.int .u8 (Int.ofNat b))) : ∀ id o, (heap1 g elem l).get id = some o → id < P.globals.size ∧ o.still = true ∧ ∃ i, C id = some i ∧ OR P (globOf P C) H i o := by
  intro id o h
  rw [heap1_get] at h
  split at h
  · rename_i e
    subst e
    injection h with h; subst h
    refine ⟨hg, rfl, i, hi, arr, fz, hb, hs, by omega, fun k a hk ha => ?_, fun h => (Bool.noConfusion h), fun _ => ⟨ho, hr⟩⟩
    rw [putFrom_get] at ha
    simp only [Nat.zero_le, true_and, Nat.zero_add, List.length_map, hk, if_true, Nat.sub_zero, List.getElem?_map, Option.map_eq_some_iff] at ha
    obtain ⟨b, hb', rfl⟩ := ha
    exact ⟨_, by rw [ho, Nat.zero_add]; exact hv k b hb', by simp [byteVal, VR]⟩
  · cases h
/-- The summary of a function that reads the table and yields a new slice of texts. -/
def sumTexts (g : Nat) (tab : List Nat) (elem : Nat) (l : List (List Nat)) : List AV → M AV
  | [] => rdCells g fun c len _ _ gr => chk (Nat.beq len tab.length && (!gr && bytesAt c 0 tab)) ((newCells elem (l.map AV.str) false).bind fun id => M.pure (.slice id 0 l.length (.known l.length)))
  | _ => M.fail
def sumBytes (l : List Nat) : List AV → M AV
  | [] => M.pure (.agg (l.map byteVal))
  | _ => M.fail

section
variable {P : Program} {base : Nat} {C : CMap} {s s' : St} {w : World}

theorem sumTexts_ok {F : Fns} (hF : FnsOK P w.heap.size F) {f g elem : Nat} {tab : List Nat} {l : List (List Nat)} (hg : g < P.globals.size) (hrun : ∀ gt, isTexts P.globals.size elem l ((F.call f []).run ⟨heap1 g gt tab, P.globals.size, 0, 0⟩) = true)
    {args : List AV} {cargs : Array Value} {r : AV} (hw : WR P base C s.h.get w.heap) (hG : P.globals.size ≤ s.n) (hf : Fresh C s.n s'.n) (ha : VRs C args cargs.toList) (h : (sumTexts g tab elem l args).run s = some (r, s')) :
    UponR P (PostV P base C s s' w r) ((callFunc f cargs).run P w) := by
  unfold sumTexts at h
  split at h
  · obtain ⟨c, len, e, ro, gr, s1, hid, hsame, h⟩ := run_rdCells h
    simp only [run_chk, M.run_bind', M.run_pure', Bool.and_eq_true, Bool.not_eq_true'] at h
    obtain ⟨⟨h1, h3, h4⟩, m, s2, hnew, rfl, rfl⟩ := h
    have e1 := Nat.eq_of_beq_eq_true h1
    subst e1
    obtain ⟨id, s3, c3, hr, hGid, hcell, hcl⟩ := isTexts_ok (hrun e)
    obtain ⟨i, arr, fz, hi, hb, hs, hlr, hcc, _, hgr⟩ := hw.cellsOf hid
    obtain ⟨ho, hroom⟩ := hgr h3
    have hcov := heap1_cov (P := P) (C := C) (l := tab) hg hi ho hb hs hroom (fun k b hk => by
      have hk' : k < tab.length := (List.getElem?_eq_some_iff.1 hk).1
      have := bytesAt_ok h4 k b hk
      rw [Nat.zero_add] at this
      obtain ⟨v, hv, hvr⟩ := hcc k _ hk' this
      rw [ho, Nat.zero_add] at hv
      rw [hv]
      simp only [byteVal, VR] at hvr
      rw [hvr])
    simp only [VRs] at ha
    refine sum_slice hF hr hcell hGid (l := l.map AV.str) (by simp) (fun k a hk => ?_) (plains_texts l) rfl hw hG hf hcov (by rw [ha]; exact VRs.nil) hsame hnew
    simp only [List.getElem?_map, Option.map_eq_some_iff] at hk
    obtain ⟨b, hb', rfl⟩ := hk
    exact hcl k b hb'
  · simp at h
theorem sumBytes_ok {F : Fns} (hF : FnsOK P w.heap.size F) {f : Nat} {l : List Nat} (hrun : isBytes l ((F.call f []).run ⟨.leaf, P.globals.size, 0, 0⟩) = true)
    {args : List AV} {cargs : Array Value} {r : AV} (hw : WR P base C s.h.get w.heap) (ha : VRs C args cargs.toList) (h : (sumBytes l args).run s = some (r, s')) :
    UponR P (PostV P base C s s' w r) ((callFunc f cargs).run P w) := by
  unfold sumBytes at h
  split at h
  · simp only [M.run_pure'] at h
    obtain ⟨rfl, rfl⟩ := h
    obtain ⟨s1, hr⟩ := isBytes_ok hrun
    simp only [VRs] at ha
    exact sum_plain hF hr (by simp only [AV.plain]; exact plains_bytes l) hw (fun id o h => by rw [T.get_leaf] at h; cases h) (by rw [ha]; exact VRs.nil) (Same.refl _)
  · simp at h

/-- A deferred function that finds nothing to recover from. -/
def sumIdle : List AV → M AV
  | [_] => M.pure (.tuple [])
  | _ => M.fail
theorem sumIdle_ok {f : FuncId} (hi : IdleOK P f) {args : List AV} {cargs : Array Value} {r : AV} (hw : WR P base C s.h.get w.heap) (ha : VRs C args cargs.toList) (h : (sumIdle args).run s = some (r, s')) :
    (callFunc f cargs).run P w = .ok (.enter f cargs) w ∧ CallsDIn Fence.wide 0 P f cargs .returning w (fun e u' w' => u' = .returning ∧ ∃ v, e = .returned v ∧ PostV P base C s s' w r v w') := by
  unfold sumIdle at h
  split at h
  · simp only [M.run_pure'] at h
    obtain ⟨rfl, rfl⟩ := h
    have hl := ha.length
    obtain ⟨h1, h2⟩ := hi cargs w (by simpa using hl)
    refine ⟨h1, h2.mono ?_⟩
    rintro e u w' ⟨rfl, rfl, rfl⟩
    exact ⟨rfl, _, rfl, C, by simp only [VR]; exact ⟨_, rfl, VRs.nil⟩, hw, fun _ _ => rfl, Kept.refl ..⟩
  · simp at h

/-- What is asked of one summary. -/
structure ExtOK (P : Program) (base : Nat) (f : Nat) (g : List AV → M AV) : Prop where
  ok : ∀ {C : CMap} {s s' : St} {w : World} {args : List AV} {cargs : Array Value} {r : AV}, (g args).run s = some (r, s') → WR P base C s.h.get w.heap → P.globals.size ≤ s.n → Fresh C s.n s'.n →
    VRs C args cargs.toList → UponR P (PostV P base C s s' w r) ((callFunc f cargs).run P w)
structure DextOK (P : Program) (base : Nat) (f : Nat) (g : List AV → M AV) : Prop where
  ok : ∀ {C : CMap} {s s' : St} {w : World} {args : List AV} {cargs : Array Value} {r : AV}, (g args).run s = some (r, s') → WR P base C s.h.get w.heap → P.globals.size ≤ s.n → Fresh C s.n s'.n →
    VRs C args cargs.toList → (callFunc f cargs).run P w = .ok (.enter f cargs) w ∧ CallsDIn Fence.wide 0 P f cargs .returning w (fun e u' w' => u' = .returning ∧ ∃ v, e = .returned v ∧ PostV P base C s s' w r v w')
def lookT : List (Nat × (List AV → M AV)) → Nat → Option (List AV → M AV)
  | [], _ => none
  | p :: l, f => bif Nat.beq f p.1 then some p.2 else lookT l f
theorem lookT_ok {f : Nat} {g : List AV → M AV} : ∀ {l : List (Nat × (List AV → M AV))}, lookT l f = some g → (f, g) ∈ l
  | [], h => by cases h
  | p :: l, h => by
    simp only [lookT] at h
    cases hb : Nat.beq f p.1 with
    | true =>
      rw [hb] at h
      simp only [cond_true, Option.some.injEq] at h
      have := Nat.eq_of_beq_eq_true hb
      obtain ⟨a, b⟩ := p
      simp only at this h
      subst this h
      simp
    | false =>
      rw [hb] at h
      exact List.mem_cons_of_mem _ (lookT_ok h)
theorem all_cons {Q : Nat → (List AV → M AV) → Prop} {f : Nat} {g : List AV → M AV} {l : List (Nat × (List AV → M AV))} (h : Q f g) (hl : ∀ p ∈ l, Q p.1 p.2) : ∀ p ∈ (f, g) :: l, Q p.1 p.2 := by
  intro p hp
  rcases List.mem_cons.1 hp with rfl | hp
  · exact h
  · exact hl p hp
theorem all_nil {Q : Nat → (List AV → M AV) → Prop} : ∀ p ∈ ([] : List (Nat × (List AV → M AV))), Q p.1 p.2 := fun _ h => nomatch h
def sumsOf (l d : List (Nat × (List AV → M AV))) : Sums := ⟨lookT l, lookT d⟩
theorem sumsOf_ok {l d : List (Nat × (List AV → M AV))} (hl : ∀ p ∈ l, ExtOK P base p.1 p.2) (hd : ∀ p ∈ d, DextOK P base p.1 p.2) : SumsOK P base (sumsOf l d) :=
  ⟨fun h hr hw hG hf ha => (hl _ (lookT_ok h)).ok hr hw hG hf ha, fun h hr hw hG hf ha => (hd _ (lookT_ok h)).ok hr hw hG hf ha⟩
theorem extOK_entry {f : Nat} {k : ExtKind} (he : EntryOK P f k) : ExtOK P base f (extK k) := ⟨fun hr hw _ _ ha => entry_upon he hw ha hr⟩
theorem dextOK_idle {f : Nat} (hi : IdleOK P f) : DextOK P base f sumIdle := ⟨fun hr hw _ _ ha => sumIdle_ok hi hw ha hr⟩
/-- A run without arguments, from a heap of the program's variables on. -/
def runAt (P : Program) (S : Sums) (N f : Nat) (h : T AObj) (G : Nat) : Option (AV × St) := ((fns P S N).call f []).run ⟨h, G, 0, 0⟩
theorem extOK_texts {S : Sums} {f g elem G N : Nat} {tab : List Nat} {l : List (List Nat)} (hS : ∀ base, SumsOK P base S) (hmix : P.follows .mixedOrders = true) (hN : NoCount P) (hG : P.globals.size = G) (hg : g < G)
    (hrun : ∀ gt, isTexts G elem l (runAt P S N f (heap1 g gt tab) G) = true) : ExtOK P base f (sumTexts g tab elem l) := by
  subst hG
  exact ⟨fun {C s s' w args cargs r} hr hw hG hf ha => sumTexts_ok (fns_ok (hS _) hmix hN N) hg hrun hw hG hf ha hr⟩
theorem extOK_bytes {S : Sums} {f G N : Nat} {l : List Nat} (hS : ∀ base, SumsOK P base S) (hmix : P.follows .mixedOrders = true) (hN : NoCount P) (hG : P.globals.size = G)
    (hrun : isBytes l (runAt P S N f .leaf G) = true) : ExtOK P base f (sumBytes l) := by
  subst hG
  exact ⟨fun {C s s' w args cargs r} hr hw hG hf ha => sumBytes_ok (fns_ok (hS _) hmix hN N) hrun hw ha hr⟩
theorem noCount_of (h : (P.funcs.all fun fn => fn.name != "runtime.NumGoroutine") = true) : NoCount P := by
  intro g fn hg
  have := Array.all_eq_true.1 h
  obtain ⟨hlt, rfl⟩ := Array.getElem?_eq_some_iff.1 hg
  have h1 := this g hlt
  simpa using h1
/-- Behind a world the blocks that were there are as they were. -/
theorem known_calls {F : Fns} (hF : FnsOK P w.heap.size F) {f g gt : Nat} {tab : List Nat} (hg : g < P.globals.size) (hrun : isTrue ((F.call f []).run ⟨heap1 g gt tab, P.globals.size, 0, 0⟩) = true) (hcf : hasBody P f = true) (hN : NoCount P)
    {arr : Array Value} {fz : Nat × Nat} (hb : w.heap[g]? = some (.cells arr gt fz)) (hr : arr.size = tab.length) (hv : ∀ (k b : Nat), tab[k]? = some b → arr[k]? = some (Value.int .u8 (Int.ofNat b))) :
    Calls P f #[] w fun e w' => e = .returned (.bool true) ∧ Kept w.heap.size w w' := by
  obtain ⟨s1, hrun⟩ := isTrue_ok hrun
  let C : CMap := fun id => if id < P.globals.size then some ⟨id, 0, arr.size⟩ else none
  have hC : C g = some ⟨g, 0, arr.size⟩ := by simp [C, hg]
  have hcov := heap1_cov (P := P) (C := C) (H := w.heap) (elem := gt) (l := tab) hg hC rfl hb rfl hr hv
  have hgC : globOf P C = C := by
    funext id
    simp only [globOf, C]
    split <;> simp_all
  have hw : WR P w.heap.size C (heap1 g gt tab).get w.heap := by
    refine ⟨fun q hq => ⟨⟨q, 0, arr.size⟩, by simp [C, hq], rfl, rfl⟩, fun id o ho => ?_, fun id id' o o' i i' ho ho' hi hi' e => ?_, fun id i hid hi => ?_, fun id o ho _ => (hcov id o ho).2.1, Nat.le_refl _⟩
    · obtain ⟨_, _, i, hi, hor⟩ := hcov id o ho
      rw [hgC] at hor
      exact ⟨i, hi, hor⟩
    · obtain ⟨h1, _⟩ := hcov id o ho
      obtain ⟨h2, _⟩ := hcov id' o' ho'
      simp only [C, h1, h2, if_true, Option.some.injEq] at hi hi'
      subst hi hi'
      exact e
    · simp only [C, show ¬ id < P.globals.size by omega, if_false] at hi; cases hi
  have hfresh : Fresh C P.globals.size s1.n := fun id h1 _ => by simp [C, show ¬ id < P.globals.size by omega]
  have h := hF.call (C := C) (s := ⟨heap1 g gt tab, P.globals.size, 0, 0⟩) (cargs := #[]) hrun hw (Nat.le_refl _) hfresh VRs.nil
  rw [hasBody_ok hN hcf] at h
  simp only [UponR] at h
  rw [← callsIn_wide (n := 0)]
  refine h.mono fun e w' he => ?_
  cases e <;> simp only [Ends] at he
  obtain ⟨C', h1, _, _, h4⟩ := he
  simp only [VR] at h1
  subst h1
  exact ⟨rfl, h4⟩
/-- What a chapter's known() is. -/
structure KnownOK (P : Program) (f g : Nat) (tab : List Nat) : Prop where
  calls : ∀ (w : World) {arr : Array Value} {gt : TypeId} {fz : Nat × Nat}, w.heap[g]? = some (.cells arr gt fz) → arr.size = tab.length → (∀ (k b : Nat), tab[k]? = some b → arr[k]? = some (Value.int .u8 (Int.ofNat b))) →
    Calls P f #[] w fun e w' => e = .returned (.bool true) ∧ Kept w.heap.size w w'
theorem knownOK_of {S : Sums} {f g G N : Nat} {tab : List Nat} (hS : ∀ base, SumsOK P base S) (hmix : P.follows .mixedOrders = true) (hN : NoCount P) (hG : P.globals.size = G) (hg : g < G) (hcf : hasBody P f = true)
    (hrun : ∀ gt, isTrue (runAt P S N f (heap1 g gt tab) G) = true) : KnownOK P f g tab := by
  subst hG
  exact ⟨fun w {arr gt fz} hb hr hv => known_calls (fns_ok (hS _) hmix hN N) hg (hrun gt) hcf hN hb hr hv⟩
end
end
end Go.Mach
end
section
/-! A mutex' inner calls, as summaries: the state word turns. -/
set_option linter.unusedSimpArgs false
namespace Go.Mach
open Go
noncomputable section
variable {P : Program} {base : Nat} {C : CMap} {s s' : St} {w : World}

/-- A state word turns from x to y. -/
def sumWord (x y : Int) : List AV → M AV
  | [.ptr id off] => rdCells id fun c len _ ro _ => chk (Nat.blt off len && !ro) <| match c.get off with
    | some (.int .i32 z) => chk (decide (z = x)) <| (storeCellsA id off [.int .i32 y]).bind fun _ => M.pure (.tuple [])
    | _ => M.fail
  | _ => M.fail
theorem setCell_setBlk {b o : Nat} {e : TypeId} {fz : Nat × Nat} {arr : Array Value} {v : Value} (h : w.heap[b]? = some (.cells arr e fz)) : w.setCell ⟨b, o, none⟩ v = World.setBlk w b (.cells (arr.setIfInBounds o v) e fz) := by
  unfold World.setCell World.setBlk
  congr 1
  apply Array.ext_getElem?
  intro i
  obtain ⟨hlt, hb⟩ := Array.getElem?_eq_some_iff.1 h
  by_cases hi : b = i
  · subst hi
    simp [Array.getElem?_modify, Array.getElem?_setIfInBounds, Array.getElem_modify, hlt, hb]
  · simp [Array.getElem?_modify, Array.getElem?_setIfInBounds, hi]
theorem sumWord_ok {f : FuncId} {x y : Int} (hf : ∀ (args : Array Value) (w : World), (callFunc f args).run P w = .ok (.enter f args) w)
    (hcall : ∀ (a : Addr) (w : World), w.cell? a = some (.int .i32 x) → w.frozen? a = false → Calls P f #[.pointer (some a)] w fun e w' => e = .returned (.tuple #[]) ∧ w' = w.setCell a (.int .i32 y))
    {args : List AV} {cargs : Array Value} {r : AV} (hw : WR P base C s.h.get w.heap) (ha : VRs C args cargs.toList) (h : (sumWord x y args).run s = some (r, s')) :
    UponR P (PostV P base C s s' w r) ((callFunc f cargs).run P w) := by
  unfold sumWord at h
  split at h
  · rename_i id off
    obtain ⟨c, len, elem, ro, g, s1, h1, hsame, h⟩ := run_rdCells h
    simp only [run_chk, Bool.and_eq_true, Bool.not_eq_true'] at h
    obtain ⟨⟨hlt, hro⟩, h⟩ := h
    have hlt : off < len := Nat.le_of_ble_eq_true hlt
    split at h
    · rename_i z hz
      simp only [run_chk, M.run_bind', M.run_pure', decide_eq_true_eq] at h
      obtain ⟨hzx, u, s2, h5, hr1, hr2⟩ := h
      subst hzx hr1 hr2
      obtain ⟨i, arr, fz, hi, hb, hs, hl, hcell, hfro, _⟩ := hw.cellsOf h1
      obtain ⟨v, hv1, hv2⟩ := hcell off _ hlt hz
      have := hv2.int_inv; subst this
      obtain ⟨j, hj, hres⟩ := storeCellsA_ok (w := w) (vs := [.int .i32 y]) (l := [AV.int .i32 y]) (hw.same hsame) ⟨_, _, rfl, rfl, rfl⟩ h5
      rw [hi] at hj; injection hj with hj; subst hj
      have hst := s_storeCells (P := P) (o := i.off + off) [.int .i32 y] 0 arr w hb (by simp; omega) (by rw [hs]; exact hfro hro) (by simp [Value.oneCell'])
      have hcargs : cargs = #[.pointer (some ⟨i.blk, i.off + off, none⟩)] := by
        obtain ⟨p, ps, e1, hp, hps⟩ := ha
        simp only [VRs] at hps
        obtain ⟨i', hi', e2⟩ := hp.ptr_inv
        rw [hi] at hi'; injection hi' with hi'; subst hi'
        subst hps e2
        exact Array.ext' (by simpa using e1)
      subst hcargs
      rw [hf]
      have hc : w.cell? ⟨i.blk, i.off + off, none⟩ = some (.int .i32 z) := by simp [World.cell?, hb, hv1]
      have hz' : w.frozen? ⟨i.blk, i.off + off, none⟩ = false := by
        have := hfro hro (i.off + off) (by omega)
        simp only [World.frozen?, hb, Bool.and_eq_false_iff, decide_eq_false_iff_not]
        omega
      show CallsIn Fence.wide 0 P f _ w (Ends _)
      refine callsIn_wide.2 ((hcall _ w hc hz').mono ?_)
      rintro e w' ⟨rfl, rfl⟩
      obtain ⟨C', b, w2, e1, _, hw2, hx, hk⟩ := hres
      rw [hst] at e1
      injection e1 with _ e1
      subst e1
      have ew : w.setCell ⟨i.blk, i.off + off, none⟩ (.int .i32 y) = World.setBlk w i.blk (.cells (setA arr (i.off + off + 0) [.int .i32 y]) elem fz) := by
        rw [setCell_setBlk hb]; rfl
      rw [ew]
      exact ⟨C', ⟨#[], rfl, rfl⟩, hw2, by rw [hsame.2] at hx; exact hx, hk⟩
    · simp at h
  · simp at h
theorem extOK_word {f : FuncId} {x y : Int} (hf : ∀ (args : Array Value) (w : World), (callFunc f args).run P w = .ok (.enter f args) w)
    (hcall : ∀ (a : Addr) (w : World), w.cell? a = some (.int .i32 x) → w.frozen? a = false → Calls P f #[.pointer (some a)] w fun e w' => e = .returned (.tuple #[]) ∧ w' = w.setCell a (.int .i32 y)) : ExtOK P base f (sumWord x y) :=
  ⟨fun hr hw _ _ ha => sumWord_ok hf hcall hw ha hr⟩
/-- A mutex' two inner calls. -/
theorem extOK_ilock {L : Go.Conc.Locks.MuLink} (H : Go.Conc.Locks.MuLib P L) : ExtOK P base L.ilock (sumWord 0 1) :=
  extOK_word (fun args w => Go.MuLone.run_callFunc_enter (P := P) H.f_ilock (by kernel_rfl) rfl args w) (Go.MuLone.ilock_free H)
theorem extOK_iunlock {L : Go.Conc.Locks.MuLink} (H : Go.Conc.Locks.MuLib P L) : ExtOK P base L.iunlock (sumWord 1 0) :=
  extOK_word (fun args w => Go.MuLone.run_callFunc_enter (P := P) H.f_iunlock (by kernel_rfl) rfl args w) (Go.MuLone.iunlock_held H)
end
end Go.Mach
end
section
/-! A law's call, at arguments of which so much is known. -/
set_option linter.unusedSimpArgs false
set_option linter.unusedVariables false
namespace Go.Mach
open Go
noncomputable section
section
variable {P : Program} {base : Nat} {C : CMap} {s s' : St} {w : World}
/-- Behind a world the blocks that were there are as they were. -/
theorem fun_calls {F : Fns} (hF : FnsOK P w.heap.size F) {f g gt : Nat} {tab : List Nat} {args : List AV} {cargs : Array Value} (hA : ∀ C : CMap, VRs C args cargs.toList) (hg : g < P.globals.size) (hrun : isTrue ((F.call f args).run ⟨heap1 g gt tab, P.globals.size, 0, 0⟩) = true) (hcf : hasBody P f = true) (hN : NoCount P)
    {arr : Array Value} {fz : Nat × Nat} (hb : w.heap[g]? = some (.cells arr gt fz)) (hr : arr.size = tab.length) (hv : ∀ (k b : Nat), tab[k]? = some b → arr[k]? = some (Value.int .u8 (Int.ofNat b))) :
    Calls P f cargs w fun e w' => e = .returned (.bool true) ∧ Kept w.heap.size w w' := by
  obtain ⟨s1, hrun⟩ := isTrue_ok hrun
  let C : CMap := fun id => if id < P.globals.size then some ⟨id, 0, arr.size⟩ else none
  have hC : C g = some ⟨g, 0, arr.size⟩ := by simp [C, hg]
  have hcov := heap1_cov (P := P) (C := C) (H := w.heap) (elem := gt) (l := tab) hg hC rfl hb rfl hr hv
  have hgC : globOf P C = C := by
    funext id
    simp only [globOf, C]
    split <;> simp_all
  have hw : WR P w.heap.size C (heap1 g gt tab).get w.heap := by
    refine ⟨fun q hq => ⟨⟨q, 0, arr.size⟩, by simp [C, hq], rfl, rfl⟩, fun id o ho => ?_, fun id id' o o' i i' ho ho' hi hi' e => ?_, fun id i hid hi => ?_, fun id o ho _ => (hcov id o ho).2.1, Nat.le_refl _⟩
    · obtain ⟨_, _, i, hi, hor⟩ := hcov id o ho
      rw [hgC] at hor
      exact ⟨i, hi, hor⟩
    · obtain ⟨h1, _⟩ := hcov id o ho
      obtain ⟨h2, _⟩ := hcov id' o' ho'
      simp only [C, h1, h2, if_true, Option.some.injEq] at hi hi'
      subst hi hi'
      exact e
    · simp only [C, show ¬ id < P.globals.size by omega, if_false] at hi; cases hi
  have hfresh : Fresh C P.globals.size s1.n := fun id h1 _ => by simp [C, show ¬ id < P.globals.size by omega]
  have h := hF.call (C := C) (s := ⟨heap1 g gt tab, P.globals.size, 0, 0⟩) (cargs := cargs) hrun hw (Nat.le_refl _) hfresh (hA C)
  rw [hasBody_ok hN hcf] at h
  simp only [UponR] at h
  rw [← callsIn_wide (n := 0)]
  refine h.mono fun e w' he => ?_
  cases e <;> simp only [Ends] at he
  obtain ⟨C', h1, _, _, h4⟩ := he
  simp only [VR] at h1
  subst h1
  exact ⟨rfl, h4⟩
/-- What a law is, at arguments of which so much is known. -/
structure FunOK (P : Program) (f g : Nat) (tab : List Nat) (args : List AV) : Prop where
  calls : ∀ (w : World) {cargs : Array Value} {arr : Array Value} {gt : TypeId} {fz : Nat × Nat}, (∀ C : CMap, VRs C args cargs.toList) → w.heap[g]? = some (.cells arr gt fz) → arr.size = tab.length → (∀ (k b : Nat), tab[k]? = some b → arr[k]? = some (Value.int .u8 (Int.ofNat b))) →
    Calls P f cargs w fun e w' => e = .returned (.bool true) ∧ Kept w.heap.size w w'
def runWith (P : Program) (S : Sums) (N f : Nat) (args : List AV) (h : T AObj) (G : Nat) : Option (AV × St) := ((fns P S N).call f args).run ⟨h, G, 0, 0⟩
theorem funOK_of {S : Sums} {f g G N : Nat} {tab : List Nat} {args : List AV} (hS : ∀ base, SumsOK P base S) (hmix : P.follows .mixedOrders = true) (hN : NoCount P) (hG : P.globals.size = G) (hg : g < G) (hcf : hasBody P f = true)
    (hrun : ∀ gt, isTrue (runWith P S N f args (heap1 g gt tab) G) = true) : FunOK P f g tab args := by
  subst hG
  exact ⟨fun w {cargs arr gt fz} hA hb hr hv => fun_calls (cargs := cargs) (fns_ok (hS _) hmix hN N) hA hg (hrun gt) hcf hN hb hr hv⟩
end
end
end Go.Mach
end
section
/-! strings.Contains, as a summary: its variable holds some number. -/
set_option linter.unusedSimpArgs false
set_option linter.unusedVariables false
namespace Go.Mach
open Go
noncomputable section
variable {P : Program} {base : Nat} {C : CMap} {s s' : St} {w : World}

def prefB : List Nat → List Nat → Bool
  | [], _ => true
  | _ :: _, [] => false
  | a :: l, b :: m => Nat.beq a b && prefB l m
def containsB : List Nat → List Nat → Bool
  | [], sub => prefB sub []
  | b :: l, sub => prefB sub (b :: l) || containsB l sub
theorem prefB_ok : ∀ a b : List UInt8, prefB (a.map (·.toNat)) (b.map (·.toNat)) = a.isPrefixOf b
  | [], b => by simp [prefB]
  | x :: a, [] => by simp [prefB]
  | x :: a, y :: b => by
    simp only [List.map_cons, prefB, List.isPrefixOf, prefB_ok a b]
    congr 1
    by_cases h : x = y
    · subst h; simp
    · have h1 : (x == y) = false := by simpa using h
      have h2 : Nat.beq x.toNat y.toNat = false := by
        cases hb : Nat.beq x.toNat y.toNat with
        | false => rfl
        | true => exact absurd (UInt8.toNat_inj.1 (Nat.eq_of_beq_eq_true hb)) h
      rw [h1, h2]
theorem containsB_ok : ∀ l sub : List UInt8, Lib.contains l sub = containsB (l.map (·.toNat)) (sub.map (·.toNat))
  | [], sub => by
    unfold Lib.contains Lib.index
    show _ = prefB (sub.map (·.toNat)) (([] : List UInt8).map (·.toNat))
    rw [prefB_ok]
    cases sub <;> simp
  | b :: l, sub => by
    have ih := containsB_ok l sub
    unfold Lib.contains at ih ⊢
    show _ = (prefB (sub.map (·.toNat)) ((b :: l).map (·.toNat)) || containsB (l.map (·.toNat)) (sub.map (·.toNat)))
    rw [prefB_ok, ← ih, Lib.index]
    have hge := Lib.index_ge l sub
    cases hp : sub.isPrefixOf (b :: l) with
    | true => simp
    | false =>
      simp only [Bool.false_eq_true, if_false, Bool.false_or]
      apply decide_eq_decide.2
      by_cases h : Lib.index l sub = -1
      · simp [h]
      · have : (Lib.index l sub == -1) = false := by simpa using h
        rw [this]
        simp only [Bool.false_eq_true, if_false]
        omega
/-- What strings.Contains says; g: the variable that it reads. -/
def sumContains (g : Nat) : List AV → M AV
  | [.str a, .str b] => rdCells g fun c len _ _ _ => chk (Nat.blt 0 len && Nat.blt a.length 1000000) <| match c.get 0 with
    | some .intU => M.pure (.bool (containsB a b))
    | _ => M.fail
  | _ => M.fail
theorem extOK_contains {f : FuncId} {g : Nat} (hg : g < P.globals.size) (hf : ∀ (args : Array Value) (w : World), (callFunc f args).run P w = .ok (.enter f args) w)
    (hcall : ∀ (s sub : ByteArray) (m : Int) (w : World), s.size < 4294967281 → w.cell? ⟨g, 0, none⟩ = some (.int .i64 m) →
      Calls P f #[.string s, .string sub] w fun e w' => e = .returned (.bool (Lib.contains s.data.toList sub.data.toList)) ∧ w' = w) : ExtOK P base f (sumContains g) := by
  refine ⟨fun {C s s' w args cargs r} h hw _ _ ha => ?_⟩
  unfold sumContains at h
  split at h
  · rename_i a b
    obtain ⟨c, len, elem, ro, gr, s1, h1, hsame, h⟩ := run_rdCells h
    simp only [run_chk, Bool.and_eq_true] at h
    obtain ⟨⟨hlen, hsz⟩, h⟩ := h
    have hlen : 0 < len := Nat.le_of_ble_eq_true hlen
    have hsz : a.length < 1000000 := Nat.le_of_ble_eq_true hsz
    split at h
    · rename_i hz
      simp only [M.run_pure'] at h
      obtain ⟨hr1, hr2⟩ := h
      subst hr1 hr2
      obtain ⟨i, arr, fz, hi, hb, hs, hl, hcell, _, _⟩ := hw.cellsOf h1
      obtain ⟨i', hi', hblk, hoff⟩ := hw.glob g hg
      rw [hi] at hi'; injection hi' with hi'; subst hi'
      obtain ⟨v, hv1, hv2⟩ := hcell 0 _ hlen hz
      simp only [VR] at hv2
      obtain ⟨m, rfl⟩ := hv2
      have hcm : w.cell? ⟨g, 0, none⟩ = some (.int .i64 m) := by
        rw [hblk] at hb
        rw [hoff] at hv1
        simp only [Nat.zero_add] at hv1
        simp [World.cell?, hb, hv1]
      obtain ⟨p, ps, e1, hp, q, qs, e2, hq, hqs⟩ := ha
      simp only [VRs] at hqs
      obtain ⟨sa, rfl, rfl⟩ := hp.str_inv
      obtain ⟨sb, rfl, rfl⟩ := hq.str_inv
      subst hqs e2
      have hcargs : cargs = #[.string sa, .string sb] := Array.ext' (by simpa using e1)
      subst hcargs
      rw [hf]
      show CallsIn Fence.wide 0 P f _ w (Ends _)
      refine callsIn_wide.2 ((hcall sa sb m w (by rw [bytesOf_length] at hsz; omega) hcm).mono ?_)
      rintro e w' ⟨rfl, rfl⟩
      refine ⟨C, ?_, hw.same hsame, fun _ _ => rfl, Kept.refl ..⟩
      rw [containsB_ok]
      exact VR.mk_bool _
    · simp at h
  · simp at h
end
end Go.Mach
end
section
/-! A law's call, from a heap of some of the program's variables on. -/
set_option linter.unusedSimpArgs false
set_option linter.unusedVariables false
namespace Go.Mach
open Go
noncomputable section
section
variable {P : Program} {base : Nat} {C : CMap} {s s' : St} {w : World}

def roomOf (w : World) (id : Nat) : Nat := match w.heap[id]? with
  | some (.cells arr _ _) => arr.size
  | _ => 0
/-- The program's variables, each its own block. -/
def globC (P : Program) (w : World) : CMap := fun id => if id < P.globals.size then some ⟨id, 0, roomOf w id⟩ else none
theorem law_calls {F : Fns} (hF : FnsOK P w.heap.size F) {f : Nat} {h : T AObj} {args : List AV} {cargs : Array Value} (hA : ∀ C : CMap, VRs C args cargs.toList)
    (hrun : isTrue ((F.call f args).run ⟨h, P.globals.size, 0, 0⟩) = true) (hcf : hasBody P f = true) (hN : NoCount P)
    (hcov : ∀ id o, h.get id = some o → id < P.globals.size ∧ o.still = true ∧ OR P (globC P w) w.heap ⟨id, 0, roomOf w id⟩ o) :
    Calls P f cargs w fun e w' => e = .returned (.bool true) ∧ Kept w.heap.size w w' := by
  obtain ⟨s1, hrun⟩ := isTrue_ok hrun
  have hw : WR P w.heap.size (globC P w) h.get w.heap := by
    refine ⟨fun q hq => ⟨⟨q, 0, roomOf w q⟩, by simp [globC, hq], rfl, rfl⟩, fun id o ho => ?_, fun id id' o o' i i' ho ho' hi hi' e => ?_, fun id i hid hi => ?_, fun id o ho _ => (hcov id o ho).2.1, Nat.le_refl _⟩
    · obtain ⟨h1, _, hor⟩ := hcov id o ho
      exact ⟨_, by simp [globC, h1], hor⟩
    · obtain ⟨h1, _⟩ := hcov id o ho
      obtain ⟨h2, _⟩ := hcov id' o' ho'
      simp only [globC, h1, h2, if_true, Option.some.injEq] at hi hi'
      subst hi hi'
      exact e
    · simp only [globC, show ¬ id < P.globals.size by omega, if_false] at hi; cases hi
  have hfresh : Fresh (globC P w) P.globals.size s1.n := fun id h1 _ => by simp [globC, show ¬ id < P.globals.size by omega]
  have h := hF.call (C := globC P w) (s := ⟨h, P.globals.size, 0, 0⟩) (cargs := cargs) hrun hw (Nat.le_refl _) hfresh (hA _)
  rw [hasBody_ok hN hcf] at h
  simp only [UponR] at h
  rw [← callsIn_wide (n := 0)]
  refine h.mono fun e w' he => ?_
  cases e <;> simp only [Ends] at he
  obtain ⟨C', h1, _, _, h4⟩ := he
  simp only [VR] at h1
  subst h1
  exact ⟨rfl, h4⟩
/-- A table of bytes and a number: the variables that are read. -/
def heap2 (g elem : Nat) (l : List Nat) (g2 elem2 : Nat) : T AObj := T.set (heap1 g elem l) g2 (some (.cells (T.set .leaf 0 (some .intU)) 1 elem2 true false))
theorem heap2_get {g elem g2 elem2 : Nat} {l : List Nat} {id : Nat} : (heap2 g elem l g2 elem2).get id = if id = g2 then some (.cells (T.set .leaf 0 (some .intU)) 1 elem2 true false) else (heap1 g elem l).get id := by
  unfold heap2
  rw [T.get_set]
theorem heap2_cov {g elem g2 elem2 : Nat} {l : List Nat} (hg : g < P.globals.size) (hg2 : g2 < P.globals.size) {arr : Array Value} {fz : Nat × Nat} (hb : w.heap[g]? = some (.cells arr elem fz)) (hr : arr.size = l.length)
    (hv : ∀ (k b : Nat), l[k]? = some b → arr[k]? = some (Value.int .u8 (Int.ofNat b))) {m : Int} {fz2 : Nat × Nat} (hb2 : w.heap[g2]? = some (.cells #[.int .i64 m] elem2 fz2)) :
    ∀ id o, (heap2 g elem l g2 elem2).get id = some o → id < P.globals.size ∧ o.still = true ∧ OR P (globC P w) w.heap ⟨id, 0, roomOf w id⟩ o := by
  intro id o h
  rw [heap2_get] at h
  split at h
  · rename_i e
    subst e
    injection h with h; subst h
    refine ⟨hg2, rfl, #[.int .i64 m], fz2, hb2, by simp [roomOf, hb2], by simp [roomOf, hb2], fun k a hk ha => ?_, fun h => (Bool.noConfusion h), fun _ => ⟨rfl, by simp [roomOf, hb2]⟩⟩
    have hk0 : k = 0 := by omega
    subst hk0
    rw [T.get_set] at ha
    simp only [if_true, Option.some.injEq] at ha
    subst ha
    exact ⟨.int .i64 m, by simp, by simp only [VR]; exact ⟨m, rfl⟩⟩
  · rw [heap1_get] at h
    split at h
    · rename_i e
      subst e
      injection h with h; subst h
      refine ⟨hg, rfl, arr, fz, hb, by simp [roomOf, hb], by simp [roomOf, hb]; omega, fun k a hk ha => ?_, fun h => (Bool.noConfusion h), fun _ => ⟨rfl, by simp [roomOf, hb]; exact hr⟩⟩
      rw [putFrom_get] at ha
      simp only [Nat.zero_le, true_and, Nat.zero_add, List.length_map, hk, if_true, Nat.sub_zero, List.getElem?_map, Option.map_eq_some_iff] at ha
      obtain ⟨b, hb', rfl⟩ := ha
      exact ⟨_, by simp only [Nat.zero_add]; exact hv k b hb', by simp [byteVal, VR]⟩
    · cases h
/-- What a law is, at arguments of which so much is known, where a table of bytes and a number are read. -/
structure LawOK (P : Program) (f g : Nat) (tab : List Nat) (g2 : Nat) (args : List AV) : Prop where
  calls : ∀ (w : World) {cargs : Array Value} {arr : Array Value} {gt gt2 : TypeId} {fz fz2 : Nat × Nat} {m : Int}, (∀ C : CMap, VRs C args cargs.toList) → w.heap[g]? = some (.cells arr gt fz) → arr.size = tab.length →
    (∀ (k b : Nat), tab[k]? = some b → arr[k]? = some (Value.int .u8 (Int.ofNat b))) → w.heap[g2]? = some (.cells #[.int .i64 m] gt2 fz2) →
    Calls P f cargs w fun e w' => e = .returned (.bool true) ∧ Kept w.heap.size w w'
theorem lawOK_of {S : Sums} {f g g2 G N : Nat} {tab : List Nat} {args : List AV} (hS : ∀ base, SumsOK P base S) (hmix : P.follows .mixedOrders = true) (hN : NoCount P) (hG : P.globals.size = G) (hg : g < G) (hg2 : g2 < G) (hcf : hasBody P f = true)
    (hrun : ∀ gt gt2, isTrue (runWith P S N f args (heap2 g gt tab g2 gt2) G) = true) : LawOK P f g tab g2 args := by
  subst hG
  exact ⟨fun w {cargs arr gt gt2 fz fz2 m} hA hb hr hv hb2 => law_calls (cargs := cargs) (fns_ok (hS _) hmix hN N) hA (hrun gt gt2) hcf hN (heap2_cov hg hg2 hb hr hv hb2)⟩
end
end
end Go.Mach
end
section
/-! bytealg.MakeNoZero, as a summary: bytes of which nothing is known. -/
set_option linter.unusedSimpArgs false
set_option linter.unusedVariables false
namespace Go.Mach
open Go
noncomputable section
variable {P : Program} {base : Nat} {C : CMap} {s s' : St} {w : World}

theorem digits_one : ∀ (n t : Nat) (acc : Array Value), (∀ v ∈ acc.toList, v.oneCell' = true) → ∀ v ∈ (Extern.BytealgMakeNoZero.digits n t acc).toList, v.oneCell' = true
  | 0, _, _, h => h
  | n + 1, t, acc, h => by
    rw [Extern.BytealgMakeNoZero.digits]
    refine digits_one n _ _ fun v hv => ?_
    rw [Array.toList_push, List.mem_append] at hv
    rcases hv with hv | hv
    · exact h v hv
    · rw [List.mem_singleton.1 hv]; rfl
theorem run_make (ps : Array TypeId) (t e : TypeId) (ht : P.underlying t = some (.slice e)) (n : Nat) (hn : n ≤ 281474976710656) :
    ∃ cs : Array Value, (Extern.BytealgMakeNoZero.makeNoZero ps #[t] #[.int .i64 n]).run P w = .ok (.slice (some ⟨w.heap.size, 0, none⟩) n cs.size) (w.drew.drew.alloc (.cells cs e)) ∧ n ≤ cs.size ∧ ∀ v ∈ cs.toList, v.oneCell' = true := by
  refine ⟨Extern.BytealgMakeNoZero.digits (grownCap w n 0 e) ((Question.extern "internal/bytealg.MakeNoZero.bytes" 0).cut (w.tape (w.drawn + 1) (.extern "internal/bytealg.MakeNoZero.bytes" 0))) #[], ?_, ?_, ?_⟩
  · show Sem.run P (underlying t >>= _) w = _
    have h1 : ¬ (n : Int) < 0 := by omega
    have h2 : ¬ (281474976710656 : Int) < (n : Int) := by omega
    simp [run_underlying ht, h1, h2, Question.forced, newRow, Lib.size_digits, grownCap]
  · rw [Lib.size_digits]
    simpa using grownCap_ge w n e
  · exact digits_one _ _ _ (fun v hv => by simp at hv)
/-- So many bytes, more behind them perhaps. -/
def sumMake (elem : Nat) : List AV → M AV
  | [.int .i64 (.ofNat n)] => chk (Nat.ble n 100000) <| (newCells elem (List.replicate n .unk) true).bind fun id => M.pure (.slice id 0 n (.more 1))
  | _ => M.fail
def MakeOK (P : Program) (f : FuncId) (elem : Nat) : Prop := ∃ fn ps t, P.funcs[f]? = some fn ∧ (fn.name == "runtime.NumGoroutine") = false ∧ fn.body.isNone = true ∧ Extern.findNext fn = none ∧ Extern.find fn = some (Extern.BytealgMakeNoZero.makeNoZero ps #[t]) ∧ P.underlying t = some (.slice elem)
theorem VRs_unk : ∀ (l : List Value), (∀ v ∈ l, v.oneCell' = true) → VRs C (List.replicate l.length .unk) l
  | [], _ => rfl
  | v :: l, h => ⟨v, l, rfl, h v (by simp), VRs_unk l (fun x hx => h x (by simp [hx]))⟩
theorem extOK_make {f : FuncId} {elem : Nat} (hm : MakeOK P f elem) : ExtOK P base f (sumMake elem) := by
  refine ⟨fun {C s s' w args cargs r} h hw hG hf ha => ?_⟩
  unfold sumMake at h
  split at h
  · rename_i n
    simp only [run_chk, M.run_bind', M.run_pure'] at h
    obtain ⟨hn, id, s1, h, hr1, hr2⟩ := h
    subst hr1 hr2
    have hn : n ≤ 100000 := Nat.le_of_ble_eq_true hn
    obtain ⟨p, ps, e1, hp, hps⟩ := ha
    simp only [VRs] at hps
    have := hp.int_inv; subst this
    subst hps
    have hcargs : cargs = #[.int .i64 (Int.ofNat n)] := Array.ext' (by simpa using e1)
    subst hcargs
    obtain ⟨fn, ps, t, h1, h2, h3, h4, h5, ht⟩ := hm
    obtain ⟨cs, e2, hc, hone⟩ := run_make (P := P) (w := w) ps t elem ht n (by omega)
    have hlen : (cs.toList.take n).length = n := by simp; omega
    have hv : VRs C (List.replicate n .unk) (cs.toList.take n) := by
      have := VRs_unk (C := C) (cs.toList.take n) (fun v hv => hone v (List.mem_of_mem_take hv))
      rwa [hlen] at this
    obtain ⟨k1, k2, C', i, k3, k4, k5, k6, k7, k8, k9, k10⟩ := newCells_ok (rest := cs.toList.drop n) hw hG hf hv h (fun h => by cases h)
    have ecs : (cs.toList.take n ++ cs.toList.drop n).toArray = cs := by rw [List.take_append_drop]
    rw [ecs] at k7 k10
    rw [run_callFunc_extern h1 h2 h3 h4 h5]
    have e2' : (Extern.BytealgMakeNoZero.makeNoZero ps #[t] #[Value.int .i64 (Int.ofNat n)]).run P w = .ok (.slice (some ⟨w.heap.size, 0, none⟩) n cs.size) (w.drew.drew.alloc (.cells cs elem)) := e2
    rw [e2']
    refine ⟨C', ?_, k7, k8, k10.os, k10.tape, k10.output, k10.size, k10.below⟩
    simp only [VR]
    refine ⟨i, cs.size, k3, by rw [k4, k5], hc, ?_⟩
    rw [k6, k5, hlen]
    simp; omega
  · simp at h
end
end Go.Mach
end
section
namespace Go.Mach
open Go Go.RowKit
def args0 : List AV := [.strG 131072 false, .unk]
def args1 : List AV := [.strG 131072 true, .unk]
theorem below_of_kept {W w' : World} (hk : Kept W.heap.size W w') : Below W.heap.size W w' := ⟨hk.os, hk.tape, hk.output, hk.size, hk.below⟩
theorem tab_heap {P : Program} {W : World} {nm : String} {g : Nat} {asc : List Nat} (hg : P.globalNamed nm = some g) (ht : Lib.TabIs P W nm .u8 (asc.map Int.ofNat)) :
    ∃ arr gt fz, W.heap[g]? = some (.cells arr gt fz) ∧ arr.size = asc.length ∧ ∀ (k b : Nat), asc[k]? = some b → arr[k]? = some (Value.int .u8 (Int.ofNat b)) := by
  unfold Lib.TabIs World.var? at ht
  rw [hg] at ht
  simp only [Option.bind_some] at ht
  split at ht
  · rename_i cs el fz hb
    injection ht with ht
    refine ⟨cs, el, fz, hb, by rw [ht]; simp, fun k b hk => ?_⟩
    rw [ht]; simp [hk]
  · cases ht
theorem walk2 {P : Program} {f g : Nat} {asc : List Nat} {nm : String} (h0 : FunOK P f g asc args0) (h1 : FunOK P f g asc args1) (hg : P.globalNamed nm = some g) (s : ByteArray) (v : Value) (hv : v.oneCell' = true) (W : World) (hT : Lib.TabIs P W nm .u8 (asc.map Int.ofNat)) :
    Calls P f #[.string s, v] W fun e w' => e = .returned (.bool true) ∧ Below W.heap.size W w' := by
  obtain ⟨arr, gt, fz, e1, e2, e3⟩ := tab_heap hg hT
  have fin : Calls P f #[.string s, v] W fun e w' => e = .returned (.bool true) ∧ Kept W.heap.size W w' := by
    by_cases hs : 131072 < s.size
    · exact h1.calls W (fun C => ⟨_, _, rfl, ⟨s, rfl, by simp [hs]⟩, _, _, rfl, hv, rfl⟩) e1 e2 e3
    · exact h0.calls W (fun C => ⟨_, _, rfl, ⟨s, rfl, by simp [hs]⟩, _, _, rfl, hv, rfl⟩) e1 e2 e3
  exact fin.mono fun e w' ⟨he, hk⟩ => ⟨he, below_of_kept hk⟩
end Go.Mach
end
