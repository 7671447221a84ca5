/-
  OWN: an abstract machine over a function table, and the proof that its answers are the program's (part 1 of 3): what a call comes to, whatever the tape answers. By an AI agent. No person has read it.
-/
import GoSem.Dispatch
import Derived.Laws.Sem
import Derived.CallsIn
import Derived.Laws.StructEq
import Derived.Laws.Strings
import Derived.Laws.IdiomStrings
import Derived.Lib.Builder
import Derived.Laws.BytesString
section
/-! A machine over abstract values: it runs a function of the model at known arguments, whatever the tape answers. This text: values, heaps, the monad. -/
namespace Go.Mach
open Go

/-- The cap of a slice: it is known, or it is at least the length (of elements of so many cells). -/
inductive Cap where
  | known (c : Nat)
  | more (es : Nat)

/-- Values whose addresses are names of objects. unk: any value of one cell; strG, intG: a text, a number, of which it is known whether it is longer, more, than l; slice0: a slice of no elements, not nil; intU: a number. -/
inductive AV where
  | bool (b : Bool)
  | int (k : IntKind) (n : Int)
  | str (s : List Nat)
  | nilPtr
  | ptr (id off : Nat)
  | nilSlice
  | slice (id off len : Nat) (cap : Cap)
  | nilMap
  | map (id : Nat)
  | func (fn : Fn) (first cap : List AV)
  | nilFunc
  | iface (t : TypeId) (v : AV)
  | nilIface
  | agg (cs : List AV)
  | tuple (vs : List AV)
  | unk
  | strG (l : Nat) (g : Bool)
  | intG (l : Nat) (g : Bool)
  | slice0
  | intU
instance : Inhabited AV := ⟨.unk⟩

/-- A trie of natural numbers. -/
inductive T (α : Type) where
  | leaf : T α
  | node (l : T α) (v : Option α) (r : T α) : T α

noncomputable section

namespace T
variable {α : Type}
def get (t : T α) : Nat → Option α :=
  T.rec (motive := fun _ => Nat → Option α) (fun _ => none)
    (fun _ v _ gl gr k => Bool.rec (motive := fun _ => Option α) (Bool.rec (motive := fun _ => Option α) (gl (Nat.div k 2)) (gr (Nat.pred (Nat.div k 2))) (Nat.beq (Nat.mod k 2) 0)) v (Nat.beq k 0)) t
def single : Nat → Nat → Option α → T α :=
  Nat.rec (motive := fun _ => Nat → Option α → T α) (fun _ _ => leaf)
    (fun _ ih k x => Bool.rec (motive := fun _ => T α) (Bool.rec (motive := fun _ => T α) (node (ih (Nat.div k 2) x) none leaf) (node leaf none (ih (Nat.pred (Nat.div k 2)) x)) (Nat.beq (Nat.mod k 2) 0)) (node leaf x leaf) (Nat.beq k 0))
def set (t : T α) : Nat → Option α → T α :=
  T.rec (motive := fun _ => Nat → Option α → T α) (fun k x => single (Nat.succ (Nat.log2 (Nat.succ k))) k x)
    (fun l v r sl sr k x => Bool.rec (motive := fun _ => T α) (Bool.rec (motive := fun _ => T α) (node (sl (Nat.div k 2) x) v r) (node l v (sr (Nat.pred (Nat.div k 2)) x)) (Nat.beq (Nat.mod k 2) 0)) (node l x r) (Nat.beq k 0)) t

theorem get_leaf (k : Nat) : (leaf : T α).get k = none := rfl
theorem get_node (l r : T α) (v : Option α) (k : Nat) : (node l v r).get k = if k = 0 then v else if k % 2 = 0 then r.get (k / 2 - 1) else l.get (k / 2) := by
  show Bool.rec (motive := fun _ => Option α) (Bool.rec (motive := fun _ => Option α) (l.get (k / 2)) (r.get (Nat.pred (k / 2))) (Nat.beq (k % 2) 0)) v (Nat.beq k 0) = _
  by_cases h : k = 0
  · subst h; rfl
  · have h1 : Nat.beq k 0 = false := by cases k with | zero => exact absurd rfl h | succ k => rfl
    rw [h1, if_neg h]
    by_cases h2 : k % 2 = 0
    · rw [if_pos h2, h2]; rfl
    · have h3 : Nat.beq (k % 2) 0 = false := by cases hk : k % 2 with | zero => exact absurd hk h2 | succ k => rfl
      rw [if_neg h2, h3]
theorem set_node (l r : T α) (v x : Option α) (k : Nat) : (node l v r).set k x = if k = 0 then node l x r else if k % 2 = 0 then node l v (r.set (k / 2 - 1) x) else node (l.set (k / 2) x) v r := by
  show Bool.rec (motive := fun _ => T α) (Bool.rec (motive := fun _ => T α) (node (l.set (k / 2) x) v r) (node l v (r.set (Nat.pred (k / 2)) x)) (Nat.beq (k % 2) 0)) (node l x r) (Nat.beq k 0) = _
  by_cases h : k = 0
  · subst h; rfl
  · have h1 : Nat.beq k 0 = false := by cases k with | zero => exact absurd rfl h | succ k => rfl
    rw [h1, if_neg h]
    by_cases h2 : k % 2 = 0
    · rw [if_pos h2, h2]; rfl
    · have h3 : Nat.beq (k % 2) 0 = false := by cases hk : k % 2 with | zero => exact absurd hk h2 | succ k => rfl
      rw [if_neg h2, h3]
theorem single_succ (f k : Nat) (x : Option α) : single (f + 1) k x = if k = 0 then node leaf x leaf else if k % 2 = 0 then node leaf none (single f (k / 2 - 1) x) else node (single f (k / 2) x) none leaf := by
  show Bool.rec (motive := fun _ => T α) (Bool.rec (motive := fun _ => T α) (node (single f (k / 2) x) none leaf) (node leaf none (single f (Nat.pred (k / 2)) x)) (Nat.beq (k % 2) 0)) (node leaf x leaf) (Nat.beq k 0) = _
  by_cases h : k = 0
  · subst h; rfl
  · have h1 : Nat.beq k 0 = false := by cases k with | zero => exact absurd rfl h | succ k => rfl
    rw [h1, if_neg h]
    by_cases h2 : k % 2 = 0
    · rw [if_pos h2, h2]; rfl
    · have h3 : Nat.beq (k % 2) 0 = false := by cases hk : k % 2 with | zero => exact absurd hk h2 | succ k => rfl
      rw [if_neg h2, h3]
theorem get_single (x : Option α) : ∀ (f k j : Nat), k + 2 ≤ 2 ^ f → (single f k x).get j = if j = k then x else none := by
  intro f
  induction f with
  | zero => intro k j h; simp at h
  | succ f ih =>
    intro k j h
    rw [single_succ]
    by_cases h0 : k = 0
    · subst h0
      rw [if_pos rfl, get_node]
      by_cases hj : j = 0
      · simp [hj]
      · simp [hj, get_leaf]
    · rw [if_neg h0]
      have hf : 2 ^ (f + 1) = 2 ^ f + 2 ^ f := by rw [Nat.pow_succ]; omega
      by_cases h2 : k % 2 = 0
      · rw [if_pos h2, get_node]
        by_cases hj : j = 0
        · subst hj; rw [if_pos rfl, if_neg (fun h => h0 h.symm)]
        · rw [if_neg hj]
          by_cases hj2 : j % 2 = 0
          · rw [if_pos hj2, ih _ _ (by omega)]
            by_cases hjk : j = k
            · subst hjk; simp
            · rw [if_neg hjk, if_neg (by omega)]
          · rw [if_neg hj2, get_leaf, if_neg (by rintro rfl; exact hj2 h2)]
      · rw [if_neg h2, get_node]
        by_cases hj : j = 0
        · subst hj; rw [if_pos rfl, if_neg (fun h => h0 h.symm)]
        · rw [if_neg hj]
          by_cases hj2 : j % 2 = 0
          · rw [if_pos hj2, get_leaf, if_neg (by rintro rfl; exact h2 hj2)]
          · rw [if_neg hj2, ih _ _ (by omega)]
            by_cases hjk : j = k
            · subst hjk; simp
            · rw [if_neg hjk, if_neg (by omega)]
theorem get_set (x : Option α) : ∀ (t : T α) (k j : Nat), (t.set k x).get j = if j = k then x else t.get j := by
  intro t
  induction t with
  | leaf =>
    intro k j
    show (single (Nat.log2 (k + 1) + 1) k x).get j = _
    have : k + 1 < 2 ^ (Nat.log2 (k + 1) + 1) := Nat.lt_log2_self
    rw [get_single x _ k j (by omega)]
    rfl
  | node l v r ihl ihr =>
    intro k j
    rw [set_node]
    by_cases h0 : k = 0
    · subst h0
      rw [if_pos rfl, get_node, get_node]
      by_cases hj : j = 0 <;> simp [hj]
    · rw [if_neg h0]
      by_cases h2 : k % 2 = 0
      · rw [if_pos h2, get_node, get_node]
        by_cases hj : j = 0
        · subst hj; rw [if_pos rfl, if_neg (fun h => h0 h.symm), if_pos rfl]
        · rw [if_neg hj, if_neg hj]
          by_cases hj2 : j % 2 = 0
          · rw [if_pos hj2, if_pos hj2, ihr]
            by_cases hjk : j = k
            · subst hjk; simp
            · rw [if_neg hjk, if_neg (by omega)]
          · rw [if_neg hj2, if_neg hj2, if_neg (by rintro rfl; exact hj2 h2)]
      · rw [if_neg h2, get_node, get_node]
        by_cases hj : j = 0
        · subst hj; rw [if_pos rfl, if_neg (fun h => h0 h.symm), if_pos rfl]
        · rw [if_neg hj, if_neg hj]
          by_cases hj2 : j % 2 = 0
          · rw [if_pos hj2, if_pos hj2, if_neg (by rintro rfl; exact h2 hj2)]
          · rw [if_neg hj2, if_neg hj2, ihl]
            by_cases hjk : j = k
            · subst hjk; simp
            · rw [if_neg hjk, if_neg (by omega)]
end T

def undefA : AV := .tuple []

/-- One deferred call, or the mark of a range over a function. -/
structure ADef where
  mark : Option Nat
  fn : Fn
  args : List AV
  cap : List AV

/-- A frame: so many temporaries, and the deferred calls. -/
structure AAct where
  size : Nat
  tmps : T AV
  defers : List ADef

/-- An object. ro: it is not written. grown: there may be more cells behind those that are known. -/
inductive AObj where
  | cells (c : T AV) (len : Nat) (elem : TypeId) (ro grown : Bool)
  | map (es : List (AV × AV × Nat)) (clock : Nat)
  | strIter (s : List Nat) (pos : Nat)
  | mapIter (m : Option Nat) (since : Nat) (seen : List Nat) (stepped : Nat)
  | loop (state : LoopState) (pending : Option Code) (size : Nat) (tmps : T AV) (params : Array Tmp) (assign body : Code) (defers : Nat)
  | marks (opened : Bool)

structure St where
  h : T AObj
  n : Nat
  f : Nat
  w : Nat

/-- What a computation does hangs on what it touches alone. -/
def Loc {α : Type} (m : St → Option (α × St)) : Prop :=
  ∀ h n f w a s', m ⟨h, n, f, w⟩ = some (a, s') →
    ∃ F W, s'.f = f ||| F ∧ s'.w = w ||| W ∧ n ≤ s'.n ∧
      (∀ i, W.testBit i = true → F.testBit i = true) ∧
      (∀ i, W.testBit i = false → s'.h.get i = h.get i) ∧
      ∀ h₂ f₂ w₂, (∀ i, F.testBit i = true → h₂.get i = h.get i) →
        ∃ h₃, m ⟨h₂, n, f₂, w₂⟩ = some (a, ⟨h₃, s'.n, f₂ ||| F, w₂ ||| W⟩) ∧ ∀ i, h₃.get i = if W.testBit i = true then s'.h.get i else h₂.get i

structure M (α : Type) where
  run : St → Option (α × St)
  loc : Loc run

theorem Loc.pure {α : Type} (a : α) : Loc fun s => some (a, s) := by
  intro h n f w a' s' e
  injection e with e; injection e with e1 e2; subst e1 e2
  exact ⟨0, 0, by simp, by simp, Nat.le_refl _, by simp, fun _ _ => rfl, fun h₂ f₂ w₂ _ => ⟨h₂, by simp, by simp⟩⟩
theorem Loc.fail {α : Type} : Loc (α := α) fun _ => none := by
  intro h n f w a' s' e; cases e
def runBind {α β : Type} (m : M α) (k : α → M β) : St → Option (β × St) := fun s =>
  Option.rec (motive := fun _ => Option (β × St)) none (fun p => Prod.rec (motive := fun _ => Option (β × St)) (fun a s => (k a).run s) p) (m.run s)
theorem runBind_some {α β : Type} {m : M α} {k : α → M β} {s : St} {b : β} {s' : St} : runBind m k s = some (b, s') ↔ ∃ a s1, m.run s = some (a, s1) ∧ (k a).run s1 = some (b, s') := by
  unfold runBind
  cases h : m.run s with
  | none => simp
  | some p =>
    obtain ⟨a, s1⟩ := p
    simp only [Option.some.injEq, Prod.mk.injEq]
    exact ⟨fun h => ⟨a, s1, ⟨rfl, rfl⟩, h⟩, fun ⟨_, _, ⟨e1, e2⟩, h⟩ => e1 ▸ e2 ▸ h⟩
theorem Loc.bind {α β : Type} (m : M α) (k : α → M β) : Loc (runBind m k) := by
  intro h n f w b s' e
  obtain ⟨a, ⟨h1, n1, f1, w1⟩, e1, e2⟩ := runBind_some.1 e
  obtain ⟨F1, W1, a1, a2, a3, a4, a5, a6⟩ := m.loc _ _ _ _ _ _ e1
  obtain ⟨F2, W2, b1, b2, b3, b4, b5, b6⟩ := (k a).loc _ _ _ _ _ _ e2
  simp only at a1 a2 a3 a5 a6 b1 b2 b3 b5 b6
  refine ⟨F1 ||| F2, W1 ||| W2, by rw [b1, a1, Nat.or_assoc], by rw [b2, a2, Nat.or_assoc], Nat.le_trans a3 b3, ?_, ?_, ?_⟩
  · intro i hi
    simp only [Nat.testBit_or, Bool.or_eq_true] at hi ⊢
    exact hi.imp (a4 i) (b4 i)
  · intro i hi
    simp only [Nat.testBit_or, Bool.or_eq_false_iff] at hi
    rw [b5 i hi.2, a5 i hi.1]
  · intro h₂ f₂ w₂ hh
    obtain ⟨h3, r1, g1⟩ := a6 h₂ f₂ w₂ (fun i hi => hh i (by simp [Nat.testBit_or, hi]))
    obtain ⟨h4, r2, g2⟩ := b6 h3 (f₂ ||| F1) (w₂ ||| W1) (fun i hi => by
      rw [g1 i]
      by_cases hw : W1.testBit i = true
      · rw [if_pos hw]
      · rw [if_neg hw, hh i (by simp [Nat.testBit_or, hi]), a5 i (by simpa using hw)])
    refine ⟨h4, ?_, ?_⟩
    · rw [runBind_some]
      exact ⟨_, _, r1, by rw [r2, Nat.or_assoc, Nat.or_assoc]⟩
    · intro i
      rw [g2 i, g1 i]
      by_cases hw2 : W2.testBit i = true
      · simp [Nat.testBit_or, hw2]
      · by_cases hw1 : W1.testBit i = true
        · simp [Nat.testBit_or, hw2, hw1]
          exact (b5 i (by simpa using hw2)).symm
        · simp [Nat.testBit_or, hw2, hw1]

namespace M
def pure {α : Type} (a : α) : M α := ⟨fun s => some (a, s), Loc.pure a⟩
def bind {α β : Type} (m : M α) (k : α → M β) : M β := ⟨fun s => Option.rec (motive := fun _ => Option (β × St)) none (fun p => Prod.rec (motive := fun _ => Option (β × St)) (fun a s => (k a).run s) p) (m.run s), Loc.bind m k⟩
def fail {α : Type} : M α := ⟨fun _ => none, Loc.fail⟩
instance : Monad M := { pure := M.pure, bind := M.bind }
@[simp] theorem run_pure {α : Type} {a b : α} {s s' : St} : (Pure.pure a : M α).run s = some (b, s') ↔ a = b ∧ s = s' := by
  show some (a, s) = some (b, s') ↔ _
  simp
@[simp] theorem run_pure' {α : Type} {a b : α} {s s' : St} : (M.pure a : M α).run s = some (b, s') ↔ a = b ∧ s = s' := run_pure
@[simp] theorem run_fail {α : Type} {b : α} {s s' : St} : (M.fail : M α).run s = some (b, s') ↔ False := by
  show none = some (b, s') ↔ _
  simp
@[simp] theorem run_bind {α β : Type} {m : M α} {k : α → M β} {s s' : St} {b : β} : (m >>= k).run s = some (b, s') ↔ ∃ a s1, m.run s = some (a, s1) ∧ (k a).run s1 = some (b, s') := runBind_some
@[simp] theorem run_bind' {α β : Type} {m : M α} {k : α → M β} {s s' : St} {b : β} : (m.bind k).run s = some (b, s') ↔ ∃ a s1, m.run s = some (a, s1) ∧ (k a).run s1 = some (b, s') := runBind_some
end M

def bit (id : Nat) : Nat := Nat.pow 2 id
theorem testBit_bit (id i : Nat) : (bit id).testBit i = decide (id = i) := by
  show (2 ^ id).testBit i = _
  rw [Nat.testBit_two_pow]
/-- The object of a name. -/
def rd (id : Nat) : M AObj := ⟨fun s => match s with
  | ⟨h, n, f, w⟩ => match h.get id with
    | none => none
    | some o => some (o, ⟨h, n, Nat.lor f (bit id), w⟩), by
  intro h n f w a s' e
  simp only at e
  cases hg : h.get id with
  | none => rw [hg] at e; cases e
  | some o =>
    rw [hg] at e
    injection e with e; injection e with e1 e2; subst e1 e2
    refine ⟨bit id, 0, rfl, by simp, Nat.le_refl _, by simp, fun _ _ => rfl, fun h₂ f₂ w₂ hh => ⟨h₂, ?_, by simp⟩⟩
    have := hh id (by simp [testBit_bit])
    simp only [this, hg, Nat.or_zero]
    rfl⟩
theorem run_rd {id : Nat} {s s' : St} {o : AObj} : (rd id).run s = some (o, s') ↔ s.h.get id = some o ∧ s' = ⟨s.h, s.n, s.f ||| bit id, s.w⟩ := by
  obtain ⟨h, n, f, w⟩ := s
  show (match h.get id with | none => none | some o => some (o, (⟨h, n, Nat.lor f (bit id), w⟩ : St))) = some (o, s') ↔ _
  cases hg : h.get id with
  | none => simp
  | some o' =>
    simp only [Option.some.injEq, Prod.mk.injEq]
    exact ⟨fun ⟨a, b⟩ => ⟨a, b.symm⟩, fun ⟨a, b⟩ => ⟨a, b.symm⟩⟩
/-- Another object, or none, in the place of one. -/
def put (id : Nat) (o : Option AObj) : M Unit := ⟨fun s => match s with
  | ⟨h, n, f, w⟩ => match h.get id with
    | none => none
    | some _ => some ((), ⟨h.set id o, n, Nat.lor f (bit id), Nat.lor w (bit id)⟩), by
  intro h n f w a s' e
  simp only at e
  cases hg : h.get id with
  | none => rw [hg] at e; cases e
  | some o' =>
    rw [hg] at e
    injection e with e; injection e with e1 e2; subst e1 e2
    refine ⟨bit id, bit id, rfl, rfl, Nat.le_refl _, fun _ h => h, fun i hi => ?_, fun h₂ f₂ w₂ hh => ⟨h₂.set id o, ?_, fun i => ?_⟩⟩
    · simp only [testBit_bit, decide_eq_false_iff_not] at hi
      rw [T.get_set, if_neg (fun h => hi h.symm)]
    · have := hh id (by simp [testBit_bit])
      simp only [this, hg]
      rfl
    · simp only [T.get_set, testBit_bit, decide_eq_true_eq]
      by_cases hi : id = i
      · subst hi; simp
      · rw [if_neg (fun h => hi h.symm), if_neg hi]⟩
theorem run_put {id : Nat} {o : Option AObj} {s s' : St} {u : Unit} : (put id o).run s = some (u, s') ↔ (∃ o', s.h.get id = some o') ∧ s' = ⟨s.h.set id o, s.n, s.f ||| bit id, s.w ||| bit id⟩ := by
  obtain ⟨h, n, f, w⟩ := s
  show (match h.get id with | none => none | some _ => some ((), (⟨h.set id o, n, Nat.lor f (bit id), Nat.lor w (bit id)⟩ : St))) = some (u, s') ↔ _
  cases hg : h.get id with
  | none => simp
  | some o' =>
    simp only [Option.some.injEq, Prod.mk.injEq, true_and]
    exact ⟨fun b => ⟨⟨_, rfl⟩, b.symm⟩, fun ⟨_, b⟩ => b.symm⟩
/-- A new object. -/
def new (o : AObj) : M Nat := ⟨fun s => match s with
  | ⟨h, n, f, w⟩ => match h.get n with
    | some _ => none
    | none => some (n, ⟨h.set n (some o), Nat.succ n, Nat.lor f (bit n), Nat.lor w (bit n)⟩), by
  intro h n f w a s' e
  simp only at e
  cases hg : h.get n with
  | some o' => rw [hg] at e; cases e
  | none =>
    rw [hg] at e
    injection e with e; injection e with e1 e2; subst e1 e2
    refine ⟨bit n, bit n, rfl, rfl, Nat.le_succ _, fun _ h => h, fun i hi => ?_, fun h₂ f₂ w₂ hh => ⟨h₂.set n (some o), ?_, fun i => ?_⟩⟩
    · simp only [testBit_bit, decide_eq_false_iff_not] at hi
      rw [T.get_set, if_neg (fun h => hi h.symm)]
    · have := hh n (by simp [testBit_bit])
      simp only [this, hg]
      rfl
    · simp only [T.get_set, testBit_bit, decide_eq_true_eq]
      by_cases hi : n = i
      · subst hi; simp
      · rw [if_neg (fun h => hi h.symm), if_neg hi]⟩
theorem run_new {o : AObj} {s s' : St} {n : Nat} : (new o).run s = some (n, s') ↔ s.h.get s.n = none ∧ n = s.n ∧ s' = ⟨s.h.set s.n (some o), s.n + 1, s.f ||| bit s.n, s.w ||| bit s.n⟩ := by
  obtain ⟨h, m, f, w⟩ := s
  show (match h.get m with | some _ => none | none => some (m, (⟨h.set m (some o), Nat.succ m, Nat.lor f (bit m), Nat.lor w (bit m)⟩ : St))) = some (n, s') ↔ _
  cases hg : h.get m with
  | some o' => simp
  | none =>
    simp only [Option.some.injEq, Prod.mk.injEq, true_and]
    exact ⟨fun ⟨a, b⟩ => ⟨a.symm, b.symm⟩, fun ⟨a, b⟩ => ⟨a.symm, b.symm⟩⟩
/-- The names that a computation touches and changes. -/
def traced {α : Type} (m : M α) : M (α × Nat × Nat) := ⟨fun s => match s with
  | ⟨h, n, f, w⟩ => match m.run ⟨h, n, 0, 0⟩ with
    | none => none
    | some (a, ⟨h', n', f', w'⟩) => some ((a, f', w'), ⟨h', n', Nat.lor f f', Nat.lor w w'⟩), by
  intro h n f w a s' e
  simp only at e
  cases hm : m.run ⟨h, n, 0, 0⟩ with
  | none => rw [hm] at e; cases e
  | some p =>
    obtain ⟨a', h', n', f', w'⟩ := p
    rw [hm] at e
    injection e with e; injection e with e1 e2; subst e1 e2
    obtain ⟨F, W, a1, a2, a3, a4, a5, a6⟩ := m.loc _ _ _ _ _ _ hm
    simp only [Nat.zero_or] at a1 a2 a3 a5 a6
    subst a1 a2
    refine ⟨f', w', rfl, rfl, a3, a4, a5, fun h₂ f₂ w₂ hh => ?_⟩
    obtain ⟨h3, r, g⟩ := a6 h₂ 0 0 hh
    refine ⟨h3, ?_, g⟩
    simp only [r, Nat.zero_or]
    rfl⟩
theorem run_traced {α : Type} {m : M α} {s s' : St} {a : α} {f w : Nat} : (traced m).run s = some ((a, f, w), s') ↔ ∃ h n, m.run ⟨s.h, s.n, 0, 0⟩ = some (a, ⟨h, n, f, w⟩) ∧ s' = ⟨h, n, s.f ||| f, s.w ||| w⟩ := by
  obtain ⟨h, n, sf, sw⟩ := s
  show (match m.run ⟨h, n, 0, 0⟩ with
    | none => none
    | some (a, ⟨h', n', f', w'⟩) => some ((a, f', w'), (⟨h', n', Nat.lor sf f', Nat.lor sw w'⟩ : St))) = _ ↔ _
  cases hm : m.run ⟨h, n, 0, 0⟩ with
  | none => simp
  | some p =>
    obtain ⟨a', h', n', f', w'⟩ := p
    simp only [Option.some.injEq, Prod.mk.injEq]
    constructor
    · rintro ⟨⟨rfl, rfl, rfl⟩, rfl⟩; exact ⟨h', n', ⟨rfl, rfl⟩, rfl⟩
    · rintro ⟨h2, n2, ⟨rfl, e⟩, rfl⟩; cases e; exact ⟨⟨rfl, rfl, rfl⟩, rfl⟩
end
end Go.Mach
end
section
/-! A machine over abstract values: what each operation does. -/
namespace Go.Mach
open Go
noncomputable section

/-! ### small things -/
def chk {α : Type} (b : Bool) (m : M α) : M α := Bool.rec (motive := fun _ => M α) M.fail m b
@[simp] theorem run_chk {α : Type} {b : Bool} {m : M α} {s s' : St} {a : α} : (chk b m).run s = some (a, s') ↔ b = true ∧ m.run s = some (a, s') := by
  cases b <;> simp [chk, M.run_fail]
def opt {α β : Type} (o : Option α) (k : α → M β) : M β := Option.rec (motive := fun _ => M β) M.fail k o
@[simp] theorem run_opt {α β : Type} {o : Option α} {k : α → M β} {s s' : St} {b : β} : (opt o k).run s = some (b, s') ↔ ∃ a, o = some a ∧ (k a).run s = some (b, s') := by
  cases o <;> simp [opt, M.run_fail]

/-! ### values -/
def bytesOf (s : ByteArray) : List Nat := s.data.toList.map (·.toNat)
mutual
def ofV : Value → AV
  | .bool b => .bool b
  | .int k n => .int k n
  | .string s => .str (bytesOf s)
  | .pointer none => .nilPtr
  | .slice none 0 0 => .nilSlice
  | .map none => .nilMap
  | .func fn ⟨first⟩ ⟨cap⟩ => match fn with
    | .yield _ => .unk
    | _ => .func fn (ofVs first) (ofVs cap)
  | .nilFunc => .nilFunc
  | .iface t v => .iface t (ofV v)
  | .nilIface => .nilIface
  | .agg ⟨cs⟩ => .agg (ofVs cs)
  | .tuple ⟨vs⟩ => .tuple (ofVs vs)
  | _ => .unk
def ofVs : List Value → List AV
  | [] => []
  | v :: l => ofV v :: ofVs l
end

def AV.cells : AV → List AV
  | .agg cs => cs
  | v => [v]
def AV.one : AV → Bool
  | .agg _ | .tuple _ => false
  | _ => true
def allOne : List AV → Bool
  | [] => true
  | v :: l => v.one && allOne l

def rdCells {α : Type} (id : Nat) (k : T AV → Nat → TypeId → Bool → Bool → M α) : M α :=
  (rd id).bind fun o => match o with
    | .cells c len elem ro grown => k c len elem ro grown
    | _ => M.fail
/-- n cells from a place on. -/
def listFrom (c : T AV) : Nat → Nat → Option (List AV)
  | 0, _ => some []
  | n + 1, off => match c.get off with
    | none => none
    | some v => match listFrom c n (off + 1) with
      | none => none
      | some l => some (v :: l)
def putFrom (c : T AV) (off : Nat) : List AV → T AV
  | [] => c
  | v :: l => putFrom (c.set off (some v)) (off + 1) l
def setL : List AV → Nat → List AV → List AV
  | cs, _, [] => cs
  | cs, off, v :: l => setL (cs.set off v) (off + 1) l
def repA (c : List AV) : Nat → List AV
  | 0 => []
  | n + 1 => c ++ repA c n

section
variable (P : Program)

def aggT (t : TypeId) : Option Bool := match P.underlying t with
  | some (.struct _) | some (.array _ _) => some true
  | some _ => some false
  | none => none
def sizeT (t : TypeId) : Option Nat := match P.info? t with
  | some i => some i.size
  | none => none
def zeroT (t : TypeId) : Option AV := match P.info? t with
  | some i => match i.zero with
    | some v => some (ofV v)
    | none => none
  | none => none

def evalA (a : AAct) : Operand → AV
  | .tmp t => match a.tmps.get t with
    | some v => v
    | none => undefA
  | .const v => ofV v
  | .global g => bif Nat.blt g P.globals.size then .ptr g 0 else .unk
  | .func f => .func (.func f) [] []
def evalAll (a : AAct) : List Operand → List AV
  | [] => []
  | x :: l => evalA P a x :: evalAll a l
def evalParts (a : AAct) : List (Nat × Operand) → List (Nat × AV)
  | [] => []
  | (i, x) :: l => (i, evalA P a x) :: evalParts a l

def partA (t : TypeId) (cs : List AV) (off : Nat) : Option AV :=
  match aggT P t with
  | some true => match sizeT P t with
    | some n => bif Nat.ble (off + n) cs.length then some (.agg ((cs.drop off).take n)) else none
    | none => none
  | some false => cs[off]?
  | none => none

/-! ### cells -/
def loadA (t : TypeId) (id off : Nat) : M AV :=
  rdCells id fun c len _ _ _ => match aggT P t with
    | some true => opt (sizeT P t) fun n => chk (Nat.ble (off + n) len) (opt (listFrom c n off) fun l => M.pure (.agg l))
    | some false => chk (Nat.blt off len) (opt (c.get off) fun v => M.pure v)
    | none => M.fail
def storeCellsA (id off : Nat) (v : List AV) : M Unit :=
  rdCells id fun c len elem ro grown => chk (!ro && (Nat.ble (off + v.length) len && allOne v)) (put id (some (.cells (putFrom c off v) len elem ro grown)))
def storeA (t : TypeId) (id off : Nat) (v : AV) : M Unit :=
  opt (sizeT P t) fun n => chk (Nat.beq v.cells.length n) (storeCellsA id off v.cells)
/-- The values of a row of cells. -/
def readA (id off n : Nat) : M (List AV) :=
  rdCells id fun c len _ _ _ => chk (Nat.ble (off + n) len) (opt (listFrom c n off) fun l => M.pure l)
def newCells (elem : TypeId) (l : List AV) (grown : Bool) : M Nat := new (.cells (putFrom .leaf 0 l) l.length elem false grown)

/-! ### equality and keys -/
/-- Whether the fields of two structs are equal. -/
def eqFields (eq : TypeId → AV → AV → Option Bool) (xs ys : List AV) : List Field → Option Bool
  | [] => some true
  | f :: l => bif f.name == "_" then eqFields eq xs ys l else match partA P f.type xs f.offset, partA P f.type ys f.offset with
    | some x, some y => match eq f.type x y with
      | some true => eqFields eq xs ys l
      | some false => some false
      | none => none
    | _, _ => none
/-- Whether two values of a type are equal. -/
def eqA : Nat → TypeId → AV → AV → Option Bool
  | 0, _, _, _ => none
  | d + 1, t, x, y =>
    match P.underlying t, x, y with
    | some .bool, .bool a, .bool b => some (a == b)
    | some (.int _), .int k a, .int k' b => bif k == k' then some (a == b) else none
    | some .string, .str a, .str b => some (a == b)
    | some (.pointer _), .nilPtr, .nilPtr => some true
    | some (.pointer _), .nilPtr, .ptr _ _ => some false
    | some (.pointer _), .ptr _ _, .nilPtr => some false
    | some (.pointer el), .ptr i a, .ptr j b => match sizeT P el with
      | some (_ + 1) => bif Nat.beq i j then some (Nat.beq a b) else none
      | _ => none
    | some (.struct fields), .agg xs, .agg ys => bif P.stoodInHeld t then none else eqFields P (eqA d) xs ys fields.toList
    | some (.interface _), .nilIface, .nilIface => some true
    | some (.interface _), .nilIface, .iface _ _ => some false
    | some (.interface _), .iface _ _, .nilIface => some false
    | some (.interface _), .iface tx vx, .iface ty vy =>
      bif Nat.beq tx ty then
        match P.info? tx with
        | some i => bif i.comparable then eqA d tx vx vy else none
        | none => none
      else some false
    | some (.slice _), .nilSlice, .nilSlice => some true
    | some (.slice _), .nilSlice, .slice _ _ _ _ => some false
    | some (.slice _), .slice _ _ _ _, .nilSlice => some false
    | some (.map _ _), .nilMap, .nilMap => some true
    | some (.map _ _), .nilMap, .map _ => some false
    | some (.map _ _), .map _, .nilMap => some false
    | some (.func _ _ _), .nilFunc, .nilFunc => some true
    | some (.func _ _ _), .nilFunc, .func _ _ _ => some false
    | some (.func _ _ _), .func _ _ _, .nilFunc => some false
    | _, _, _ => none

/-- Whether two keys are equal. -/
def keyEq : AV → AV → Option Bool
  | .bool a, .bool b => some (a == b)
  | .int k a, .int k' b => bif k == k' then some (a == b) else none
  | .str a, .str b => some (a == b)
  | _, _ => none
/-- Rows of numbers, texts and truth values, the same. -/
def sameL : List AV → List AV → Bool
  | [], [] => true
  | .bool a :: l, .bool b :: m => a == b && sameL l m
  | .int k a :: l, .int k' b :: m => k == k' && (a == b && sameL l m)
  | .str a :: l, .str b :: m => a == b && sameL l m
  | _, _ => false
/-- Whether two keys of a type are equal. -/
def keyEqT (t : TypeId) (k e : AV) : Option Bool := match k, e with
  | .agg a, .agg b => match eqA P 40 t (.agg a) (.agg b) with
    | some true => bif sameL a b then some true else none
    | some false => some false
    | none => none
  | _, _ => keyEq k e
/-- The entry of a key, and its place. -/
def findA (t : TypeId) (k : AV) : List (AV × AV × Nat) → Nat → Option (Option (Nat × AV))
  | [], _ => some none
  | (e, v, _) :: es, i => match keyEqT P t k e with
    | some true => some (some (i, v))
    | some false => findA t k es (i + 1)
    | none => none
/-- Keys of these types are numbers, texts and truth values. -/
def keyOk0 (t : TypeId) (k : AV) : Bool :=
  match P.underlying t, k with
  | some .bool, .bool _ => true
  | some (.int _), .int _ _ => true
  | some .string, .str _ => true
  | _, _ => false
/-- .. or structs of these. -/
def keyOk (t : TypeId) (k : AV) : Bool := keyOk0 P t k || match P.underlying t, k with
  | some (.struct fields), .agg l => fields.toList.all fun f => !(f.name == "_") && match partA P f.type l f.offset with
    | some x => keyOk0 P f.type x
    | none => false
  | _, _ => false

/-! ### operators -/
def lessB : List Nat → List Nat → Bool
  | _, [] => false
  | [], _ :: _ => true
  | a :: x, b :: y => Nat.blt a b || (Nat.beq a b && lessB x y)
def strOp (op : BinOp) (x y : List Nat) : Option AV :=
  match op with
  | .add => bif Nat.ble (x.length + y.length) 1000000 then some (.str (x ++ y)) else none
  | .eql => some (.bool (x == y))
  | .neq => some (.bool (!(x == y)))
  | .lss => some (.bool (lessB x y))
  | .leq => some (.bool (lessB x y || x == y))
  | .gtr => some (.bool (!(lessB x y || x == y)))
  | .geq => some (.bool (!lessB x y))
  | _ => none
def intOp (op : BinOp) (k : IntKind) (x y : Int) : Option AV :=
  match op with
  | .add => some (.int k (k.wrap (x + y)))
  | .sub => some (.int k (k.wrap (x - y)))
  | .mul => some (.int k (k.wrap (x * y)))
  | .quo => bif y == 0 then none else some (.int k (k.wrap (x.tdiv y)))
  | .rem => bif y == 0 then none else some (.int k (x.tmod y))
  | .and => some (.int k (k.wrap ((BitVec.ofInt k.bits x &&& BitVec.ofInt k.bits y).toNat)))
  | .or => some (.int k (k.wrap ((BitVec.ofInt k.bits x ||| BitVec.ofInt k.bits y).toNat)))
  | .xor => some (.int k (k.wrap ((BitVec.ofInt k.bits x ^^^ BitVec.ofInt k.bits y).toNat)))
  | .andNot => some (.int k (k.wrap ((BitVec.ofInt k.bits x &&& ~~~BitVec.ofInt k.bits y).toNat)))
  | .eql => some (.bool (x == y))
  | .neq => some (.bool (!(x == y)))
  | .lss => some (.bool (decide (x < y)))
  | .leq => some (.bool (decide (x ≤ y)))
  | .gtr => some (.bool (decide (x > y)))
  | .geq => some (.bool (decide (x ≥ y)))
  | .shl | .shr => none
def shiftA (op : BinOp) (k : IntKind) (x y : Int) : Option AV :=
  bif decide (y < 0) then none else
  match op with
  | .shl => some (.int k (k.wrap (x * 2 ^ (min y.toNat k.bits))))
  | .shr => some (.int k (x.fdiv (2 ^ (min y.toNat k.bits))))
  | _ => none
/-- Two values are compared without a look at what their types hide. -/
def plainEq (t : TypeId) (lit : Bool) (x y : AV) : Bool :=
  match x, y with
  | .nilIface, .nilIface => lit
  | .agg _, _ => !P.eqGuardType P.depth t
  | _, _ => true
def binA (op : BinOp) (lit : Bool) (t : TypeId) (x y : AV) : Option AV :=
  match x, y with
  | .int k a, .int k' b => match op with
    | .shl | .shr => shiftA op k a b
    | _ => bif k == k' then intOp op k a b else none
  | .str a, .str b => strOp op a b
  | .intG l g, .int .i64 n => match op with
    | .gtr => bif decide (n = Int.ofNat l) then some (.bool g) else none
    | _ => none
  | _, _ => match op with
    | .eql => bif plainEq P t lit x y then match eqA P 40 t x y with
        | some b => some (.bool b)
        | none => none
      else none
    | .neq => bif plainEq P t lit x y then match eqA P 40 t x y with
        | some b => some (.bool (!b))
        | none => none
      else none
    | _ => none
def unA (op : UnOp) (x : AV) : Option AV :=
  match op, x with
  | .neg, .int k n => some (.int k (k.wrap (0 - n)))
  | .xor, .int k n => intOp .xor k (if k.signed then -1 else k.max) n
  | .not, .bool b => some (.bool (!b))
  | _, _ => none

/-! ### places -/
def fieldAddrA (s : TypeId) (x : AV) (field : Nat) : Option AV :=
  match P.underlying s, x with
  | some (.struct fields), .ptr id off => match fields[field]? with
    | some f => match sizeT P f.type with
      | some (_ + 1) => some (.ptr id (off + f.offset))
      | _ => none
    | none => none
  | _, _ => none
def indexAddrA (t : TypeId) (x ix : AV) : Option AV :=
  match P.underlying t, x, ix with
  | some (.array len elem), .ptr id off, .int _ (.ofNat i) => match sizeT P elem with
    | some n => bif Nat.blt i len then some (.ptr id (off + i * n)) else none
    | none => none
  | some (.slice elem), .slice id off len _, .int _ (.ofNat i) => match sizeT P elem with
    | some n => bif Nat.blt i len then some (.ptr id (off + i * n)) else none
    | none => none
  | _, _, _ => none
def indexA (t : TypeId) (x ix : AV) : Option AV :=
  match P.underlying t, x, ix with
  | some (.array len elem), .agg cs, .int _ (.ofNat i) => match sizeT P elem with
    | some n => bif Nat.blt i len then partA P elem cs (i * n) else none
    | none => none
  | some .string, .str s, .int _ (.ofNat i) => match s[i]? with
    | some b => some (.int .u8 (Int.ofNat b))
    | none => none
  | _, _, _ => none
def fieldA (t : TypeId) (x : AV) (field : Nat) : Option AV :=
  match P.underlying t, x with
  | some (.struct fields), .agg cs => match fields[field]? with
    | some f => partA P f.type cs f.offset
    | none => none
  | _, _ => none

/-- A bound of a slice expression; none: it is not there. -/
def boundA : Option AV → Option (Option Nat)
  | none => some none
  | some (.int _ (.ofNat n)) => some (some n)
  | some _ => none
/-- The bounds of a slice expression within len and cap; a cap that is not known is at least len. -/
def boundsN (len : Nat) (cap : Option Nat) (lo hi mx : Option Nat) : Option (Nat × Nat × Option Nat) :=
  match mx, hi with
  | some m, some h => bif Nat.ble m (cap.getD len) && (Nat.ble h m && Nat.ble (lo.getD 0) h) then some (lo.getD 0, h, some m) else none
  | some _, none => none
  | none, some h => bif Nat.ble h (cap.getD len) && Nat.ble (lo.getD 0) h then some (lo.getD 0, h, cap) else none
  | none, none => bif Nat.ble (lo.getD 0) len then some (lo.getD 0, len, cap) else none
def boundsA (len : Nat) (cap : Option Nat) (lo hi mx : Option AV) : Option (Nat × Nat × Option Nat) :=
  match boundA lo, boundA hi, boundA mx with
  | some lo, some hi, some mx => boundsN len cap lo hi mx
  | _, _, _ => none
def cutA (id off size : Nat) (es : Option Nat) : Option (Nat × Nat × Option Nat) → Option AV
  | some (l, h, some m) => some (.slice id (bif Nat.beq m l then off else off + l * size) (h - l) (.known (m - l)))
  | some (l, h, none) => match es with
    | some es => bif Nat.beq es size && (Nat.beq l 0 || Nat.ble (l + 1) h) then some (.slice id (off + l * size) (h - l) (.more es)) else bif Nat.beq h l then some .slice0 else none
    | none => none
  | none => none
def sliceA (t : TypeId) (x : AV) (lo hi mx : Option AV) : Option AV :=
  match P.underlying t, x with
  | some .string, .str s => match mx with
    | some _ => none
    | none => match boundsA s.length (some s.length) lo hi none with
      | some (l, h, _) => some (.str ((s.drop l).take (h - l)))
      | none => none
  | some (.slice elem), .nilSlice => match boundsA 0 (some 0) lo hi mx, sizeT P elem with
    | some (_, _, some m), some _ => bif Nat.beq m 0 then some .nilSlice else none
    | _, _ => none
  | some (.slice elem), .slice id off len cap => match sizeT P elem with
    | some size => match cap with
      | .known c => cutA id off size none (boundsA len (some c) lo hi mx)
      | .more es => cutA id off size (some es) (boundsA len none lo hi mx)
    | none => none
  | some (.array n elem), .ptr id off => match sizeT P elem with
    | some size => cutA id off size none (boundsA n (some n) lo hi mx)
    | none => none
  | _, _ => none

/-! ### making -/
def fillA (place : Nat → Option (Nat × Nat)) (cells : List AV) : List (Nat × AV) → Option (List AV)
  | [] => some cells
  | (i, v) :: rest => match place i with
    | none => none
    | some (off, size) => bif Nat.beq v.cells.length size && Nat.ble (off + size) cells.length then fillA place (setL cells off v.cells) rest else none
def structPlace (fields : List Field) (i : Nat) : Option (Nat × Nat) := match fields[i]? with
  | some f => match sizeT P f.type with
    | some n => some (f.offset, n)
    | none => none
  | none => none
def sized (fields : List Field) : Bool := match fields with
  | [] => true
  | f :: l => (sizeT P f.type).isSome && sized l
def buildA (t : TypeId) (parts : List (Nat × AV)) : Option AV :=
  match zeroT P t, P.underlying t with
  | some zero, some (.struct fields) => bif sized P fields.toList then match fillA (structPlace P fields.toList) zero.cells parts with
      | some l => some (.agg l)
      | none => none
    else none
  | some zero, some (.array _ elem) => match sizeT P elem with
    | some size => match fillA (fun i => some (i * size, size)) zero.cells parts with
      | some l => some (.agg l)
      | none => none
    | none => none
  | _, _ => none
/-- The cells of n zero values. -/
def zerosA (t : TypeId) (n : Nat) : Option (List AV) :=
  match zeroT P t, sizeT P t with
  | some z, some (size + 1) => bif Nat.beq z.cells.length (size + 1) && Nat.ble (n * (size + 1)) 1000000 then some (repA z.cells n) else none
  | _, _ => none
def buildSliceA (t : TypeId) (len : Nat) (parts : List (Nat × AV)) : M AV :=
  match P.underlying t with
  | some (.slice elem) => opt (zerosA P elem len) fun z => opt (sizeT P elem) fun size =>
      opt (fillA (fun i => some (i * size, size)) z parts) fun l => (newCells elem l false).bind fun id => M.pure (.slice id 0 len (.known len))
  | _ => M.fail
/-- An element has not too many bytes. -/
def lightT (t : TypeId) : Bool := match P.info? t with
  | some i => Nat.ble i.bytes 100000
  | none => false
def makeSliceA (t : TypeId) (len cap : AV) : M AV :=
  match P.underlying t, len, cap with
  | some (.slice elem), .int _ (.ofNat l), .int _ (.ofNat c) =>
    chk (lightT P elem && (Nat.ble l c && Nat.ble c 100000)) (opt (zerosA P elem c) fun z => (newCells elem z false).bind fun id => M.pure (.slice id 0 l (.known c)))
  | _, _, _ => M.fail

/-! ### maps -/
def rdMap {α : Type} (id : Nat) (k : List (AV × AV × Nat) → Nat → M α) : M α :=
  (rd id).bind fun o => match o with
    | .map es clock => k es clock
    | _ => M.fail
def found (t : TypeId) (commaOk : Bool) : Option (Nat × AV) → Option AV
  | some (_, v) => some (bif commaOk then .tuple [v, .bool true] else v)
  | none => match zeroT P t with
    | some z => some (bif commaOk then .tuple [z, .bool false] else z)
    | none => none
def lookupA (t : TypeId) (x k : AV) (commaOk : Bool) : M AV :=
  match P.underlying t with
  | some (.map kt et) => chk (keyOk P kt k) <| match x with
    | .nilMap => opt (found P et commaOk none) fun v => M.pure v
    | .map id => rdMap id fun es _ => opt (findA P kt k es 0) fun r => opt (found P et commaOk r) fun v => M.pure v
    | _ => M.fail
  | _ => M.fail
def setAt : List (AV × AV × Nat) → Nat → AV → List (AV × AV × Nat)
  | [], _, _ => []
  | (k, _, b) :: l, 0, v => (k, v, b) :: l
  | e :: l, n + 1, v => e :: setAt l n v
def updateA (t : TypeId) (x k v : AV) : M Unit :=
  match P.underlying t, x with
  | some (.map kt _), .map id => chk (keyOk P kt k) <| rdMap id fun es clock => opt (findA P kt k es 0) fun r => match r with
    | some (i, _) => put id (some (.map (setAt es i v) clock))
    | none => put id (some (.map (es ++ [(k, v, clock)]) (clock + 1)))
  | _, _ => M.fail
def deleteA (t : TypeId) (x k : AV) : M AV :=
  match P.underlying t, x with
  | some (.map kt _), .map id => chk (keyOk P kt k) <| rdMap id fun es clock => opt (findA P kt k es 0) fun r => match r with
    | some (i, _) => (put id (some (.map (es.eraseIdx i) clock))).bind fun _ => M.pure (.tuple [])
    | none => (put id (some (.map es clock))).bind fun _ => M.pure (.tuple [])
  | some (.map kt _), .nilMap => chk (keyOk P kt k) (M.pure (.tuple []))
  | _, _ => M.fail
def rangeA (t : TypeId) (x : AV) : M AV :=
  match P.underlying t, x with
  | some (.map _ _), .nilMap => (new (.mapIter none 0 [] 0)).bind fun id => M.pure (.ptr id 0)
  | some (.map _ _), .map m => rdMap m fun _ clock => (new (.mapIter (some m) clock [] clock)).bind fun id => M.pure (.ptr id 0)
  | _, _ => M.fail
def memB (n : Nat) : List Nat → Bool
  | [] => false
  | m :: l => Nat.beq n m || memB n l
def leftA (seen : List Nat) (since : Nat) (old : Bool) : List (AV × AV × Nat) → List (AV × AV × Nat)
  | [] => []
  | e :: l => bif !memB e.2.2 seen && (Nat.blt e.2.2 since == old) then e :: leftA seen since old l else leftA seen since old l
def allNew (last : Nat) : List (AV × AV × Nat) → Bool
  | [] => true
  | e :: l => Nat.ble last e.2.2 && allNew last l
def nextA (it : AV) (isString : Bool) : M AV :=
  match it with
  | .ptr id 0 => (rd id).bind fun o => match o, isString with
    | .mapIter none _ _ _, false => M.pure (.tuple [.bool false])
    | .mapIter (some m) since seen last, false => rdMap m fun es clock =>
        chk (seen.isEmpty || (es.isEmpty || !allNew last es)) <| match leftA seen since true es, leftA seen since false es with
        | [], [] => M.pure (.tuple [.bool false])
        | [(k, v, b)], [] => (put id (some (.mapIter (some m) since (seen ++ [b]) clock))).bind fun _ => M.pure (.tuple [.bool true, k, v])
        | _, _ => M.fail
    | _, _ => M.fail
  | _ => M.fail

def bornA (b : Nat) : List (AV × AV × Nat) → Option (AV × AV)
  | [] => none
  | e :: l => bif Nat.beq e.2.2 b then some (e.1, e.2.1) else bornA b l
def lastA : List Nat → Option Nat
  | [] => none
  | [b] => some b
  | _ :: l => lastA l
/-- The entry at which an iterator stands. -/
def entryA (it : AV) : M AV :=
  match it with
  | .ptr id 0 => (rd id).bind fun o => match o with
    | .mapIter (some m) _ seen last => rdMap m fun es clock => chk (Nat.beq clock last) <| opt (lastA seen) fun b => opt (bornA b es) fun e => M.pure (.tuple [e.1, e.2])
    | _ => M.fail
  | _ => M.fail

/-! ### builtins -/
def lenOfA : AV → Option Nat
  | .nilSlice => some 0
  | .slice _ _ n _ => some n
  | .str s => some s.length
  | _ => none
def firstA (size n : Nat) : AV → M (List AV)
  | .nilSlice => M.pure []
  | .slice id off _ _ => readA id off (n * size)
  | .str s => M.pure ((s.take n).map fun b => .int .u8 (Int.ofNat b))
  | _ => M.fail
/-- What is appended is no number. -/
def wholeT : Option TypeId → Bool
  | some xt => match P.underlying xt with
    | some (.int _) => false
    | some _ => true
    | none => false
  | none => true
/-- The zero value of a type has the type's size. -/
def fitT (t : TypeId) : Bool := match zeroT P t, sizeT P t with
  | some z, some n => Nat.beq z.cells.length n
  | _, _ => false
def appendA (argTypes : List TypeId) (s x : AV) : M AV :=
  opt argTypes[0]? fun st => match P.underlying st with
  | some (.slice elem) => chk (wholeT P argTypes[1]? && (lightT P elem && fitT P elem)) <| opt (sizeT P elem) fun size => opt (lenOfA x) fun n =>
    chk (Nat.blt 0 size && Nat.ble n 100000) <| (firstA size n x).bind fun fresh =>
    chk (Nat.beq fresh.length (n * size) && allOne fresh) <| match s with
    | .nilSlice => bif Nat.beq n 0 then M.pure .nilSlice else (newCells elem fresh true).bind fun id => M.pure (.slice id 0 n (.more size))
    | .slice id off len cap => chk (Nat.ble len 100000) <| match cap with
      | .known c => chk (Nat.ble c 100000) <|
        bif Nat.ble (len + n) c then (storeCellsA id (off + len * size) fresh).bind fun _ => M.pure (.slice id off (len + n) (.known c))
        else (readA id off (len * size)).bind fun old => (newCells elem (old ++ fresh) true).bind fun id => M.pure (.slice id 0 (len + n) (.more size))
      | .more es => bif Nat.beq n 0 then M.pure (.slice id off len (.more es)) else rdCells id fun c l e ro grown =>
        chk (grown && (!ro && (Nat.beq e elem && (Nat.beq es size && Nat.ble (off + len * size) l)))) <| (put id none).bind fun _ =>
        bif Nat.beq off 0 then (new (.cells (putFrom c (len * size) fresh) (len * size + n * size) elem false true)).bind fun id => M.pure (.slice id 0 (len + n) (.more size))
        else opt (listFrom c (len * size) off) fun old => (newCells elem (old ++ fresh) true).bind fun id => M.pure (.slice id 0 (len + n) (.more size))
    | _ => M.fail
  | _ => M.fail
def copyA (argTypes : List TypeId) (d s : AV) : M AV :=
  opt argTypes[0]? fun dt => match P.underlying dt with
  | some (.slice elem) => opt (sizeT P elem) fun size => opt (lenOfA s) fun a => opt (lenOfA d) fun b =>
    (firstA size (Nat.min a b) s).bind fun cells => match d with
      | .nilSlice => M.pure (.int .i64 (Int.ofNat (Nat.min a b)))
      | .slice id off _ _ => (storeCellsA id off cells).bind fun _ => M.pure (.int .i64 (Int.ofNat (Nat.min a b)))
      | _ => M.fail
  | _ => M.fail
def lenA (argTypes : List TypeId) (x : AV) : M AV :=
  opt argTypes[0]? fun t => match P.underlying t, x with
  | some .string, .str s => M.pure (.int .i64 (Int.ofNat s.length))
  | some .string, .strG l g => M.pure (.intG l g)
  | some (.array n _), _ => M.pure (.int .i64 (Int.ofNat n))
  | some (.pointer arr), _ => match P.underlying arr with
    | some (.array n _) => M.pure (.int .i64 (Int.ofNat n))
    | _ => M.fail
  | some (.slice _), .nilSlice => M.pure (.int .i64 0)
  | some (.slice _), .slice _ _ n _ => M.pure (.int .i64 (Int.ofNat n))
  | some (.slice _), .slice0 => M.pure (.int .i64 0)
  | some (.map _ _), .nilMap => M.pure (.int .i64 0)
  | some (.map _ _), .map id => rdMap id fun es _ => M.pure (.int .i64 (Int.ofNat es.length))
  | _, _ => M.fail
def capA (argTypes : List TypeId) (x : AV) : M AV :=
  opt argTypes[0]? fun t => match P.underlying t, x with
  | some (.array n _), _ => M.pure (.int .i64 (Int.ofNat n))
  | some (.slice _), .nilSlice => M.pure (.int .i64 0)
  | some (.slice _), .slice _ _ _ (.known c) => M.pure (.int .i64 (Int.ofNat c))
  | _, _ => M.fail
def clearA (argTypes : List TypeId) (x : AV) : M AV :=
  opt argTypes[0]? fun t => match P.underlying t, x with
  | some (.map _ _), .nilMap => M.pure (.tuple [])
  | some (.map _ _), .map id => rdMap id fun _ clock => (put id (some (.map [] clock))).bind fun _ => M.pure (.tuple [])
  | some (.slice _), .nilSlice => M.pure (.tuple [])
  | some (.slice elem), .slice id off n _ => bif Nat.beq n 0 then M.pure (.tuple []) else
    opt (zerosA P elem n) fun z => (storeCellsA id off z).bind fun _ => M.pure (.tuple [])
  | _, _ => M.fail
def minA (isMax : Bool) : AV → List AV → Option AV
  | x, [] => some x
  | .int k a, .int _ b :: l => minA isMax (.int k (bif isMax then (bif decide (b > a) then b else a) else (bif decide (b < a) then b else a))) l
  | _, _ => none
def bytesA : List AV → Option (List Nat)
  | [] => some []
  | .int .u8 (.ofNat b) :: l => bif Nat.blt b 256 then match bytesA l with
      | some r => some (b :: r)
      | none => none
    else none
  | _ => none
/-- The address of a slice's first element. -/
def sliceDataA : AV → M AV
  | .nilSlice => M.pure .nilPtr
  | .slice id off _ (.known (_ + 1)) => M.pure (.ptr id off)
  | .slice id off (_ + 1) (.more _) => M.pure (.ptr id off)
  | _ => M.fail
/-- Bytes that become a string's: they are not written any more. -/
def unsafeStringA (argTypes : List TypeId) (p n : AV) : M AV :=
  opt argTypes[0]? fun pt => match p, n with
  | .nilPtr, .int _ (.ofNat 0) => M.pure (.str [])
  | .ptr _ _, .int _ (.ofNat 0) => M.pure (.str [])
  | .ptr id off, .int _ (.ofNat (n + 1)) => match P.underlying pt with
    | some (.pointer e) => rdCells id fun c len elem ro grown => chk (!ro && (Nat.beq elem e && (Nat.beq (P.cellsOf e) 1 && (Nat.ble (off + (n + 1)) len && Nat.ble n 1000000)))) <|
      opt (listFrom c (n + 1) off) fun l => opt (bytesA l) fun s => (put id (some (.cells c len elem true grown))).bind fun _ => M.pure (.str s)
    | _ => M.fail
  | _, _ => M.fail
def builtinA (b : Builtin) (argTypes : List TypeId) (args : List AV) : M AV :=
  match b, args with
  | .unsafeSliceData, [x] => sliceDataA x
  | .unsafeString, [p, n] => unsafeStringA P argTypes p n
  | .append, [s, x] => appendA P argTypes s x
  | .copy, [d, s] => copyA P argTypes d s
  | .len, [x] => lenA P argTypes x
  | .cap, [x] => capA P argTypes x
  | .clear, [x] => clearA P argTypes x
  | .delete, [m, k] => opt argTypes[0]? fun t => deleteA P t m k
  | .min, x :: l => opt (minA false x l) fun v => M.pure v
  | .max, x :: l => opt (minA true x l) fun v => M.pure v
  | _, _ => M.fail

def convertA (src dst : TypeId) (x : AV) : Option AV :=
  match P.underlying src, P.underlying dst, x with
  | some _, some (.int k), .int _ n => some (.int k (k.wrap n))
  | some _, some .string, .str s => some (.str s)
  | _, _, _ => none

def isByteT (t : TypeId) : Bool := match P.underlying t with
  | some (.int .u8) => true
  | _ => false
/-- Conversions. -/
def convA (src dst : TypeId) (x : AV) : M AV :=
  match P.underlying src, P.underlying dst, x with
  | some (.pointer t), some .unsafePointer, .ptr id off => rdCells id fun _ len _ _ _ => chk (Nat.blt off len) <| match sizeT P t with
    | some (_ + 1) => M.pure (.ptr id off)
    | _ => M.fail
  | some .unsafePointer, some (.pointer u), .ptr id off => rdCells id fun _ len elem _ grown => chk (!grown && ((sizeT P u).isSome && liesAt P P.depth elem (len / P.cellsOf elem) off u 1)) (M.pure (.ptr id off))
  | some (.slice e), some .string, .nilSlice => chk (isByteT P e) (M.pure (.str []))
  | some (.slice e), some .string, .slice id off n _ => chk (isByteT P e) <| (readA id off n).bind fun l => opt (bytesA l) fun s => M.pure (.str s)
  | some .string, some (.slice e), .str b => chk (isByteT P e) <| (newCells e (b.map fun c => AV.int .u8 (Int.ofNat c)) true).bind fun id => M.pure (.slice id 0 b.length (.more 1))
  | _, _, _ => opt (convertA P src dst x) fun v => M.pure v

def typeAssertA (x : AV) (asserted : TypeId) (commaOk : Bool) : Option AV :=
  let holds (v : AV) : Option AV := some (bif commaOk then .tuple [v, .bool true] else v)
  let fails : Option AV := bif commaOk then match zeroT P asserted with
      | some z => some (.tuple [z, .bool false])
      | none => none
    else none
  match P.underlying asserted, x with
  | some (.interface _), .nilIface => fails
  | some (.interface want), .iface t v => match P.info? t with
    | some i => match Instr.missingMethod want i.methods with
      | none => holds (.iface t v)
      | some _ => fails
    | none => none
  | some _, .nilIface => fails
  | some _, .iface t v => bif Nat.beq t asserted then holds v else fails
  | _, _ => none
def nilCheckA : AV → Option AV
  | .ptr id off => some (.ptr id off)
  | .func (.func f) x y => some (.func (.func f) x y)
  | .iface t v => some (.iface t v)
  | _ => none
def ifaceA (t : TypeId) (x : AV) : Option AV := match P.underlying t with
  | some (.interface _) => none
  | some _ => some (.iface t x)
  | none => none
def funcA (fn : Fn) (first cap : List AV) : Option AV := match fn with
  | .yield _ => none
  | _ => some (.func fn first cap)
def extractA (x : AV) (i : Nat) : Option AV := match x with
  | .tuple vs => vs[i]?
  | _ => none
def pickA (c x y : AV) : Option AV := match c with
  | .bool true => some x
  | .bool false => some y
  | _ => none

/-! ### functions -/
/-- How a piece of code is left. -/
inductive AExit where
  | normal
  | exit (id : Nat)
  | ret

structure Fns where
  code : Option Nat → Code → AAct → M (AExit × AAct)
  call : FuncId → List AV → M AV

/-- The function and the receiver of a method of a value. -/
def methodA (t : TypeId) (v : AV) (name : String) : M (FuncId × AV) :=
  opt (P.info? t) fun i => opt (i.methods.find? (·.name == name)) fun m => chk m.path.isEmpty <| opt m.func fun fp =>
  match P.underlying t, fp with
  | some (.pointer _), (f, true) => M.pure (f, v)
  | some (.pointer elem), (f, false) => match v with
    | .ptr id off => (loadA P elem id off).bind fun r => M.pure (f, r)
    | _ => M.fail
  | some _, (f, false) => M.pure (f, v)
  | _, _ => M.fail

def putAll (size : Nat) : List Tmp → List AV → T AV → Option (T AV)
  | [], [], t => some t
  | p :: ps, v :: vs, t => bif Nat.blt p size then putAll size ps vs (t.set p (some v)) else none
  | _, _, _ => none

def rdLoop {α : Type} (l : Nat) (k : LoopState → Option Code → Nat → T AV → Array Tmp → Code → Code → Nat → M α) : M α :=
  (rd l).bind fun o => match o with
    | .loop st pe size tmps params assign body defers => k st pe size tmps params assign body defers
    | _ => M.fail
/-- A round of a range over a function is left. -/
def roundEnd (l : Nat) (jump : Option Code) : M AV :=
  rdLoop l fun st _ size tmps params assign body defers => match st with
    | .busy => (put l (some (.loop (match jump with | none => .ready | some _ => .done) jump size tmps params assign body defers))).bind fun _ =>
        M.pure (.bool (match jump with | none => true | some _ => false))
    | _ => M.fail
/-- A round of a range over a function. -/
def yieldA (F : Fns) (l : Nat) (args : List AV) : M AV :=
  rdLoop l fun st _ size tmps params assign body _ => match st with
  | .ready => opt (putAll size params.toList args tmps) fun t => (F.code (some l) assign ⟨size, t, []⟩).bind fun r => match r with
    | (.normal, a) => rdLoop l fun st pe size tmps params assign' body' defers => match st with
      | .ready => (put l (some (.loop .busy pe size tmps params assign' body' defers))).bind fun _ => (F.code (some l) body a).bind fun r => match r with
        | (.normal, _) => roundEnd l none
        | (.ret, _) => roundEnd l (some .ret)
        | (.exit id, _) => roundEnd l (some (.exit id))
      | _ => M.fail
    | _ => M.fail
  | _ => M.fail

/-- A function value with arguments. -/
def applyA (F : Fns) (fn : Fn) (args cap : List AV) : M AV :=
  match fn, args with
  | .func f, args => F.call f (args ++ cap)
  | .method name, .iface t v :: rest => (methodA P t v name).bind fun fr => F.call fr.1 (fr.2 :: rest)
  | .methodOf t name, x :: rest => match P.underlying t, x with
    | some (.interface _), .iface t v => (methodA P t v name).bind fun fr => F.call fr.1 (fr.2 :: rest)
    | some (.interface _), _ => M.fail
    | some _, x => (methodA P t x name).bind fun fr => F.call fr.1 (fr.2 :: rest)
    | none, _ => M.fail
  | .yield l, args => yieldA F l args
  | _, _ => M.fail
def callA (F : Fns) (c : Call) (a : AAct) : M AV :=
  match c.callee with
  | .builtin b => builtinA P b c.argTypes.toList (evalAll P a c.args.toList)
  | .invoke recv name => applyA P F (.method name) (evalA P a recv :: evalAll P a c.args.toList) []
  | .value f => match evalA P a f with
    | .func fn first cap => applyA P F fn (first ++ evalAll P a c.args.toList) cap
    | _ => M.fail
def deferA (c : Call) (a : AAct) : Option ADef :=
  match c.callee with
  | .value f => match evalA P a f with
    | .func (.func g) first cap => some { mark := none, fn := .func g, args := first ++ evalAll P a c.args.toList, cap }
    | _ => none
  | _ => none
def isLit : Operand → Bool
  | .const _ => true
  | _ => false
def evalOpt (a : AAct) : Option Operand → Option AV
  | none => none
  | some x => some (evalA P a x)
def retOpt (o : Option AV) : M AV := opt o fun v => M.pure v
def retUnit (m : M Unit) : M AV := (m).bind fun _ => M.pure undefA

/-- One operation: what it yields. -/
def opA (F : Fns) (o : Op) (a : AAct) : M AV :=
  match o with
  | .move x | .assign x => M.pure (evalA P a x)
  | .pick c x y => retOpt (pickA (evalA P a c) (evalA P a x) (evalA P a y))
  | .alloc elem => opt (zeroT P elem) fun z => (newCells elem z.cells false).bind fun id => M.pure (.ptr id 0)
  | .box elem x => (newCells elem (evalA P a x).cells false).bind fun id => M.pure (.ptr id 0)
  | .build t parts => retOpt (buildA P t (evalParts P a parts.toList))
  | .buildSlice t len parts => buildSliceA P t len (evalParts P a parts.toList)
  | .load t x => match evalA P a x with
    | .ptr id off => loadA P t id off
    | _ => M.fail
  | .store t x y => match evalA P a x with
    | .ptr id off => retUnit (storeA P t id off (evalA P a y))
    | _ => M.fail
  | .nilCheck x => retOpt (nilCheckA (evalA P a x))
  | .binOp op t x y _ => retOpt (binA P op (isLit x || isLit y) t (evalA P a x) (evalA P a y))
  | .unOp op _ x => retOpt (unA op (evalA P a x))
  | .convert src dst x => convA P src dst (evalA P a x)
  | .makeInterface t x => retOpt (ifaceA P t (evalA P a x))
  | .makeFunc fn first cap => retOpt (funcA fn (evalAll P a first.toList) (evalAll P a cap.toList))
  | .makeMap _ none => (new (.map [] 0)).bind fun id => M.pure (.map id)
  | .makeSlice t l c => makeSliceA P t (evalA P a l) (evalA P a c)
  | .slice t x lo hi mx => retOpt (sliceA P t (evalA P a x) (evalOpt P a lo) (evalOpt P a hi) (evalOpt P a mx))
  | .fieldAddr s x f => retOpt (fieldAddrA P s (evalA P a x) f)
  | .field t x f => retOpt (fieldA P t (evalA P a x) f)
  | .indexAddr t x ix => retOpt (indexAddrA P t (evalA P a x) (evalA P a ix))
  | .index t x ix => retOpt (indexA P t (evalA P a x) (evalA P a ix))
  | .lookup t x k ok => lookupA P t (evalA P a x) (evalA P a k) ok
  | .mapUpdate t m k x | .insert t m k x => retUnit (updateA P t (evalA P a m) (evalA P a k) (evalA P a x))
  | .range t x => rangeA P t (evalA P a x)
  | .next it s => nextA (evalA P a it) s
  | .entry it => entryA (evalA P a it)
  | .typeAssert x _ t ok => retOpt (typeAssertA P (evalA P a x) t ok)
  | .extract x i => retOpt (extractA (evalA P a x) i)
  | .call c => callA P F c a
  | _ => M.fail

/-! ### regions -/
/-- Whether a temporary is the truth value that is wanted; none: it is not known. -/
def isTrueAt (a : AAct) (d : Tmp) (want : Bool) : Option Bool := bif Nat.blt d a.size then (match a.tmps.get d with
  | some (.bool b) => some (b == want)
  | some .unk => none
  | _ => some false) else some false
def wantedA (ops : List Oper) (o : Oper) (a : AAct) : Option Bool :=
  match o.guard with
  | none => some true
  | some (j, want) => match ops[j]? with
    | some p => match p.dst with
      | some d => isTrueAt a d want
      | none => some false
    | none => some false
def putA (a : AAct) (dst : Option Tmp) (v : AV) : M AAct :=
  match dst, a with
  | none, a => M.pure a
  | some d, ⟨size, tmps, ds⟩ => chk (Nat.blt d size) (M.pure ⟨size, tmps.set d (some v), ds⟩)
/-- One operation in its place. -/
def stepA (F : Fns) (r : Option Nat) (ops : List Oper) (o : Oper) (a : AAct) : M AAct :=
  opt (wantedA ops o a) fun b => bif b then
    match o.op with
    | .defer c => match r, a with
      | none, ⟨size, tmps, ds⟩ => opt (deferA P c ⟨size, tmps, ds⟩) fun d => putA ⟨size, tmps, d :: ds⟩ o.dst undefA
      | some _, _ => M.fail
    | op => (opA P F op a).bind fun v => putA a o.dst v
  else putA a o.dst undefA
def textA (F : Fns) (r : Option Nat) (ops : List Oper) : List Oper → AAct → M AAct
  | [], a => M.pure a
  | o :: l, a => (stepA P F r ops o a).bind fun a => textA F r ops l a

/-- What an operation has touched and changed. -/
structure Rec where
  f : Nat
  w : Nat
  tr : Nat
  tw : Nat

def tmpBits : List Operand → Nat
  | [] => 0
  | .tmp t :: l => Nat.lor (bit t) (tmpBits l)
  | _ :: l => tmpBits l
def dstBit : Option Tmp → Nat
  | none => 0
  | some t => bit t
def guardBits (ops : List Oper) : Option (Nat × Bool) → Nat
  | none => 0
  | some (j, _) => match ops[j]? with
    | some p => dstBit p.dst
    | none => 0
def readBits (ops : List Oper) (o : Oper) : Nat := Nat.lor (tmpBits o.op.operands.toList) (guardBits ops o.guard)
/-- The operations that an operation follows. i: its number. -/
def beforeBits (i : Nat) (bs : List Nat) : List Edge → Option Nat
  | [] => some 0
  | e :: l => match beforeBits i bs l with
    | none => none
    | some r => bif Region.binds .any e then (bif Nat.blt e.on i then (match bs[e.on]? with
        | some b => some (Nat.lor (Nat.lor (bit e.on) b) r)
        | none => none) else none) else some r
def apartA (x y : Rec) : Bool :=
  Nat.beq (Nat.land x.w y.f) 0 && (Nat.beq (Nat.land y.w x.f) 0 && (Nat.beq (Nat.land x.tw (Nat.lor y.tr y.tw)) 0 && Nat.beq (Nat.land y.tw x.tr) 0))
/-- Whether an operation is apart from each one before it that it does not follow. -/
def apartAll (b : Nat) (x : Rec) : Nat → List Rec → Bool
  | _, [] => true
  | j, y :: l => (Nat.testBit b j || apartA x y) && apartAll b x (j + 1) l
def isDefer : Op → Bool
  | .defer _ => true
  | _ => false
def anyA (F : Fns) (r : Option Nat) (ops : List Oper) : List Oper → Nat → List Nat → List Rec → AAct → M AAct
  | [], _, _, _, a => M.pure a
  | o :: l, i, bs, recs, a => chk (!isDefer o.op) <| opt (beforeBits i bs o.after.toList) fun b =>
    (traced (stepA P F r ops o a)).bind fun p => match p with
    | (a', f, w) => chk (apartAll b ⟨f, w, readBits ops o, dstBit o.dst⟩ 0 recs) <|
      anyA F r ops l (i + 1) (bs ++ [b]) (recs ++ [⟨f, w, readBits ops o, dstBit o.dst⟩]) a'
def regionA (F : Fns) (r : Option Nat) (ops : List Oper) (draw : Bool) (a : AAct) : M AAct :=
  bif draw then anyA P F r ops ops 0 [] [] a else textA P F r ops ops a

/-! ### code -/
def hasBody (g : FuncId) : Bool := match P.funcs[g]? with
  | some fn => match fn.body with
    | some _ => true
    | none => false
  | none => false
def rangeFuncA (F : Fns) (r : Option Nat) (f : Operand) (params : Array Tmp) (assign body : Code) (a : AAct) : M (AExit × AAct) :=
  match a with
  | ⟨size, tmps, ds⟩ =>
    let go (d : Nat) (ds' : List ADef) : M (AExit × AAct) :=
      (new (.loop .ready none size tmps params assign body d)).bind fun l =>
      match evalA P ⟨size, tmps, ds⟩ f with
      | .func (.func g) first cap => chk (hasBody P g) <| (F.call g (first ++ [.func (.yield l) [] []] ++ cap)).bind fun _ =>
        rdLoop l fun st pe size' tmps' params assign body d => match st with
          | .busy => M.fail
          | _ => (put l (some (.loop .exhausted pe size' tmps' params assign body d))).bind fun _ => match pe with
            | none => M.pure (.normal, ⟨size, tmps, ds'⟩)
            | some c => F.code r c ⟨size, tmps, ds'⟩
      | _ => M.fail
    match r with
    | some l => rdLoop l fun _ _ _ _ _ _ _ d => go d ds
    | none => (new (.marks true)).bind fun d => go d ({ mark := some d, fn := .func 0, args := [], cap := [] } :: ds)

def codeA (F : Fns) (r : Option Nat) (c : Code) (a : AAct) : M (AExit × AAct) :=
  match c with
  | .skip | .label _ => M.pure (.normal, a)
  | .ret => M.pure (.ret, a)
  | .exit id => M.pure (.exit id, a)
  | .seq x y => (F.code r x a).bind fun p => match p with
    | (.normal, a) => F.code r y a
    | p => M.pure p
  | .cond c x y => match evalA P a c with
    | .bool true => F.code r x a
    | .bool false => F.code r y a
    | _ => M.fail
  | .block id body => (F.code r body a).bind fun p => match p with
    | (.exit id', a) => bif Nat.beq id' id then M.pure (.normal, a) else M.pure (.exit id', a)
    | p => M.pure p
  | .loop body => (F.code r body a).bind fun p => match p with
    | (.normal, a) => F.code r (.loop body) a
    | p => M.pure p
  | .region _ ops draw => (regionA P F r ops.toList draw a).bind fun a => M.pure (.normal, a)
  | .rangeFunc f params assign body => rangeFuncA P F r f params assign body a
  | _ => M.fail

/-- Functions that are not entered: what they do; and those that are deferred. -/
structure Sums where
  ext : FuncId → Option (List AV → M AV)
  dext : FuncId → Option (List AV → M AV)

/-- A function that defers nothing. -/
def plainCall (F : Fns) (f : FuncId) (args : List AV) : M Unit :=
  opt P.funcs[f]? fun fn => opt fn.body fun c => (F.code none c ⟨max fn.ntmps args.length, putFrom .leaf 0 args, []⟩).bind fun p => match p with
    | (.exit _, _) => M.fail
    | (_, ⟨_, _, []⟩) => chk fn.results.isEmpty (M.pure ())
    | _ => M.fail
def leaveA (S : Sums) (F : Fns) : List ADef → M Unit
  | [] => M.pure ()
  | d :: l => (match d.mark with
    | some id => (rd id).bind fun o => match o with
      | .marks true => put id (some (.marks false))
      | _ => M.fail
    | none => match d.fn with
      | .func f => match S.dext f with
        | some g => (g (d.args ++ d.cap)).bind fun _ => M.pure ()
        | none => plainCall P F f (d.args ++ d.cap)
      | _ => M.fail).bind fun _ => leaveA S F l
def resultA (a : AAct) : ResultVar → M AV
  | .tmp t => M.pure (evalA P a (.tmp t))
  | .cell t ty => match evalA P a (.tmp t) with
    | .ptr id off => loadA P ty id off
    | _ => M.fail
def resultsFrom (a : AAct) : List ResultVar → M (List AV)
  | [] => M.pure []
  | x :: l => (resultA P a x).bind fun v => (resultsFrom a l).bind fun vs => M.pure (v :: vs)
def tupleOf : List AV → AV
  | [v] => v
  | vs => .tuple vs
def resultsA (a : AAct) (l : List ResultVar) : M AV := (resultsFrom P a l).bind fun vs => M.pure (tupleOf vs)
def enterA (S : Sums) (F : Fns) (f : FuncId) (args : List AV) : M AV :=
  match S.ext f with
  | some g => g args
  | none => opt P.funcs[f]? fun fn => opt fn.body fun c => (F.code none c ⟨max fn.ntmps args.length, putFrom .leaf 0 args, []⟩).bind fun p => match p with
    | (.exit _, _) => M.fail
    | (_, a) => (leaveA P S F a.defers).bind fun _ => resultsA P a fn.results.toList
def fns (S : Sums) : Nat → Fns :=
  Nat.rec (motive := fun _ => Fns) ⟨fun _ _ _ => M.fail, fun _ _ => M.fail⟩ (fun _ F => ⟨codeA P F, enterA P S F⟩)
end
end
end Go.Mach
end
section
/-! What the machine's values, objects and heaps mean in the model. -/
set_option linter.unusedVariables false
namespace Go.Mach
open Go

/-- The place of an object: its block, the place of its first cell, the block's length. -/
structure RI where
  blk : Nat
  off : Nat
  room : Nat
abbrev CMap := Nat → Option RI

def CMap.le (C C' : CMap) : Prop := ∀ id i, C id = some i → C' id = some i
theorem CMap.le_refl (C : CMap) : C.le C := fun _ _ h => h
theorem CMap.le_trans {C C' C'' : CMap} (h : C.le C') (h' : C'.le C'') : C.le C'' := fun id i e => h' id i (h id i e)

def fnR (C : CMap) : Fn → Fn → Prop
  | .yield l, g => ∃ i, C l = some i ∧ g = .yield i.blk
  | f, g => g = f

/-- The cap of a slice that is known, or at least its length and within its block. -/
def capR (i : RI) (off len k : Nat) : Cap → Prop
  | .known c => k = c
  | .more es => len ≤ k ∧ i.off + off + k * es ≤ i.room

mutual
def VR (C : CMap) : AV → Value → Prop
  | .bool b, v => v = .bool b
  | .int k n, v => v = .int k n
  | .str s, v => ∃ b, v = .string b ∧ bytesOf b = s
  | .nilPtr, v => v = .pointer none
  | .ptr id off, v => ∃ i, C id = some i ∧ v = .pointer (some ⟨i.blk, i.off + off, none⟩)
  | .nilSlice, v => v = .slice none 0 0
  | .slice id off len cap, v => ∃ i k, C id = some i ∧ v = .slice (some ⟨i.blk, i.off + off, none⟩) len k ∧ capR i off len k cap
  | .nilMap, v => v = .map none
  | .map id, v => ∃ i, C id = some i ∧ v = .map (some i.blk)
  | .func fn first cap, v => ∃ g a b, v = .func g a b ∧ fnR C fn g ∧ VRs C first a.toList ∧ VRs C cap b.toList
  | .nilFunc, v => v = .nilFunc
  | .iface t x, v => ∃ y, v = .iface t y ∧ VR C x y
  | .nilIface, v => v = .nilIface
  | .agg cs, v => ∃ l, v = .agg l ∧ VRs C cs l.toList
  | .tuple vs, v => ∃ l, v = .tuple l ∧ VRs C vs l.toList
  | .unk, v => v.oneCell' = true
  | .strG l g, v => ∃ b : ByteArray, v = .string b ∧ decide (l < b.size) = g
  | .intG l g, v => ∃ n : Nat, v = .int .i64 (Int.ofNat n) ∧ decide (l < n) = g
  | .slice0, v => ∃ a c, v = .slice (some a) 0 c
  | .intU, v => ∃ n, v = .int .i64 n
def VRs (C : CMap) : List AV → List Value → Prop
  | [], l => l = []
  | a :: as, l => ∃ v vs, l = v :: vs ∧ VR C a v ∧ VRs C as vs
end

theorem fnR.mono {C C' : CMap} (h : C.le C') {f g : Fn} (hr : fnR C f g) : fnR C' f g := by
  cases f <;> simp only [fnR] at hr ⊢ <;> first | exact hr | skip
  obtain ⟨i, hi, e⟩ := hr
  exact ⟨i, h _ _ hi, e⟩

mutual
theorem VR.mono {C C' : CMap} (h : C.le C') : ∀ (a : AV) (v : Value), VR C a v → VR C' a v
  | .bool b, v, hv | .int k n, v, hv | .str s, v, hv | .nilPtr, v, hv | .nilSlice, v, hv | .nilMap, v, hv | .nilFunc, v, hv | .nilIface, v, hv | .unk, v, hv | .strG _ _, v, hv | .intG _ _, v, hv | .slice0, v, hv | .intU, v, hv => by
    simp only [VR] at hv ⊢; exact hv
  | .ptr id off, v, hv => by
    simp only [VR] at hv ⊢
    obtain ⟨i, hi, e⟩ := hv
    exact ⟨i, h _ _ hi, e⟩
  | .slice id off len cap, v, hv => by
    simp only [VR] at hv ⊢
    obtain ⟨i, k, hi, e⟩ := hv
    exact ⟨i, k, h _ _ hi, e⟩
  | .map id, v, hv => by
    simp only [VR] at hv ⊢
    obtain ⟨i, hi, e⟩ := hv
    exact ⟨i, h _ _ hi, e⟩
  | .func fn first cap, v, hv => by
    simp only [VR] at hv ⊢
    obtain ⟨g, a, b, e, h1, h2, h3⟩ := hv
    exact ⟨g, a, b, e, h1.mono h, VRs.mono h _ _ h2, VRs.mono h _ _ h3⟩
  | .iface t x, v, hv => by
    simp only [VR] at hv ⊢
    obtain ⟨y, e, h1⟩ := hv
    exact ⟨y, e, VR.mono h _ _ h1⟩
  | .agg cs, v, hv => by
    simp only [VR] at hv ⊢
    obtain ⟨l, e, h1⟩ := hv
    exact ⟨l, e, VRs.mono h _ _ h1⟩
  | .tuple cs, v, hv => by
    simp only [VR] at hv ⊢
    obtain ⟨l, e, h1⟩ := hv
    exact ⟨l, e, VRs.mono h _ _ h1⟩
theorem VRs.mono {C C' : CMap} (h : C.le C') : ∀ (as : List AV) (l : List Value), VRs C as l → VRs C' as l
  | [], l, hv => by simp only [VRs] at hv ⊢; exact hv
  | a :: as, l, hv => by
    simp only [VRs] at hv ⊢
    obtain ⟨v, vs, e, h1, h2⟩ := hv
    exact ⟨v, vs, e, VR.mono h _ _ h1, VRs.mono h _ _ h2⟩
end

mutual
theorem VR.ofV (C : CMap) : ∀ v : Value, VR C (ofV v) v
  | .bool b => by simp [Mach.ofV, VR]
  | .int k n => by simp [Mach.ofV, VR]
  | .float k n => by simp [Mach.ofV, VR, Value.oneCell']
  | .complex k n m => by simp [Mach.ofV, VR, Value.oneCell']
  | .string s => by simp [Mach.ofV, VR]
  | .pointer none => by simp [Mach.ofV, VR]
  | .pointer (some a) => by simp [Mach.ofV, VR, Value.oneCell']
  | .slice none 0 0 => by simp [Mach.ofV, VR]
  | .slice none 0 (n + 1) => by simp [Mach.ofV, VR, Value.oneCell']
  | .slice none (m + 1) n => by simp [Mach.ofV, VR, Value.oneCell']
  | .slice (some a) m n => by simp [Mach.ofV, VR, Value.oneCell']
  | .map none => by simp [Mach.ofV, VR]
  | .map (some a) => by simp [Mach.ofV, VR, Value.oneCell']
  | .chan r => by simp [Mach.ofV, VR, Value.oneCell']
  | .func fn ⟨first⟩ ⟨cap⟩ => by
    cases fn <;> simp only [Mach.ofV, VR, fnR]
    case yield => rfl
    all_goals exact ⟨_, _, _, rfl, rfl, VRs.ofVs C first, VRs.ofVs C cap⟩
  | .nilFunc => by simp [Mach.ofV, VR]
  | .iface t v => by simp only [Mach.ofV, VR]; exact ⟨_, rfl, VR.ofV C v⟩
  | .nilIface => by simp [Mach.ofV, VR]
  | .agg ⟨cs⟩ => by simp only [Mach.ofV, VR]; exact ⟨_, rfl, VRs.ofVs C cs⟩
  | .tuple ⟨cs⟩ => by simp only [Mach.ofV, VR]; exact ⟨_, rfl, VRs.ofVs C cs⟩
theorem VRs.ofVs (C : CMap) : ∀ l : List Value, VRs C (ofVs l) l
  | [] => by simp [Mach.ofVs, VRs]
  | v :: l => by simp only [Mach.ofVs, VRs]; exact ⟨_, _, rfl, VR.ofV C v, VRs.ofVs C l⟩
end

theorem VRs.cons {C : CMap} {a : AV} {as : List AV} {v : Value} {vs : List Value} : VRs C (a :: as) (v :: vs) ↔ VR C a v ∧ VRs C as vs := by
  simp only [VRs]
  constructor
  · rintro ⟨v', vs', e, h1, h2⟩; cases e; exact ⟨h1, h2⟩
  · rintro ⟨h1, h2⟩; exact ⟨_, _, rfl, h1, h2⟩
theorem VRs.nil {C : CMap} : VRs C [] [] := by simp [VRs]
theorem VRs.length {C : CMap} : ∀ {as : List AV} {l : List Value}, VRs C as l → l.length = as.length := by
  intro as
  induction as with
  | nil => intro l h; simp only [VRs] at h; subst h; rfl
  | cons a as ih => intro l h; simp only [VRs] at h; obtain ⟨v, vs, rfl, _, h2⟩ := h; simp [ih h2]
theorem VRs.iff {C : CMap} : ∀ {as : List AV} {l : List Value}, VRs C as l ↔ l.length = as.length ∧ ∀ (k : Nat) (a : AV) (v : Value), as[k]? = some a → l[k]? = some v → VR C a v := by
  intro as
  induction as with
  | nil => intro l; simp [VRs]
  | cons a as ih =>
    intro l
    constructor
    · intro h
      refine ⟨h.length, ?_⟩
      simp only [VRs] at h
      obtain ⟨v, vs, rfl, h1, h2⟩ := h
      intro k a' v' ha hv
      cases k with
      | zero => simp at ha hv; subst ha hv; exact h1
      | succ k => simp at ha hv; exact (ih.1 h2).2 k a' v' ha hv
    · rintro ⟨h1, h2⟩
      cases l with
      | nil => simp at h1
      | cons v vs =>
        rw [VRs.cons]
        exact ⟨h2 0 a v rfl rfl, ih.2 ⟨by simpa using h1, fun k a' v' ha hv => h2 (k + 1) a' v' (by simpa using ha) (by simpa using hv)⟩⟩
theorem VRs.get {C : CMap} {as : List AV} {l : List Value} (h : VRs C as l) {k : Nat} {a : AV} (ha : as[k]? = some a) : ∃ v, l[k]? = some v ∧ VR C a v := by
  obtain ⟨h1, h2⟩ := VRs.iff.1 h
  have hk : k < as.length := by
    rcases Nat.lt_or_ge k as.length with h | h
    · exact h
    · rw [List.getElem?_eq_none h] at ha; cases ha
  have hk' : k < l.length := by omega
  exact ⟨l[k], List.getElem?_eq_getElem hk', h2 k a _ ha (List.getElem?_eq_getElem hk')⟩
theorem VRs.append {C : CMap} {as bs : List AV} {l m : List Value} (h : VRs C as l) (h' : VRs C bs m) : VRs C (as ++ bs) (l ++ m) := by
  induction as generalizing l with
  | nil => simp only [VRs] at h; subst h; exact h'
  | cons a as ih => simp only [VRs] at h; obtain ⟨v, vs, rfl, h1, h2⟩ := h; simp only [List.cons_append, VRs.cons]; exact ⟨h1, ih h2⟩
theorem VRs.drop {C : CMap} {as : List AV} {l : List Value} (h : VRs C as l) (n : Nat) : VRs C (as.drop n) (l.drop n) := by
  obtain ⟨h1, h2⟩ := VRs.iff.1 h
  exact VRs.iff.2 ⟨by simp [h1], fun k a v ha hv => h2 (n + k) a v (by simpa using ha) (by simpa using hv)⟩
theorem VRs.take {C : CMap} {as : List AV} {l : List Value} (h : VRs C as l) (n : Nat) : VRs C (as.take n) (l.take n) := by
  obtain ⟨h1, h2⟩ := VRs.iff.1 h
  refine VRs.iff.2 ⟨by simp [h1], fun k a v ha hv => ?_⟩
  rw [List.getElem?_take] at ha hv
  split at ha
  · rename_i hk; rw [if_pos hk] at hv; exact h2 k a v ha hv
  · cases ha
theorem VRs.set {C : CMap} {as : List AV} {l : List Value} (h : VRs C as l) (n : Nat) {a : AV} {v : Value} (hv : VR C a v) : VRs C (as.set n a) (l.set n v) := by
  obtain ⟨h1, h2⟩ := VRs.iff.1 h
  refine VRs.iff.2 ⟨by simp [h1], fun k a' v' ha hv' => ?_⟩
  rw [List.getElem?_set] at ha hv'
  by_cases hk : n = k
  · subst hk
    simp only [if_true, h1] at ha hv'
    split at ha
    · rename_i hlt
      rw [if_pos hlt] at hv'
      injection ha with ha; injection hv' with hv'
      subst ha hv'
      exact hv
    · cases ha
  · simp only [hk, if_false] at ha hv'
    exact h2 k a' v' ha hv'
theorem VR.one {C : CMap} {a : AV} {v : Value} (h : VR C a v) (ho : a.one = true) : v.oneCell' = true := by
  cases a <;> simp only [VR] at h <;> first
    | (subst h; rfl)
    | (obtain ⟨_, rfl, _⟩ := h; rfl)
    | (obtain ⟨_, _, rfl⟩ := h; rfl)
    | (obtain ⟨_, _, _, rfl, _⟩ := h; rfl)
    | (obtain ⟨_, rfl⟩ := h; rfl)
    | exact h
    | (simp [AV.one] at ho)
theorem VR.cells {C : CMap} {a : AV} {v : Value} (h : VR C a v) : VRs C a.cells v.cells.toList := by
  cases a <;> simp only [VR] at h
  case agg cs => obtain ⟨l, rfl, h⟩ := h; exact h
  case unk =>
    cases v <;> simp_all [Value.oneCell', AV.cells, Value.cells, VRs, VR]
  case strG l g =>
    obtain ⟨b, rfl, h⟩ := h
    simp only [AV.cells, Value.cells, VRs, VR]
    exact ⟨_, [], rfl, ⟨b, rfl, h⟩, rfl⟩
  case intG l g =>
    obtain ⟨n, rfl, h⟩ := h
    simp only [AV.cells, Value.cells, VRs, VR]
    exact ⟨_, [], rfl, ⟨n, rfl, h⟩, rfl⟩
  case slice0 =>
    obtain ⟨a, c, rfl⟩ := h
    simp only [AV.cells, Value.cells, VRs, VR]
    exact ⟨_, [], rfl, ⟨a, c, rfl⟩, rfl⟩
  case intU =>
    obtain ⟨n, rfl⟩ := h
    simp only [AV.cells, Value.cells, VRs, VR]
    exact ⟨_, [], rfl, ⟨n, rfl⟩, rfl⟩
  all_goals first
    | (subst h; simp [AV.cells, Value.cells, VRs, VR]; done)
    | (obtain ⟨_, rfl, _⟩ := h; simp_all [AV.cells, Value.cells, VRs, VR]; done)
    | (obtain ⟨_, h', rfl⟩ := h; simp [AV.cells, Value.cells, VRs, VR, h']; done)
    | (obtain ⟨i, k, h', rfl, hh⟩ := h; simp only [AV.cells, Value.cells, VRs, VR]; exact ⟨_, [], rfl, ⟨i, k, h', rfl, hh⟩, rfl⟩)
    | (obtain ⟨g, a, b, rfl, h1, h2, h3⟩ := h; simp only [AV.cells, Value.cells, VRs, VR]; exact ⟨_, [], rfl, ⟨g, a, b, rfl, h1, h2, h3⟩, rfl⟩)
theorem VRs.allOne {C : CMap} {as : List AV} {l : List Value} (h : VRs C as l) (ho : allOne as = true) : ∀ v ∈ l, v.oneCell' = true := by
  induction as generalizing l with
  | nil => simp only [VRs] at h; subst h; simp
  | cons a as ih =>
    simp only [VRs] at h
    obtain ⟨v, vs, rfl, h1, h2⟩ := h
    simp only [Mach.allOne, Bool.and_eq_true] at ho
    intro x hx
    rcases List.mem_cons.1 hx with rfl | hx
    · exact h1.one ho.1
    · exact ih h2 ho.2 x hx

/-! ### objects -/
def ER (C : CMap) (a : AV × AV × Nat) (e : MapEntry) : Prop := VR C a.1 e.key ∧ VR C a.2.1 e.val ∧ e.born = a.2.2
def ERs (C : CMap) : List (AV × AV × Nat) → List MapEntry → Prop
  | [], l => l = []
  | a :: as, l => ∃ e es, l = e :: es ∧ ER C a e ∧ ERs C as es
theorem ER.mono {C C' : CMap} (h : C.le C') {a : AV × AV × Nat} {e : MapEntry} (hr : ER C a e) : ER C' a e := ⟨hr.1.mono h, hr.2.1.mono h, hr.2.2⟩
theorem ERs.mono {C C' : CMap} (h : C.le C') : ∀ {as : List (AV × AV × Nat)} {l : List MapEntry}, ERs C as l → ERs C' as l := by
  intro as
  induction as with
  | nil => intro l hr; exact hr
  | cons a as ih => intro l hr; obtain ⟨e, es, rfl, h1, h2⟩ := hr; exact ⟨e, es, rfl, h1.mono h, ih h2⟩

/-- Temporaries. -/
def TR (C : CMap) (t : T AV) (vs : Array Value) : Prop := ∀ k, VR C (match t.get k with | some v => v | none => undefA) (vs.getD k undef)
theorem TR.mono {C C' : CMap} (h : C.le C') {t : T AV} {vs : Array Value} (hr : TR C t vs) : TR C' t vs := fun k => (hr k).mono h

/-- What an object is in a heap. -/
def OR (P : Program) (C : CMap) (H : Array Obj) (i : RI) : AObj → Prop
  | .cells c len elem ro grown => ∃ arr fz, H[i.blk]? = some (.cells arr elem fz) ∧ arr.size = i.room ∧ i.off + len ≤ i.room ∧
      (∀ k a, k < len → c.get k = some a → ∃ v, arr[i.off + k]? = some v ∧ VR C a v) ∧
      (ro = false → ∀ o, o < i.room → ¬ (fz.1 ≤ o ∧ o < fz.2)) ∧ (grown = false → i.off = 0 ∧ i.room = len)
  | .map es clock => ∃ l, H[i.blk]? = some (.map l clock) ∧ ERs C es l.toList
  | .strIter s pos => i.off = 0 ∧ ∃ b, H[i.blk]? = some (.stringIter b pos) ∧ bytesOf b = s
  | .mapIter m since seen st => i.off = 0 ∧ ∃ m', H[i.blk]? = some (.mapIter m' since seen.toArray st) ∧
      (match m, m' with | none, none => True | some id, some b => ∃ j, C id = some j ∧ b = j.blk | _, _ => False)
  | .loop st pe size tmps params assign body defers => ∃ r : Loop, H[i.blk]? = some (.loop r) ∧ r.state = st ∧ r.pending = pe ∧ r.tmps.size = size ∧ TR C tmps r.tmps ∧
      r.params = params ∧ r.assign = assign ∧ r.body = body ∧ ∃ j, C defers = some j ∧ r.defers = j.blk
  | .marks b => H[i.blk]? = some (.deferred (if b then some [] else none))

theorem OR.congr {P : Program} {C : CMap} {H H' : Array Obj} {i : RI} {o : AObj} (h : OR P C H i o) (e : H'[i.blk]? = H[i.blk]?) : OR P C H' i o := by
  cases o <;> simp only [OR, e] at h ⊢ <;> exact h
theorem OR.mono {P : Program} {C C' : CMap} (hC : C.le C') {H : Array Obj} {i : RI} {o : AObj} (h : OR P C H i o) : OR P C' H i o := by
  cases o <;> simp only [OR] at h ⊢
  case cells c len elem ro g =>
    obtain ⟨arr, fz, h1, h2, h3, h4, h5⟩ := h
    exact ⟨arr, fz, h1, h2, h3, fun k a hk ha => let ⟨v, hv, hr⟩ := h4 k a hk ha; ⟨v, hv, hr.mono hC⟩, h5⟩
  case map es clock =>
    obtain ⟨l, h1, h2⟩ := h
    exact ⟨l, h1, h2.mono hC⟩
  case strIter => exact h
  case mapIter m since seen st =>
    obtain ⟨h0, m', h1, h2⟩ := h
    refine ⟨h0, m', h1, ?_⟩
    cases m <;> cases m' <;> simp only at h2 ⊢
    obtain ⟨j, hj, e⟩ := h2
    exact ⟨j, hC _ _ hj, e⟩
  case loop =>
    obtain ⟨r, h1, h2, h3, h4, h5, h6, h7, h8, j, h9, h10⟩ := h
    exact ⟨r, h1, h2, h3, h4, h5.mono hC, h6, h7, h8, j, hC _ _ h9, h10⟩
  case marks => exact h
theorem OR.lt {P : Program} {C : CMap} {H : Array Obj} {i : RI} {o : AObj} (h : OR P C H i o) : i.blk < H.size := by
  have : ∃ x, H[i.blk]? = some x := by
    cases o <;> simp only [OR] at h
    case cells => obtain ⟨_, _, h1, _⟩ := h; exact ⟨_, h1⟩
    case map => obtain ⟨_, h1, _⟩ := h; exact ⟨_, h1⟩
    case strIter => obtain ⟨_, _, h1, _⟩ := h; exact ⟨_, h1⟩
    case mapIter => obtain ⟨_, _, h1, _⟩ := h; exact ⟨_, h1⟩
    case loop => obtain ⟨_, h1, _⟩ := h; exact ⟨_, h1⟩
    case marks => exact ⟨_, h⟩
  obtain ⟨x, hx⟩ := this
  rcases Nat.lt_or_ge i.blk H.size with h | h
  · exact h
  · rw [Array.getElem?_eq_none h] at hx; cases hx

/-- Objects that are never written. -/
def AObj.still : AObj → Bool
  | .cells _ _ _ ro _ => ro
  | _ => false

/-- What the machine's heap is in a heap: blocks before base are not written. -/
structure WR (P : Program) (base : Nat) (C : CMap) (h : Nat → Option AObj) (H : Array Obj) : Prop where
  glob : ∀ g, g < P.globals.size → ∃ i, C g = some i ∧ i.blk = g ∧ i.off = 0
  obj : ∀ id o, h id = some o → ∃ i, C id = some i ∧ OR P C H i o
  inj : ∀ id id' o o' i i', h id = some o → h id' = some o' → C id = some i → C id' = some i' → i.blk = i'.blk → id = id'
  high : ∀ id i, P.globals.size ≤ id → C id = some i → base ≤ i.blk
  low : ∀ id o, h id = some o → id < P.globals.size → o.still = true
  base : base ≤ H.size

/-- A world that is not turned where it was before. -/
structure Kept (base : Nat) (w w' : World) : Prop where
  os : w'.os = w.os
  tape : w'.tape = w.tape
  output : w'.output = w.output
  size : w.heap.size ≤ w'.heap.size
  below : ∀ b, b < base → w'.heap[b]? = w.heap[b]?
theorem Kept.refl (base : Nat) (w : World) : Kept base w w := ⟨rfl, rfl, rfl, Nat.le_refl _, fun _ _ => rfl⟩
theorem Kept.trans {base : Nat} {w w' w'' : World} (h : Kept base w w') (h' : Kept base w' w'') : Kept base w w'' :=
  ⟨h'.os.trans h.os, h'.tape.trans h.tape, h'.output.trans h.output, Nat.le_trans h.size h'.size, fun b hb => (h'.below b hb).trans (h.below b hb)⟩
theorem Kept.drawn {base : Nat} {w : World} (n : Nat) : Kept base w { w with drawn := n } := ⟨rfl, rfl, rfl, Nat.le_refl _, fun _ _ => rfl⟩

/-- Names that are not taken. -/
def Fresh (C : CMap) (n n' : Nat) : Prop := ∀ id, n ≤ id → id < n' → C id = none
def Ext (C C' : CMap) (n n' : Nat) : Prop := ∀ id, ¬ (n ≤ id ∧ id < n') → C' id = C id
theorem Ext.refl (C : CMap) (n n' : Nat) : Ext C C n n' := fun _ _ => rfl
theorem Ext.le {C C' : CMap} {n n' : Nat} (h : Ext C C' n n') (hf : Fresh C n n') : C.le C' := by
  intro id i hi
  by_cases hr : n ≤ id ∧ id < n'
  · rw [hf id hr.1 hr.2] at hi; cases hi
  · rw [h id hr]; exact hi
theorem Ext.trans {C C' C'' : CMap} {n m k : Nat} (h : Ext C C' n m) (h' : Ext C' C'' m k) (h1 : n ≤ m) (h2 : m ≤ k) : Ext C C'' n k := by
  intro id hid
  rw [h' id (fun h => hid ⟨by omega, h.2⟩), h id (fun h => hid ⟨h.1, by omega⟩)]
theorem Fresh.left {C : CMap} {n m k : Nat} (h : Fresh C n k) (hmk : m ≤ k) : Fresh C n m := fun id h1 h2 => h id h1 (by omega)
theorem Fresh.right {C C' : CMap} {n m k : Nat} (h : Fresh C n k) (he : Ext C C' n m) (hnm : n ≤ m) : Fresh C' m k := fun id h1 h2 => by
  rw [he id (fun h => by omega)]; exact h id (by omega) h2

theorem M.le {α : Type} (m : M α) {s s' : St} {a : α} (h : m.run s = some (a, s')) : s.n ≤ s'.n := by
  obtain ⟨hh, n, f, w⟩ := s
  obtain ⟨F, W, _, _, h3, _⟩ := m.loc _ _ _ _ _ _ h
  exact h3

section
variable {P : Program} {base : Nat} {C : CMap} {h : Nat → Option AObj} {H : Array Obj}

theorem WR.forget (hw : WR P base C h H) (id : Nat) : WR P base C (fun j => if j = id then none else h j) H :=
  ⟨hw.glob, fun j o hj => by
      by_cases e : j = id
      · simp [e] at hj
      · simp only [e, if_false] at hj; exact hw.obj j o hj,
    fun j j' o o' i i' hj hj' => by
      by_cases e : j = id
      · simp [e] at hj
      · by_cases e' : j' = id
        · simp [e'] at hj'
        · simp only [e, e', if_false] at hj hj'; exact hw.inj j j' o o' i i' hj hj',
    hw.high, fun j o hj => by
      by_cases e : j = id
      · simp [e] at hj
      · simp only [e, if_false] at hj; exact hw.low j o hj, hw.base⟩

/-- An object of the heap is turned. -/
theorem WR.update (hw : WR P base C h H) {id : Nat} {o o' : AObj} {i : RI} {H' : Array Obj} (hid : h id = some o) (hC : C id = some i) (hst : o.still = false)
    (hH : ∀ b, b ≠ i.blk → H'[b]? = H[b]?) (hsz : H.size ≤ H'.size) (ho : OR P C H' i o') : WR P base C (fun j => if j = id then some o' else h j) H' := by
  refine ⟨hw.glob, fun j x hj => ?_, fun j j' x x' y y' hj hj' hy hy' e => ?_, hw.high, fun j x hj hlt => ?_, Nat.le_trans hw.base hsz⟩
  · by_cases e : j = id
    · subst e
      simp only [if_true, Option.some.injEq] at hj
      subst hj
      exact ⟨i, hC, ho⟩
    · simp only [e, if_false] at hj
      obtain ⟨k, hk, hr⟩ := hw.obj j x hj
      refine ⟨k, hk, hr.congr (hH _ fun eb => e (hw.inj j id x o k i hj hid hk hC eb))⟩
  · have l : ∀ j x, (if j = id then some o' else h j) = some x → ∃ z, h j = some z := by
      intro j x hj
      by_cases e : j = id
      · subst e; exact ⟨o, hid⟩
      · simp only [e, if_false] at hj; exact ⟨x, hj⟩
    obtain ⟨z, hz⟩ := l j x hj
    obtain ⟨z', hz'⟩ := l j' x' hj'
    exact hw.inj j j' z z' y y' hz hz' hy hy' e
  · by_cases e : j = id
    · subst e
      have := hw.low j o hid hlt
      rw [hst] at this; cases this
    · simp only [e, if_false] at hj
      exact hw.low j x hj hlt

/-- A new object. -/
theorem WR.alloc (hw : WR P base C h H) {n : Nat} {o : AObj} {i : RI} {H' : Array Obj} (hn : h n = none) (hC : C n = none) (hG : P.globals.size ≤ n) (hblk : i.blk = H.size)
    (hH : ∀ b, b < H.size → H'[b]? = H[b]?) (hsz : H.size ≤ H'.size) (ho : OR P (fun j => if j = n then some i else C j) H' i o) :
    WR P base (fun j => if j = n then some i else C j) (fun j => if j = n then some o else h j) H' := by
  have hle : C.le (fun j => if j = n then some i else C j) := fun id k hk => by
    by_cases e : id = n
    · subst e; rw [hC] at hk; cases hk
    · simp only [e, if_false]; exact hk
  refine ⟨fun g hg => ?_, fun j x hj => ?_, fun j j' x x' y y' hj hj' hy hy' e => ?_, fun id k hid hk => ?_, fun j x hj hlt => ?_, Nat.le_trans hw.base hsz⟩
  · obtain ⟨k, hk, e⟩ := hw.glob g hg
    exact ⟨k, hle _ _ hk, e⟩
  · by_cases e : j = n
    · subst e
      simp only [if_true, Option.some.injEq] at hj
      subst hj
      exact ⟨i, by simp, ho⟩
    · simp only [e, if_false] at hj
      obtain ⟨k, hk, hr⟩ := hw.obj j x hj
      exact ⟨k, hle _ _ hk, (hr.congr (hH _ hr.lt)).mono hle⟩
  · by_cases e1 : j = n
    · by_cases e2 : j' = n
      · rw [e1, e2]
      · subst e1
        simp only [e2, if_false, if_true, Option.some.injEq] at hj hj' hy hy'
        subst hy
        obtain ⟨k, hk, hr⟩ := hw.obj j' x' hj'
        rw [hk] at hy'; injection hy' with hy'; subst hy'
        have := hr.lt
        omega
    · by_cases e2 : j' = n
      · subst e2
        simp only [e1, if_false, if_true, Option.some.injEq] at hj hj' hy hy'
        subst hy'
        obtain ⟨k, hk, hr⟩ := hw.obj j x hj
        rw [hk] at hy; injection hy with hy; subst hy
        have := hr.lt
        omega
      · simp only [e1, e2, if_false] at hj hj' hy hy'
        exact hw.inj j j' x x' y y' hj hj' hy hy' e
  · by_cases e : id = n
    · subst e
      simp only [if_true, Option.some.injEq] at hk
      subst hk
      rw [hblk]; exact hw.base
    · simp only [e, if_false] at hk
      exact hw.high id k hid hk
  · by_cases e : j = n
    · omega
    · simp only [e, if_false] at hj
      exact hw.low j x hj hlt

/-- A new name for the block of an object that is forgotten. -/
theorem WR.again (hw : WR P base C h H) {id n : Nat} {o o' : AObj} {i i' : RI} {H' : Array Obj} (hid : h id = some o) (hCi : C id = some i) (hn : h n = none) (hC : C n = none) (hG : P.globals.size ≤ n)
    (hGi : P.globals.size ≤ id) (hblk : i'.blk = i.blk)
    (hH : ∀ b, b ≠ i.blk → H'[b]? = H[b]?) (hsz : H.size ≤ H'.size) (ho : OR P (fun j => if j = n then some i' else C j) H' i' o') :
    WR P base (fun j => if j = n then some i' else C j) (fun j => if j = n then some o' else if j = id then none else h j) H' := by
  have hne : id ≠ n := by rintro rfl; rw [hn] at hid; cases hid
  have hle : C.le (fun j => if j = n then some i' else C j) := fun id k hk => by
    by_cases e : id = n
    · subst e; rw [hC] at hk; cases hk
    · simp only [e, if_false]; exact hk
  have l : ∀ j x, j ≠ n → (if j = n then some o' else if j = id then none else h j) = some x → j ≠ id ∧ h j = some x := by
    intro j x hj hx
    simp only [hj, if_false] at hx
    by_cases e : j = id
    · simp [e] at hx
    · simp only [e, if_false] at hx; exact ⟨e, hx⟩
  refine ⟨fun g hg => ?_, fun j x hj => ?_, fun j j' x x' y y' hj hj' hy hy' e => ?_, fun j k hid' hk => ?_, fun j x hj hlt => ?_, Nat.le_trans hw.base hsz⟩
  · obtain ⟨k, hk, e⟩ := hw.glob g hg
    exact ⟨k, hle _ _ hk, e⟩
  · by_cases e : j = n
    · subst e
      simp only [if_true, Option.some.injEq] at hj
      subst hj
      exact ⟨i', by simp, ho⟩
    · obtain ⟨e2, hj⟩ := l j x e hj
      obtain ⟨k, hk, hr⟩ := hw.obj j x hj
      exact ⟨k, hle _ _ hk, (hr.congr (hH _ fun eb => e2 (hw.inj j id x o k i hj hid hk hCi eb))).mono hle⟩
  · by_cases e1 : j = n
    · by_cases e2 : j' = n
      · rw [e1, e2]
      · obtain ⟨e3, hq⟩ := l j' x' e2 hj'
        subst e1
        simp only [e2, if_false, if_true, Option.some.injEq] at hy hy'
        subst hy
        exact absurd (hw.inj j' id x' o y' i hq hid hy' hCi (by rw [← e, hblk])) e3
    · by_cases e2 : j' = n
      · obtain ⟨e3, hq⟩ := l j x e1 hj
        subst e2
        simp only [e1, if_false, if_true, Option.some.injEq] at hy hy'
        subst hy'
        exact absurd (hw.inj j id x o y i hq hid hy hCi (by rw [e, hblk])) e3
      · obtain ⟨_, hj⟩ := l j x e1 hj
        obtain ⟨_, hj'⟩ := l j' x' e2 hj'
        simp only [e1, e2, if_false] at hy hy'
        exact hw.inj j j' x x' y y' hj hj' hy hy' e
  · by_cases e : j = n
    · subst e
      simp only [if_true, Option.some.injEq] at hk
      subst hk
      rw [hblk]; exact hw.high id i hGi hCi
    · simp only [e, if_false] at hk
      exact hw.high j k hid' hk
  · by_cases e : j = n
    · omega
    · exact hw.low j x (l j x e hj).2 hlt
theorem WR.congr (hw : WR P base C h H) {h' : Nat → Option AObj} (e : ∀ id, h' id = h id) : WR P base C h' H := by
  have : h' = h := funext e
  rw [this]; exact hw
end
end Go.Mach
end
section
/-! The machine's cells are the model's. -/
set_option linter.unusedSimpArgs false
namespace Go.Mach
open Go

theorem add_lit (b o n : Nat) : Addr.add ⟨b, o, none⟩ n = ⟨b, o + n, none⟩ := by
  unfold Addr.add; split <;> simp_all

/-! ### the model's small steps -/
section
variable {P : Program} {w : World}
theorem s_underlying {t : TypeId} {d : TypeDesc} (h : P.underlying t = some d) : (underlying t).run P w = .ok d w := by
  simp [underlying, h]
theorem s_typeInfo {t : TypeId} {i : TypeInfo} (h : P.info? t = some i) : (typeInfo t).run P w = .ok i w := by
  simp [typeInfo, h]
theorem s_sizeOf {t : TypeId} {n : Nat} (h : sizeT P t = some n) : (sizeOf t).run P w = .ok n w := by
  unfold sizeT at h
  cases hi : P.info? t with
  | none => rw [hi] at h; cases h
  | some i => rw [hi] at h; injection h with h; simp [sizeOf, s_typeInfo hi, h]
theorem s_isAgg {t : TypeId} {b : Bool} (h : aggT P t = some b) : (isAgg t).run P w = .ok b w := by
  unfold aggT at h
  unfold isAgg
  split at h
  · rename_i fs e; injection h with h; subst h; simp [s_underlying e]
  · rename_i n el e; injection h with h; subst h; simp [s_underlying e]
  · rename_i d h1 h2 e
    injection h with h; subst h
    simp only [Sem.run_bind, s_underlying e, Result.andThen_ok]
    cases d <;> first | rfl | (exact absurd e (h1 _)) | (exact absurd e (h2 _ _))
  · cases h
theorem s_zeroValue {t : TypeId} {a : AV} (h : zeroT P t = some a) : ∃ z, (zeroValue t).run P w = .ok z w ∧ a = ofV z ∧ (P.info? t).bind (·.zero) = some z := by
  unfold zeroT at h
  cases hi : P.info? t with
  | none => rw [hi] at h; cases h
  | some i =>
    rw [hi] at h
    simp only at h
    cases hz : i.zero with
    | none => rw [hz] at h; cases h
    | some z =>
      rw [hz] at h
      injection h with h
      exact ⟨z, by simp [zeroValue, s_typeInfo hi, hz], h.symm, by simp [hz]⟩
theorem cell_of {b o : Nat} {arr : Array Value} {e : TypeId} {fz : Nat × Nat} (h : w.heap[b]? = some (.cells arr e fz)) : w.cell? ⟨b, o, none⟩ = arr[o]? := by
  simp [World.cell?, h]
theorem s_load {b o : Nat} {arr : Array Value} {e : TypeId} {fz : Nat × Nat} {v : Value} (h : w.heap[b]? = some (.cells arr e fz)) (hv : arr[o]? = some v) : (load ⟨b, o, none⟩).run P w = .ok v w := by
  simp [cell_of h, hv]
theorem s_loadCellsFrom {b o : Nat} {arr : Array Value} {e : TypeId} {fz : Nat × Nat} (h : w.heap[b]? = some (.cells arr e fz)) :
    ∀ (l : List Value) (i : Nat) (acc : Array Value), (∀ (k : Nat) (v : Value), l[k]? = some v → arr[o + i + k]? = some v) → (loadCellsFrom ⟨b, o, none⟩ i l.length acc).run P w = .ok (acc ++ l.toArray) w
  | [], i, acc, _ => by simp [loadCellsFrom]
  | v :: l, i, acc, hl => by
    have h0 : arr[o + i]? = some v := by simpa using hl 0 v rfl
    have ih := s_loadCellsFrom (o := o) h l (i + 1) (acc.push v) (fun k x hx => by have := hl (k + 1) x (by simpa using hx); rw [← this]; congr 1; omega)
    simp only [List.length_cons, loadCellsFrom, Sem.run_bind, add_lit, s_load h h0, Result.andThen_ok, ih]
    congr 1
    apply Array.ext'
    simp
theorem s_loadCells {b o : Nat} {arr : Array Value} {e : TypeId} {fz : Nat × Nat} (h : w.heap[b]? = some (.cells arr e fz)) (l : List Value) (hl : ∀ (k : Nat) (v : Value), l[k]? = some v → arr[o + k]? = some v) :
    (loadCells ⟨b, o, none⟩ l.length).run P w = .ok l.toArray w := by
  have := s_loadCellsFrom (P := P) h l 0 #[] (by simpa using hl)
  simpa [loadCells] using this

/-- An array with values from a place on. -/
def setA (arr : Array Value) (o : Nat) : List Value → Array Value
  | [] => arr
  | v :: l => setA (arr.setIfInBounds o v) (o + 1) l
theorem setA_size : ∀ (l : List Value) (arr : Array Value) (o : Nat), (setA arr o l).size = arr.size
  | [], _, _ => rfl
  | v :: l, arr, o => by rw [setA, setA_size l]; simp
theorem setA_get : ∀ (l : List Value) (arr : Array Value) (o k : Nat), o + l.length ≤ arr.size → (setA arr o l)[k]? = if o ≤ k ∧ k < o + l.length then l[k - o]? else arr[k]?
  | [], arr, o, k, _ => by simp [setA]; intro h1 h2; omega
  | v :: l, arr, o, k, h => by
    simp only [List.length_cons] at h
    rw [setA, setA_get l _ (o + 1) k (by simp; omega)]
    by_cases h1 : k = o
    · subst h1
      rw [if_neg (by omega), if_pos (by simp)]
      simp [Array.getElem?_setIfInBounds, show k < arr.size by omega]
    · by_cases h2 : o + 1 ≤ k ∧ k < o + 1 + l.length
      · rw [if_pos h2, if_pos (by simp; omega), show k - o = (k - (o + 1)) + 1 by omega]
        simp
      · rw [if_neg h2, if_neg (by simp; omega)]
        simp [Array.getElem?_setIfInBounds, Ne.symm h1]
def World.setBlk (w : World) (b : Nat) (o : Obj) : World := { w with heap := w.heap.setIfInBounds b o }
theorem setBlk_heap_self {b : Nat} {o x : Obj} (h : w.heap[b]? = some x) : (World.setBlk w b o).heap[b]? = some o := by
  have : b < w.heap.size := by
    rcases Nat.lt_or_ge b w.heap.size with h' | h'
    · exact h'
    · rw [Array.getElem?_eq_none h'] at h; cases h
  simp [World.setBlk, Array.getElem?_setIfInBounds, this]
theorem setBlk_heap_ne {b c : Nat} {o : Obj} (h : c ≠ b) : (World.setBlk w b o).heap[c]? = w.heap[c]? := by
  simp [World.setBlk, Array.getElem?_setIfInBounds, Ne.symm h]
theorem setBlk_size {b : Nat} {o : Obj} : (World.setBlk w b o).heap.size = w.heap.size := by simp [World.setBlk]
theorem setBlk_setBlk {b : Nat} {o o' : Obj} : World.setBlk (World.setBlk w b o) b o' = World.setBlk w b o' := by
  simp [World.setBlk]
theorem setBlk_self {b : Nat} {x : Obj} (h : w.heap[b]? = some x) : World.setBlk w b x = w := by
  unfold World.setBlk
  congr 1
  apply Array.ext_getElem?
  intro k
  rw [Array.getElem?_setIfInBounds]
  split
  · rename_i e; subst e
    split
    · exact h.symm
    · rename_i h'; rw [Array.getElem?_eq_none (by omega)]
  · rfl
theorem setBlk_kept {base b : Nat} {o : Obj} (h : base ≤ b) : Kept base w (World.setBlk w b o) :=
  ⟨rfl, rfl, rfl, by simp [setBlk_size], fun c hc => setBlk_heap_ne (by omega)⟩
theorem setCell_eq {b o : Nat} {arr : Array Value} {e : TypeId} {fz : Nat × Nat} {v : Value} (h : w.heap[b]? = some (.cells arr e fz)) :
    w.setCell ⟨b, o, none⟩ v = World.setBlk w b (.cells (arr.setIfInBounds o v) e fz) := by
  unfold World.setCell World.setBlk
  congr 1
  apply Array.ext_getElem?
  intro k
  rw [Array.getElem?_modify, Array.getElem?_setIfInBounds]
  split
  · rename_i e; subst e
    have : b < w.heap.size := by
      rcases Nat.lt_or_ge b w.heap.size with h' | h'
      · exact h'
      · rw [Array.getElem?_eq_none h'] at h; cases h
    rw [Array.getElem?_eq_getElem this] at h
    injection h with h
    simp [this, h]
  · rfl
theorem s_store {b o : Nat} {arr : Array Value} {e : TypeId} {fz : Nat × Nat} {v : Value} (h : w.heap[b]? = some (.cells arr e fz)) (ho : o < arr.size) (hf : ¬ (fz.1 ≤ o ∧ o < fz.2)) (hv : v.oneCell' = true) :
    (store ⟨b, o, none⟩ v).run P w = .ok () (World.setBlk w b (.cells (arr.setIfInBounds o v) e fz)) := by
  have hfr : w.frozen? ⟨b, o, none⟩ = false := by
    obtain ⟨lo, hi⟩ := fz
    simp only [World.frozen?, h]
    simpa using hf
  rw [run_store P w _ v _ hv, cell_of h, Array.getElem?_eq_getElem ho, setCell_eq h]
  simp [hfr]
theorem s_storeCells {b o : Nat} {e : TypeId} {fz : Nat × Nat} :
    ∀ (l : List Value) (i : Nat) (arr : Array Value) (w : World), w.heap[b]? = some (.cells arr e fz) → o + i + l.length ≤ arr.size → (∀ k, k < arr.size → ¬ (fz.1 ≤ k ∧ k < fz.2)) → (∀ v ∈ l, v.oneCell' = true) →
      (storeCells ⟨b, o, none⟩ l i).run P w = .ok () (World.setBlk w b (.cells (setA arr (o + i) l) e fz))
  | [], i, arr, w, h, _, _, _ => by simp [storeCells, setA, setBlk_self h]
  | v :: l, i, arr, w, h, hl, hf, hv => by
    simp only [List.length_cons] at hl
    have h1 := s_store (P := P) h (o := o + i) (by omega) (hf _ (by omega)) (hv v (by simp))
    have ih := s_storeCells (o := o) l (i + 1) (arr.setIfInBounds (o + i) v) (World.setBlk w b (.cells (arr.setIfInBounds (o + i) v) e fz)) (setBlk_heap_self h) (by simp; omega) (by simpa using hf) (fun x hx => hv x (by simp [hx]))
    simp only [storeCells, Sem.run_bind, add_lit, h1, Result.andThen_ok, ih, setBlk_setBlk, setA]
    rfl
end

/-! ### lists of cells -/
theorem listFrom_get {c : T AV} : ∀ {n off : Nat} {l : List AV}, listFrom c n off = some l → l.length = n ∧ ∀ k, k < n → c.get (off + k) = l[k]?
  | 0, off, l, h => by
    simp only [listFrom, Option.some.injEq] at h
    subst h
    exact ⟨rfl, fun k hk => by omega⟩
  | n + 1, off, l, h => by
    simp only [listFrom] at h
    cases hv : c.get off with
    | none => rw [hv] at h; cases h
    | some v =>
      rw [hv] at h
      simp only at h
      cases hr : listFrom c n (off + 1) with
      | none => rw [hr] at h; cases h
      | some r =>
        rw [hr] at h
        injection h with h
        subst h
        obtain ⟨h1, h2⟩ := listFrom_get hr
        refine ⟨by simp [h1], fun k hk => ?_⟩
        cases k with
        | zero => simpa using hv
        | succ k =>
          have := h2 k (by omega)
          simp only [List.getElem?_cons_succ]
          rw [← this]; congr 1; omega
theorem putFrom_get : ∀ (l : List AV) (c : T AV) (off k : Nat), (putFrom c off l).get k = if off ≤ k ∧ k < off + l.length then l[k - off]? else c.get k
  | [], c, off, k => by simp [putFrom]; intro h1 h2; omega
  | v :: l, c, off, k => by
    rw [putFrom, putFrom_get l, T.get_set]
    by_cases h1 : k = off
    · subst h1
      rw [if_neg (by omega), if_pos rfl, if_pos (by simp)]
      simp
    · simp only [List.length_cons]
      by_cases h2 : off + 1 ≤ k ∧ k < off + 1 + l.length
      · rw [if_pos h2, if_pos (by omega), show k - off = (k - (off + 1)) + 1 by omega]
        simp
      · rw [if_neg h2, if_neg h1, if_neg (by omega)]
/-- A computation that turns nothing. -/
def Same (s s' : St) : Prop := s'.h = s.h ∧ s'.n = s.n
theorem Same.refl (s : St) : Same s s := ⟨rfl, rfl⟩
theorem Same.trans {s s' s'' : St} (h : Same s s') (h' : Same s' s'') : Same s s'' := ⟨h'.1.trans h.1, h'.2.trans h.2⟩

theorem run_rdCells {α : Type} {id : Nat} {k : T AV → Nat → TypeId → Bool → Bool → M α} {s s' : St} {a : α} (h : (rdCells id k).run s = some (a, s')) :
    ∃ c len elem ro g s1, s.h.get id = some (.cells c len elem ro g) ∧ Same s s1 ∧ (k c len elem ro g).run s1 = some (a, s') := by
  simp only [rdCells, M.run_bind', run_rd] at h
  obtain ⟨o, s1, ⟨h1, rfl⟩, h2⟩ := h
  cases o <;> simp only [M.run_fail] at h2
  refine ⟨_, _, _, _, _, _, h1, ?_, h2⟩
  exact ⟨rfl, rfl⟩
theorem run_rdMap {α : Type} {id : Nat} {k : List (AV × AV × Nat) → Nat → M α} {s s' : St} {a : α} (h : (rdMap id k).run s = some (a, s')) :
    ∃ es clock s1, s.h.get id = some (.map es clock) ∧ Same s s1 ∧ (k es clock).run s1 = some (a, s') := by
  simp only [rdMap, M.run_bind', run_rd] at h
  obtain ⟨o, s1, ⟨h1, rfl⟩, h2⟩ := h
  cases o <;> simp only [M.run_fail] at h2
  refine ⟨_, _, _, h1, ?_, h2⟩
  exact ⟨rfl, rfl⟩
theorem run_rdLoop {α : Type} {id : Nat} {k : LoopState → Option Code → Nat → T AV → Array Tmp → Code → Code → Nat → M α} {s s' : St} {a : α} (h : (rdLoop id k).run s = some (a, s')) :
    ∃ st pe size tmps params assign body defers s1, s.h.get id = some (.loop st pe size tmps params assign body defers) ∧ Same s s1 ∧ (k st pe size tmps params assign body defers).run s1 = some (a, s') := by
  simp only [rdLoop, M.run_bind', run_rd] at h
  obtain ⟨o, s1, ⟨h1, rfl⟩, h2⟩ := h
  cases o <;> simp only [M.run_fail] at h2
  refine ⟨_, _, _, _, _, _, _, _, _, h1, ?_, h2⟩
  exact ⟨rfl, rfl⟩

section
variable {P : Program} {base : Nat} {C : CMap} {s s' : St} {w : World}

theorem WR.same (hw : WR P base C s.h.get w.heap) (h : Same s s') : WR P base C s'.h.get w.heap := by rw [h.1]; exact hw

/-- The cells of an object in the model. -/
theorem WR.cellsOf (hw : WR P base C s.h.get w.heap) {id : Nat} {c : T AV} {len : Nat} {elem : TypeId} {ro g : Bool} (h : s.h.get id = some (.cells c len elem ro g)) :
    ∃ i arr fz, C id = some i ∧ w.heap[i.blk]? = some (.cells arr elem fz) ∧ arr.size = i.room ∧ i.off + len ≤ i.room ∧
      (∀ k a, k < len → c.get k = some a → ∃ v, arr[i.off + k]? = some v ∧ VR C a v) ∧
      (ro = false → ∀ o, o < i.room → ¬ (fz.1 ≤ o ∧ o < fz.2)) ∧ (g = false → i.off = 0 ∧ i.room = len) := by
  obtain ⟨i, hi, hr⟩ := hw.obj id _ h
  obtain ⟨arr, fz, h1⟩ := hr
  exact ⟨i, arr, fz, hi, h1⟩

/-- Cells that are known, in the model. -/
theorem span_ok {c : T AV} {arr : Array Value} {o n off len : Nat} {l : List AV} (hc : ∀ k a, k < len → c.get k = some a → ∃ v, arr[o + k]? = some v ∧ VR C a v) (hn : off + n ≤ len) (hl : listFrom c n off = some l) :
    ∃ vs : List Value, vs.length = n ∧ VRs C l vs ∧ ∀ (k : Nat) (v : Value), vs[k]? = some v → arr[o + off + k]? = some v := by
  obtain ⟨h1, h2⟩ := listFrom_get hl
  have key : ∀ k, k < n → ∃ v, arr[o + off + k]? = some v ∧ ∀ a, l[k]? = some a → VR C a v := by
    intro k hk
    have e := h2 k hk
    have hk' : k < l.length := by omega
    rw [List.getElem?_eq_getElem hk'] at e
    obtain ⟨v, hv, hr⟩ := hc (off + k) _ (by omega) e
    refine ⟨v, by rw [← hv]; congr 1; omega, fun a ha => ?_⟩
    rw [List.getElem?_eq_getElem hk'] at ha
    injection ha with ha
    subst ha; exact hr
  refine ⟨(List.range n).map fun k => arr[o + off + k]?.getD undef, by simp, VRs.iff.2 ⟨by simp [h1], fun k a v ha hv => ?_⟩, fun k v hv => ?_⟩
  · have hk : k < n := by
      rcases Nat.lt_or_ge k n with h | h
      · exact h
      · rw [List.getElem?_eq_none (by simp [h])] at hv; cases hv
    obtain ⟨x, hx, hr⟩ := key k hk
    rw [List.getElem?_map, List.getElem?_range hk] at hv
    simp only [Option.map_some, hx, Option.getD_some, Option.some.injEq] at hv
    subst hv; exact hr a ha
  · have hk : k < n := by
      rcases Nat.lt_or_ge k n with h | h
      · exact h
      · rw [List.getElem?_eq_none (by simp [h])] at hv; cases hv
    obtain ⟨x, hx, hr⟩ := key k hk
    rw [List.getElem?_map, List.getElem?_range hk] at hv
    simp only [Option.map_some, hx, Option.getD_some, Option.some.injEq] at hv
    subst hv; exact hx

/-- Cells that are read, in the model. -/
theorem readA_ok {id off n : Nat} {l : List AV} (hw : WR P base C s.h.get w.heap) (h : (readA id off n).run s = some (l, s')) :
    ∃ i vs, C id = some i ∧ vs.length = n ∧ (loadCells ⟨i.blk, i.off + off, none⟩ n).run P w = .ok vs.toArray w ∧ VRs C l vs ∧ Same s s' := by
  obtain ⟨c, len, elem, ro, g, s1, h1, h2, h3⟩ := run_rdCells h
  simp only [run_chk, run_opt, M.run_pure'] at h3
  obtain ⟨h3, l', h4, rfl, rfl⟩ := h3
  obtain ⟨i, arr, fz, hi, hb, hs, hl, hc, _⟩ := hw.cellsOf h1
  obtain ⟨vs, e1, e2, e3⟩ := span_ok hc (Nat.le_of_ble_eq_true h3) h4
  refine ⟨i, vs, hi, e1, ?_, e2, h2⟩
  rw [← e1]
  exact s_loadCells hb vs e3

/-- A variable that is read. -/
theorem loadA_ok {t : TypeId} {id off : Nat} {a : AV} (hw : WR P base C s.h.get w.heap) (h : (loadA P t id off).run s = some (a, s')) :
    ∃ i v, C id = some i ∧ (loadVar t ⟨i.blk, i.off + off, none⟩).run P w = .ok v w ∧ VR C a v ∧ Same s s' := by
  obtain ⟨c, len, elem, ro, g, s1, h1, h2, h3⟩ := run_rdCells h
  obtain ⟨i, arr, fz, hi, hb, hs, hl, hc, _⟩ := hw.cellsOf h1
  cases ha : aggT P t with
  | none => simp [ha] at h3
  | some b =>
    rw [ha] at h3
    cases b
    · simp only [run_chk, run_opt, M.run_pure'] at h3
      obtain ⟨h3, v, h4, rfl, rfl⟩ := h3
      obtain ⟨x, hx, hr⟩ := hc off v (Nat.le_of_ble_eq_true h3) h4
      exact ⟨i, x, hi, by simp only [loadVar, Sem.run_bind, s_isAgg ha, Result.andThen_ok, Bool.false_eq_true, if_false]; exact s_load hb hx, hr, h2⟩
    · simp only [run_chk, run_opt, M.run_pure'] at h3
      obtain ⟨n, hn, h3, l', h4, rfl, rfl⟩ := h3
      obtain ⟨vs, e1, e2, e3⟩ := span_ok hc (Nat.le_of_ble_eq_true h3) h4
      refine ⟨i, .agg vs.toArray, hi, ?_, by simp only [VR]; exact ⟨_, rfl, e2⟩, h2⟩
      have := s_loadCells (P := P) hb vs e3
      rw [e1] at this
      simp [loadVar, s_isAgg ha, s_sizeOf hn, this]

/-- What an operation that turns the heap comes to. -/
def Res (P : Program) (base : Nat) (C : CMap) (s s' : St) (w : World) {β : Type} (R : CMap → β → Prop) (r : Result β) : Prop :=
  ∃ C' b w', r = .ok b w' ∧ R C' b ∧ WR P base C' s'.h.get w'.heap ∧ Ext C C' s.n s'.n ∧ Kept base w w'
theorem Res.of {β : Type} {R : CMap → β → Prop} {b : β} {r : Result β} (hr : r = .ok b w) (h : R C b) (hw : WR P base C s.h.get w.heap) (hs : Same s s') : Res P base C s s' w R r :=
  ⟨C, b, w, hr, h, hw.same hs, fun _ _ => rfl, Kept.refl ..⟩
theorem Res.bind {β γ : Type} {R : CMap → β → Prop} {R' : CMap → γ → Prop} {s1 : St} {r : Result β} {f : β → World → Result γ} (h : Res P base C s s1 w R r) (hf : Fresh C s.n s'.n) (h1 : s.n ≤ s1.n) (h2 : s1.n ≤ s'.n)
    (hk : ∀ C1 b w1, R C1 b → WR P base C1 s1.h.get w1.heap → C.le C1 → Fresh C1 s1.n s'.n → Res P base C1 s1 s' w1 R' (f b w1)) : Res P base C s s' w R' (r.andThen f) := by
  obtain ⟨C1, b, w1, rfl, hR, hw1, he, hk1⟩ := h
  obtain ⟨C2, b2, w2, e2, hR2, hw2, he2, hk2⟩ := hk C1 b w1 hR hw1 (he.le (hf.left h2)) (hf.right he h1)
  exact ⟨C2, b2, w2, e2, hR2, hw2, he.trans he2 h1 h2, hk1.trans hk2⟩
theorem Res.mono {β : Type} {R R' : CMap → β → Prop} {r : Result β} (h : Res P base C s s' w R r) (hR : ∀ C b, R C b → R' C b) : Res P base C s s' w R' r := by
  obtain ⟨C1, b, w1, e, h1, h2⟩ := h
  exact ⟨C1, b, w1, e, hR _ _ h1, h2⟩
/-- Before a computation that turns nothing. -/
theorem Res.first {β : Type} {R : CMap → β → Prop} {r : Result β} {s1 : St} (hs : Same s s1) (h : Res P base C s1 s' w R r) : Res P base C s s' w R r := by
  obtain ⟨C1, b, w1, e, h1, h2, h3, h4⟩ := h
  exact ⟨C1, b, w1, e, h1, h2, by rw [← hs.2]; exact h3, h4⟩
theorem Res.last {β : Type} {R : CMap → β → Prop} {r : Result β} {s1 : St} (hs : Same s1 s') (h : Res P base C s s1 w R r) : Res P base C s s' w R r := by
  obtain ⟨C1, b, w1, e, h1, h2, h3, h4⟩ := h
  exact ⟨C1, b, w1, e, h1, h2.same hs, by rw [hs.2]; exact h3, h4⟩

/-- Cells that are written. -/
theorem storeCellsA_ok {id off : Nat} {l : List AV} {vs : List Value} (hw : WR P base C s.h.get w.heap) (hv : VRs C l vs) {u : Unit} (h : (storeCellsA id off l).run s = some (u, s')) :
    ∃ i, C id = some i ∧ Res P base C s s' w (fun _ _ => True) ((storeCells ⟨i.blk, i.off + off, none⟩ vs).run P w) := by
  obtain ⟨c, len, elem, ro, g, s1, h1, h2, h3⟩ := run_rdCells h
  simp only [run_chk, Bool.and_eq_true, Bool.not_eq_true'] at h3
  obtain ⟨⟨h3, h4, h5⟩, h6⟩ := h3
  rw [run_put] at h6
  obtain ⟨_, rfl⟩ := h6
  obtain ⟨i, arr, fz, hi, hb, hs, hl, hc, hf⟩ := hw.cellsOf h1
  have hlen := hv.length
  have hle : off + l.length ≤ len := Nat.le_of_ble_eq_true h4
  have hst := s_storeCells (P := P) (o := i.off + off) vs 0 arr w hb (by omega) (by rw [hs]; exact hf.1 h3) (hv.allOne h5)
  have hid : P.globals.size ≤ id := by
    rcases Nat.lt_or_ge id P.globals.size with hlt | hge
    · have := hw.low id _ h1 hlt
      simp [AObj.still, h3] at this
    · exact hge
  have hbase : base ≤ i.blk := hw.high id i hid hi
  have e : (i.off + off + 0) = i.off + off := by omega
  rw [e] at hst
  refine ⟨i, hi, C, (), _, hst, trivial, ?_, fun _ _ => rfl, setBlk_kept hbase⟩
  have := WR.update (i := i) (H' := (World.setBlk w i.blk (.cells (setA arr (i.off + off) vs) elem fz)).heap) (o' := .cells (putFrom c off l) len elem ro g) hw h1 hi (by simp [AObj.still, h3]) (fun b hb' => setBlk_heap_ne hb') (by simp [setBlk_size]) ?_
  · refine this.congr fun j => ?_
    simp only [T.get_set, h2.1]
  · refine ⟨setA arr (i.off + off) vs, fz, setBlk_heap_self hb, by rw [setA_size, hs], hl, fun k a hk ha => ?_, hf⟩
    rw [putFrom_get] at ha
    rw [setA_get _ _ _ _ (by omega)]
    by_cases hr : off ≤ k ∧ k < off + l.length
    · rw [if_pos hr] at ha
      rw [if_pos (by omega)]
      obtain ⟨v, hv1, hv2⟩ := hv.get ha
      exact ⟨v, by rw [← hv1]; congr 1; omega, hv2⟩
    · rw [if_neg hr] at ha
      rw [if_neg (by omega)]
      exact hc k a hk ha
theorem storeA_ok {t : TypeId} {id off : Nat} {a : AV} {v : Value} (hw : WR P base C s.h.get w.heap) (hv : VR C a v) {u : Unit} (h : (storeA P t id off a).run s = some (u, s')) :
    ∃ i, C id = some i ∧ Res P base C s s' w (fun _ _ => True) ((storeVar t ⟨i.blk, i.off + off, none⟩ v).run P w) := by
  simp only [storeA, run_opt, run_chk] at h
  obtain ⟨n, hn, h1, h2⟩ := h
  obtain ⟨i, hi, hr⟩ := storeCellsA_ok hw hv.cells h2
  refine ⟨i, hi, ?_⟩
  have hlen := hv.cells.length
  have hsz : v.cells.size = n := by
    have := Nat.eq_of_beq_eq_true h1
    simpa [← this] using hlen
  have e : (storeVar t ⟨i.blk, i.off + off, none⟩ v).run P w = (storeCells ⟨i.blk, i.off + off, none⟩ v.cells.toList).run P w := by
    simp [storeVar, s_sizeOf hn, hsz]
  rw [e]; exact hr

/-- A new row of cells, with a mark behind them: more of them may stand behind those that are known. -/
theorem newCells_fz_ok {elem : TypeId} {l : List AV} {g : Bool} {vs rest : List Value} {n : Nat} {fz : Nat × Nat} (hfz : ∀ o, o < vs.length + rest.length → ¬ (fz.1 ≤ o ∧ o < fz.2)) (hw : WR P base C s.h.get w.heap) (hG : P.globals.size ≤ s.n) (hf : Fresh C s.n s'.n) (hv : VRs C l vs)
    (h : (newCells elem l g).run s = some (n, s')) (hrest : g = false → rest = []) :
    n = s.n ∧ s'.n = s.n + 1 ∧ ∃ C' i, C' n = some i ∧ i.blk = w.heap.size ∧ i.off = 0 ∧ i.room = vs.length + rest.length ∧
      WR P base C' s'.h.get (w.heap.push (.cells (vs ++ rest).toArray elem fz)) ∧ Ext C C' s.n s'.n ∧ C.le C' ∧ Kept base w { w with heap := w.heap.push (.cells (vs ++ rest).toArray elem fz) } := by
  simp only [newCells, run_new] at h
  obtain ⟨h1, rfl, rfl⟩ := h
  simp only at hf
  have hn : C s.n = none := hf s.n (Nat.le_refl _) (Nat.lt_succ_self _)
  have hlen := hv.length
  let i : RI := ⟨w.heap.size, 0, vs.length + rest.length⟩
  have hext : Ext C (fun j => if j = s.n then some i else C j) s.n (s.n + 1) := fun id hid => by
    have : id ≠ s.n := by rintro rfl; exact hid ⟨Nat.le_refl _, Nat.lt_succ_self _⟩
    simp [this]
  have hle := hext.le hf
  refine ⟨rfl, rfl, _, i, by simp, rfl, rfl, rfl, ?_, hext, hle, ?_⟩
  · have := WR.alloc (i := i) (o := .cells (putFrom .leaf 0 l) l.length elem false g) (H' := w.heap.push (.cells (vs ++ rest).toArray elem fz)) hw h1 hn hG rfl (fun b hb => by simp [Array.getElem?_push, show b ≠ w.heap.size by omega]) (by simp) ?_
    · refine this.congr fun j => ?_
      simp only [T.get_set]
    · refine ⟨(vs ++ rest).toArray, fz, by simp [i], by simp [i], by simp [i]; omega, fun k a hk ha => ?_, fun _ o ho => hfz o ho, fun hg => ⟨rfl, by simp [i, hrest hg, hlen]⟩⟩
      rw [putFrom_get, if_pos (by omega)] at ha
      obtain ⟨v, hv1, hv2⟩ := hv.get ha
      have hk' : k < vs.length := by omega
      refine ⟨v, ?_, hv2.mono hle⟩
      simp only [i, Nat.zero_add, List.getElem?_toArray, List.getElem?_append_left hk']
      simpa using hv1
  · exact ⟨rfl, rfl, rfl, by simp, fun b hb => by
      have := hw.base
      simp [Array.getElem?_push, show b ≠ w.heap.size by omega]⟩
/-- A new row of cells: more of them may stand behind those that are known. -/
theorem newCells_ok {elem : TypeId} {l : List AV} {g : Bool} {vs rest : List Value} {n : Nat} (hw : WR P base C s.h.get w.heap) (hG : P.globals.size ≤ s.n) (hf : Fresh C s.n s'.n) (hv : VRs C l vs)
    (h : (newCells elem l g).run s = some (n, s')) (hrest : g = false → rest = []) :
    n = s.n ∧ s'.n = s.n + 1 ∧ ∃ C' i, C' n = some i ∧ i.blk = w.heap.size ∧ i.off = 0 ∧ i.room = vs.length + rest.length ∧
      WR P base C' s'.h.get (w.heap.push (.cells (vs ++ rest).toArray elem)) ∧ Ext C C' s.n s'.n ∧ C.le C' ∧ Kept base w { w with heap := w.heap.push (.cells (vs ++ rest).toArray elem) } :=
  newCells_fz_ok (fz := (0, 0)) (fun o _ h => by simp at h) hw hG hf hv h hrest
end
end Go.Mach
end
section
/-! The machine's operations that turn no memory are the model's. -/
set_option linter.unusedSimpArgs false
set_option linter.unusedVariables false
namespace Go.Mach
open Go

/-! ### texts -/
theorem bytesOf_length (s : ByteArray) : (bytesOf s).length = s.size := by simp [bytesOf]
theorem bytesOf_get (s : ByteArray) (i : Nat) : (bytesOf s)[i]? = (s[i]?).map (·.toNat) := by
  have : s[i]? = s.data[i]? := rfl
  simp [bytesOf, this]
theorem bytesOf_append (s t : ByteArray) : bytesOf (s ++ t) = bytesOf s ++ bytesOf t := by simp [bytesOf, ByteArray.data_append]
theorem bytesOf_extract (s : ByteArray) (l h : Nat) : bytesOf (s.extract l h) = ((bytesOf s).drop l).take (h - l) := by
  simp [bytesOf, ByteArray.data_extract, Array.toList_extract, List.extract_eq_drop_take', List.map_take, List.map_drop]
theorem map_toNat_inj : ∀ {a b : List UInt8}, a.map (·.toNat) = b.map (·.toNat) → a = b
  | [], [], _ => rfl
  | [], _ :: _, h => by simp at h
  | _ :: _, [], h => by simp at h
  | x :: a, y :: b, h => by
    simp only [List.map_cons, List.cons.injEq] at h
    rw [UInt8.toNat_inj.1 h.1, map_toNat_inj h.2]
theorem beq_bytes (s t : ByteArray) : (s.toList == t.toList) = (bytesOf s == bytesOf t) := by
  rw [ByteArray.toList_eq, ByteArray.toList_eq, Bool.eq_iff_iff]
  simp only [beq_iff_eq, bytesOf]
  exact ⟨fun h => by rw [h], map_toNat_inj⟩
theorem beq_strings (s t : ByteArray) : (s == t) = (bytesOf s == bytesOf t) := by
  obtain ⟨a⟩ := s
  obtain ⟨b⟩ := t
  show (a == b) = _
  rw [Bool.eq_iff_iff]
  simp only [beq_iff_eq, bytesOf]
  exact ⟨fun h => by rw [h], fun h => Array.toList_inj.1 (map_toNat_inj h)⟩
theorem less_list : ∀ (a b : List UInt8), Op.bytesLess a b = lessB (a.map (·.toNat)) (b.map (·.toNat))
  | a, [] => by cases a <;> simp [Op.bytesLess, lessB]
  | [], b :: l => by simp [Op.bytesLess, lessB]
  | a :: x, b :: y => by
    simp only [Op.bytesLess, List.map_cons, lessB, less_list x y]
    congr 1
    · show decide (a.toNat < b.toNat) = _
      rw [Bool.eq_iff_iff, decide_eq_true_eq]
      exact ⟨fun h => Nat.ble_eq_true_of_le h, fun h => Nat.le_of_ble_eq_true h⟩
    · congr 1
      rw [Bool.eq_iff_iff, beq_iff_eq]
      exact ⟨fun h => by rw [h]; simp, fun h => UInt8.toNat_inj.1 (Nat.eq_of_beq_eq_true h)⟩
theorem less_bytes (s t : ByteArray) : Op.bytesLess s.toList t.toList = lessB (bytesOf s) (bytesOf t) := by
  rw [ByteArray.toList_eq, ByteArray.toList_eq]; exact less_list _ _

/-! ### frames -/
def DR (C : CMap) (a : ADef) (d : Deferred) : Prop :=
  match a.mark with
  | some id => ∃ i, C id = some i ∧ d.target = .collected i.blk
  | none => ∃ f cap, a.fn = .func f ∧ d.target = .fn (.func f) cap ∧ VRs C a.args d.args.toList ∧ VRs C a.cap cap.toList
def DRs (C : CMap) : List ADef → List Deferred → Prop
  | [], l => l = []
  | a :: as, l => ∃ d ds, l = d :: ds ∧ DR C a d ∧ DRs C as ds
theorem DR.mono {C C' : CMap} (h : C.le C') {a : ADef} {d : Deferred} (hr : DR C a d) : DR C' a d := by
  obtain ⟨mark, fn, args, cap⟩ := a
  cases mark with
  | some id => obtain ⟨i, hi, e⟩ := hr; exact ⟨i, h _ _ hi, e⟩
  | none => obtain ⟨f, cap, e1, e2, e3, e4⟩ := hr; exact ⟨f, cap, e1, e2, VRs.mono h _ _ e3, VRs.mono h _ _ e4⟩
theorem DRs.mono {C C' : CMap} (h : C.le C') : ∀ {as : List ADef} {l : List Deferred}, DRs C as l → DRs C' as l := by
  intro as
  induction as with
  | nil => intro l hr; exact hr
  | cons a as ih => intro l hr; obtain ⟨e, es, rfl, h1, h2⟩ := hr; exact ⟨e, es, rfl, h1.mono h, ih h2⟩
structure FR (C : CMap) (A : AAct) (a : Act) : Prop where
  size : a.tmps.size = A.size
  tmps : TR C A.tmps a.tmps
  defers : DRs C A.defers a.defers
theorem FR.mono {C C' : CMap} (h : C.le C') {A : AAct} {a : Act} (hr : FR C A a) : FR C' A a := ⟨hr.size, hr.tmps.mono h, hr.defers.mono h⟩

section
variable {P : Program} {base : Nat} {C : CMap} {w : World} {A : AAct} {a : Act}

/-- Names of the program's variables are their numbers. -/
def Glob (P : Program) (C : CMap) : Prop := ∀ g, g < P.globals.size → ∃ i, C g = some i ∧ i.blk = g ∧ i.off = 0
theorem Glob.mono {C' : CMap} (h : C.le C') (hg : Glob P C) : Glob P C' := fun g hl => let ⟨i, hi, e⟩ := hg g hl; ⟨i, h _ _ hi, e⟩

theorem evalA_ok (hg : Glob P C) (hf : TR C A.tmps a.tmps) (x : Operand) : VR C (evalA P A x) (a.eval x) := by
  cases x with
  | tmp t => exact hf t
  | const v => exact VR.ofV C v
  | global g =>
    simp only [evalA, Act.eval]
    by_cases hl : g < P.globals.size
    · rw [show Nat.blt g P.globals.size = true from Nat.ble_eq_true_of_le hl]
      obtain ⟨i, hi, h1, h2⟩ := hg g hl
      simp only [cond_true, VR]
      exact ⟨i, hi, by rw [h1, h2]⟩
    · rw [show Nat.blt g P.globals.size = false by cases h : Nat.blt g P.globals.size with | false => rfl | true => exact absurd (Nat.le_of_ble_eq_true h) hl]
      simp [VR, Value.oneCell']
  | func f => simp only [evalA, Act.eval, VR]; exact ⟨_, _, _, rfl, by simp [fnR], VRs.nil, VRs.nil⟩
theorem evalAll_ok (hg : Glob P C) (hf : TR C A.tmps a.tmps) : ∀ l : List Operand, VRs C (evalAll P A l) (l.map a.eval)
  | [] => VRs.nil
  | x :: l => by simp only [evalAll, List.map_cons, VRs.cons]; exact ⟨evalA_ok hg hf x, evalAll_ok hg hf l⟩
def PRs (C : CMap) : List (Nat × AV) → List (Nat × Value) → Prop
  | [], l => l = []
  | a :: as, l => ∃ v vs, l = (a.1, v) :: vs ∧ VR C a.2 v ∧ PRs C as vs
theorem evalParts_ok (hg : Glob P C) (hf : TR C A.tmps a.tmps) : ∀ l : List (Nat × Operand), PRs C (evalParts P A l) (l.map fun p => (p.1, a.eval p.2))
  | [] => rfl
  | (i, x) :: l => by simp only [evalParts, List.map_cons, PRs]; exact ⟨_, _, rfl, evalA_ok hg hf x, evalParts_ok hg hf l⟩

theorem partA_ok {t : TypeId} {cs : List AV} {l : Array Value} {off : Nat} {x : AV} (hl : VRs C cs l.toList) (h : partA P t cs off = some x) :
    ∃ v, (part t l off).run P w = .ok v w ∧ VR C x v := by
  unfold partA at h
  split at h
  · rename_i ha
    split at h
    · rename_i n hn
      cases hb : Nat.ble (off + n) cs.length with
      | false => rw [hb] at h; cases h
      | true =>
        rw [hb] at h
        simp only [cond_true, Option.some.injEq] at h
        subst h
        refine ⟨.agg (l.extract off (off + n)), by simp [part, s_isAgg ha, s_sizeOf hn], ?_⟩
        simp only [VR]
        refine ⟨_, rfl, ?_⟩
        have := (hl.drop off).take n
        simpa [Array.toList_extract, List.extract_eq_drop_take', Nat.add_sub_cancel_left] using this
    · cases h
  · rename_i ha
    obtain ⟨v, hv, hr⟩ := hl.get h
    refine ⟨v, ?_, hr⟩
    have e : l[off]? = some v := by simpa using hv
    simp [part, s_isAgg ha, e]
  · cases h

/-! ### equality -/
theorem VR.iface_inv {t : TypeId} {x : AV} {v : Value} (h : VR C (.iface t x) v) : ∃ y, v = .iface t y ∧ VR C x y := by simpa [VR] using h
theorem eqFields_ok {eq : TypeId → AV → AV → Option Bool} {d : Nat} (heq : ∀ (t : TypeId) (x y : AV) (vx vy : Value) (b : Bool), VR C x vx → VR C y vy → eq t x y = some b → (Op.equalIn d t vx vy).run P w = .ok b w) {xs ys : List AV} {lx ly : Array Value} (hx : VRs C xs lx.toList) (hy : VRs C ys ly.toList) :
    ∀ (fs : List Field) (b : Bool), eqFields P eq xs ys fs = some b → (Op.eqFields d lx ly fs).run P w = .ok b w
  | [], b, h => by
    simp only [eqFields, Option.some.injEq] at h
    subst h; rfl
  | f :: fs, b, h => by
    simp only [eqFields] at h
    simp only [Op.eqFields]
    cases hn : (f.name == "_") with
    | true =>
      rw [hn] at h
      simp only [cond_true] at h
      have : f.name = "_" := eq_of_beq hn
      rw [if_neg (by simp [this])]
      exact eqFields_ok heq hx hy fs b h
    | false =>
      rw [hn] at h
      simp only [cond_false] at h
      have : f.name ≠ "_" := fun e => by rw [e] at hn; simp at hn
      rw [if_pos this]
      split at h
      · rename_i x y hpx hpy
        obtain ⟨vx, e1, e2⟩ := partA_ok (w := w) hx hpx
        obtain ⟨vy, e3, e4⟩ := partA_ok (w := w) hy hpy
        simp only [Sem.run_bind, e1, e3, Result.andThen_ok]
        split at h
        · rename_i hq
          rw [heq _ _ _ _ _ _ e2 e4 hq, Result.andThen_ok]
          simp only [Bool.not_true, Bool.false_eq_true, if_false]
          exact eqFields_ok heq hx hy fs b h
        · rename_i hq
          injection h with h; subst h
          rw [heq _ _ _ _ _ _ e2 e4 hq, Result.andThen_ok]
          simp
        · cases h
      · cases h
theorem eqA_ok : ∀ (d D : Nat) (t : TypeId) (x y : AV) (vx vy : Value) (b : Bool), d ≤ D → VR C x vx → VR C y vy → eqA P d t x y = some b →
    (Op.equalIn D t vx vy).run P w = .ok b w
  | 0, D, t, x, y, vx, vy, b, _, _, _, h => by simp [eqA] at h
  | d + 1, 0, t, x, y, vx, vy, b, hd, _, _, h => by omega
  | d + 1, D + 1, t, x, y, vx, vy, b, hd, hx, hy, h => by
    unfold eqA at h
    rw [Op.equalIn, Sem.run_bind]
    split at h
    case h_7 el i1 o1 i2 o2 hu =>
      obtain ⟨j1, hj1, rfl⟩ : ∃ i, C i1 = some i ∧ vx = .pointer (some ⟨i.blk, i.off + o1, none⟩) := by simpa [VR] using hx
      obtain ⟨j2, hj2, rfl⟩ : ∃ i, C i2 = some i ∧ vy = .pointer (some ⟨i.blk, i.off + o2, none⟩) := by simpa [VR] using hy
      rw [s_underlying hu, Result.andThen_ok]
      split at h
      · rename_i n hn
        cases hb : Nat.beq i1 i2 with
        | false => rw [hb] at h; cases h
        | true =>
          have := Nat.eq_of_beq_eq_true hb
          subst this
          rw [hj1] at hj2; injection hj2 with hj2; subst hj2
          rw [hb] at h
          simp only [cond_true, Option.some.injEq] at h
          subst h
          simp only [Sem.run_bind, s_sizeOf hn, Result.andThen_ok, ne_eq, Nat.add_one_ne_zero, not_false_eq_true, if_true, sameAddr, beq_self_eq_true, Sem.run_pure]
          congr 1
          by_cases e : o1 = o2
          · subst e; simp
          · have e1 : Nat.beq o1 o2 = false := by cases hq : Nat.beq o1 o2 with | false => rfl | true => exact absurd (Nat.eq_of_beq_eq_true hq) e
            rw [e1]
            simp; omega
      · cases h
    case h_8 fields xs ys hu =>
      obtain ⟨lx, rfl, hlx⟩ : ∃ l, vx = .agg l ∧ VRs C xs l.toList := by simpa [VR] using hx
      obtain ⟨ly, rfl, hly⟩ : ∃ l, vy = .agg l ∧ VRs C ys l.toList := by simpa [VR] using hy
      cases hs : P.stoodInHeld t with
      | true => rw [hs] at h; cases h
      | false =>
        rw [hs] at h
        simp only [cond_false] at h
        have hf : P.fieldsOf t = fields := by simp [Program.fieldsOf, hu]
        have := run_equalIn_struct (P := P) w D t lx ly (by rw [hf]; exact hu) hs
        rw [Op.equalIn, Sem.run_bind] at this
        rw [this, hf]
        exact eqFields_ok (fun t x y vx vy b h1 h2 h3 => eqA_ok d D t x y vx vy b (by omega) h1 h2 h3) hlx hly _ b h
    case h_12 tx vx' ty vy' hu =>
      obtain ⟨x1, rfl, hx1⟩ := hx.iface_inv
      obtain ⟨y1, rfl, hy1⟩ := hy.iface_inv
      rw [s_underlying hu, Result.andThen_ok]
      cases hb : Nat.beq tx ty with
      | false =>
        rw [hb] at h
        simp only [cond_false, Option.some.injEq] at h
        subst h
        have : tx ≠ ty := fun e => by subst e; simp at hb
        simp only [ne_eq, this, not_false_eq_true, if_true]
        rfl
      | true =>
        have := Nat.eq_of_beq_eq_true hb
        subst this
        rw [hb] at h
        simp only [cond_true] at h
        split at h
        · rename_i i hi
          cases hc : i.comparable with
          | false => rw [hc] at h; cases h
          | true =>
            rw [hc] at h
            have ih := eqA_ok d D tx vx' vy' x1 y1 b (by omega) hx1 hy1 h
            simp only [ne_eq, not_true_eq_false, if_false, Sem.run_bind, s_typeInfo hi, Result.andThen_ok, hc, Bool.not_true, Bool.false_eq_true]
            exact ih
        · cases h
    all_goals (try (cases h; done))
    all_goals (simp only [VR] at hx hy)
    case h_2 hu =>
      subst hx hy
      rename_i k n k' n'
      rw [s_underlying hu, Result.andThen_ok]
      cases hk : (k == k') with
      | false => rw [hk] at h; cases h
      | true =>
        rw [hk] at h
        simp only [cond_true, Option.some.injEq] at h
        subst h
        have := eq_of_beq hk
        subst this
        simp only [if_true]
        rfl
    case h_3 hu =>
      obtain ⟨p, rfl, rfl⟩ := hx
      obtain ⟨q, rfl, rfl⟩ := hy
      injection h with h
      subst h
      rw [s_underlying hu, Result.andThen_ok, ← beq_strings]
      rfl
    all_goals (injection h with h; subst h; rename_i hu; rw [s_underlying hu, Result.andThen_ok])
    all_goals first
      | (subst hx hy; rfl)
      | (subst hx; obtain ⟨_, _, rfl⟩ := hy; rfl)
      | (subst hy; obtain ⟨_, _, rfl⟩ := hx; rfl)
      | (subst hx; obtain ⟨_, rfl, _⟩ := hy; rfl)
      | (subst hy; obtain ⟨_, rfl, _⟩ := hx; rfl)
      | (subst hx; obtain ⟨_, _, _, rfl, _⟩ := hy; rfl)
      | (subst hy; obtain ⟨_, _, _, rfl, _⟩ := hx; rfl)
end
end Go.Mach
end
section
/-! The machine's operators are the model's. -/
set_option linter.unusedSimpArgs false
set_option linter.unusedVariables false
namespace Go.Mach
open Go
section
variable {P : Program} {base : Nat} {C : CMap} {w : World}

theorem VR.bool_inv {b : Bool} {v : Value} (h : VR C (.bool b) v) : v = .bool b := by simpa [VR] using h
theorem VR.int_inv {k : IntKind} {n : Int} {v : Value} (h : VR C (.int k n) v) : v = .int k n := by simpa [VR] using h
theorem VR.str_inv {s : List Nat} {v : Value} (h : VR C (.str s) v) : ∃ b, v = .string b ∧ bytesOf b = s := by simpa [VR] using h
theorem VR.agg_inv {s : List AV} {v : Value} (h : VR C (.agg s) v) : ∃ l, v = .agg l ∧ VRs C s l.toList := by simpa [VR] using h
theorem VR.tuple_inv {s : List AV} {v : Value} (h : VR C (.tuple s) v) : ∃ l, v = .tuple l ∧ VRs C s l.toList := by simpa [VR] using h
theorem VR.ptr_inv {id off : Nat} {v : Value} (h : VR C (.ptr id off) v) : ∃ i, C id = some i ∧ v = .pointer (some ⟨i.blk, i.off + off, none⟩) := by simpa [VR] using h
theorem VR.nilSlice_inv {v : Value} (h : VR C .nilSlice v) : v = .slice none 0 0 := by simpa [VR] using h
theorem VR.slice_inv {id off len : Nat} {cap : Cap} {v : Value} (h : VR C (.slice id off len cap) v) : ∃ i k, C id = some i ∧ v = .slice (some ⟨i.blk, i.off + off, none⟩) len k ∧ capR i off len k cap := by
  simp only [VR] at h; exact h
theorem VR.map_inv {id : Nat} {v : Value} (h : VR C (.map id) v) : ∃ i, C id = some i ∧ v = .map (some i.blk) := by simpa [VR] using h
theorem VR.nilMap_inv {v : Value} (h : VR C .nilMap v) : v = .map none := by simpa [VR] using h
theorem VR.nilIface_inv {v : Value} (h : VR C .nilIface v) : v = .nilIface := by simpa [VR] using h
theorem VR.func_inv {fn : Fn} {first cap : List AV} {v : Value} (h : VR C (.func fn first cap) v) : ∃ g a b, v = .func g a b ∧ fnR C fn g ∧ VRs C first a.toList ∧ VRs C cap b.toList := by
  simp only [VR] at h; exact h

theorem VR.mk_bool (b : Bool) : VR C (.bool b) (.bool b) := by simp [VR]
theorem VR.mk_int (k : IntKind) (n : Int) : VR C (.int k n) (.int k n) := by simp [VR]
theorem VR.mk_str (b : ByteArray) : VR C (.str (bytesOf b)) (.string b) := by simp [VR]
theorem VR.mk_undef : VR C undefA undef := by simp [VR, undefA, undef, VRs]

/-! ### numbers and texts -/
def notShift : BinOp → Bool
  | .shl | .shr => false
  | _ => true
theorem intOp_ok {op : BinOp} {t : TypeId} {k : IntKind} {x y : Int} {r : AV} (ho : notShift op = true) (h : intOp op k x y = some r) :
    ∃ v, (binOp op t (.int k x) (.int k y)).run P w = .ok v w ∧ VR C r v := by
  cases op <;> simp only [notShift, Bool.false_eq_true] at ho <;> simp only [intOp] at h
  case quo =>
    cases hy : (y == 0) with
    | true => rw [hy] at h; cases h
    | false =>
      rw [hy] at h; injection h with h; subst h
      have : y ≠ 0 := fun e => by subst e; simp at hy
      exact ⟨_, by simp [binOp, Op.intDiv, this], VR.mk_int _ _⟩
  case rem =>
    cases hy : (y == 0) with
    | true => rw [hy] at h; cases h
    | false =>
      rw [hy] at h; injection h with h; subst h
      have : y ≠ 0 := fun e => by subst e; simp at hy
      exact ⟨_, by simp [binOp, Op.intDiv, this], VR.mk_int _ _⟩
  all_goals (injection h with h; subst h; refine ⟨_, ?_, by first | exact VR.mk_int _ _ | exact VR.mk_bool _⟩; simp [binOp, Op.intArith, Op.intBits, Op.intCmp, bne])
theorem shiftA_ok {op : BinOp} {t : TypeId} {k k' : IntKind} {x y : Int} {r : AV} (ho : notShift op = false) (h : shiftA op k x y = some r) :
    ∃ v, (binOp op t (.int k x) (.int k' y)).run P w = .ok v w ∧ VR C r v := by
  unfold shiftA at h
  cases hy : decide (y < 0) with
  | true => rw [hy] at h; cases h
  | false =>
    rw [hy] at h
    simp only [cond_false] at h
    have hy' : ¬ y < 0 := by simpa using hy
    cases op <;> simp only [notShift, Bool.true_eq_false] at ho <;> simp only [Option.some.injEq] at h <;> subst h <;> refine ⟨_, ?_, VR.mk_int _ _⟩ <;> simp [binOp, Op.shift, hy']
theorem strOp_ok {op : BinOp} {t : TypeId} {a b : ByteArray} {r : AV} (h : strOp op (bytesOf a) (bytesOf b) = some r) :
    ∃ v, (binOp op t (.string a) (.string b)).run P w = .ok v w ∧ VR C r v := by
  cases op <;> simp only [strOp] at h
  case add =>
    cases hb : Nat.ble ((bytesOf a).length + (bytesOf b).length) 1000000 with
    | false => rw [hb] at h; cases h
    | true =>
      rw [hb] at h; injection h with h; subst h
      have hle := Nat.le_of_ble_eq_true hb
      rw [bytesOf_length, bytesOf_length] at hle
      have hm : IntKind.i64.max = 9223372036854775807 := by decide
      refine ⟨.string (a ++ b), ?_, by rw [← bytesOf_append]; exact VR.mk_str _⟩
      have hle' : ¬ (((a.size + b.size : Nat) : Int) > IntKind.i64.max) := by rw [hm]; omega
      simp only [binOp, Op.stringOp]
      rw [if_neg hle']
      rfl
  all_goals first
    | (cases h; done)
    | (injection h with h; subst h; refine ⟨_, ?_, VR.mk_bool _⟩; simp [binOp, Op.stringOp, beq_bytes, less_bytes])

/-! ### comparisons -/
def vkind : Value → Nat
  | .int _ _ => 0
  | .float _ _ => 1
  | .complex _ _ _ => 2
  | .string _ => 3
  | _ => 4
theorem binOp_eql {t : TypeId} {x y : Value} (h : vkind x ≠ vkind y ∨ vkind x = 4) : binOp .eql t x y = (do pure (.bool (← Op.equal t x y))) := by
  cases x <;> cases y <;> first | rfl | (simp [vkind] at h)
theorem binOp_neq {t : TypeId} {x y : Value} (h : vkind x ≠ vkind y ∨ vkind x = 4) : binOp .neq t x y = (do pure (.bool (!(← Op.equal t x y)))) := by
  cases x <;> cases y <;> first | rfl | (simp [vkind] at h)
def AV.vague : AV → Bool
  | .unk | .strG _ _ | .intG _ _ | .intU => true
  | _ => false
theorem eqA_known {d : Nat} {t : TypeId} {x y : AV} {b : Bool} (h : eqA P d t x y = some b) : x.vague = false ∧ y.vague = false := by
  cases d with
  | zero => simp [eqA] at h
  | succ d =>
    constructor
    · cases x <;> first | rfl | (unfold eqA at h; split at h <;> simp_all)
    · cases y <;> first | rfl | (unfold eqA at h; split at h <;> simp_all)
theorem vkind_of {x : AV} {v : Value} (h : VR C x v) (hu : x.vague = false) : (∃ k n, x = .int k n ∧ vkind v = 0) ∨ (∃ s, x = .str s ∧ vkind v = 3) ∨ vkind v = 4 := by
  cases x <;> simp only [VR] at h
  case int k n => subst h; exact .inl ⟨_, _, rfl, rfl⟩
  case str s => obtain ⟨_, rfl, _⟩ := h; exact .inr (.inl ⟨_, rfl, rfl⟩)
  case unk | strG | intG | intU => cases hu
  all_goals refine .inr (.inr ?_)
  all_goals first
    | (subst h; rfl)
    | (obtain ⟨_, _, rfl⟩ := h; rfl)
    | (obtain ⟨_, rfl, _⟩ := h; rfl)
    | (obtain ⟨_, _, _, rfl, _⟩ := h; rfl)
theorem of_nilIface {x : AV} (h : VR C x .nilIface) (hu : x.vague = false) : x = .nilIface := by
  cases x <;> simp [VR] at h
  · rfl
  · cases hu
theorem of_agg {x : AV} {l : Array Value} (h : VR C x (.agg l)) : ∃ cs, x = .agg cs := by
  cases x <;> simp [VR, Value.oneCell'] at h
  exact ⟨_, rfl⟩
theorem eqGuard_ok {op : BinOp} {t : TypeId} {ox oy : Operand} {x y : AV} {vx vy : Value} (hx : VR C x vx) (hy : VR C y vy) (hxu : x.vague = false) (hyu : y.vague = false)
    (h : plainEq P t (isLit ox || isLit oy) x y = true) : (eqGuard op t ox oy vx vy).run P w = .ok () w := by
  unfold eqGuard
  cases op
  case eql | neq =>
    rw [if_neg (by simp)]
    split
    · have e1 := of_nilIface hx hxu
      have e2 := of_nilIface hy hyu
      subst e1 e2
      simp only [plainEq, Bool.or_eq_true] at h
      rw [if_pos]
      · rfl
      · cases ox <;> cases oy <;> simp_all [isLit]
    · obtain ⟨cs, rfl⟩ := of_agg hx
      simp only [plainEq, Bool.not_eq_true'] at h
      simp only [Sem.run_bind, run_program, Result.andThen_ok, h, Bool.not_false, if_true]
      rfl
    · rfl
  all_goals rfl
theorem eqGuard_other {op : BinOp} {t : TypeId} {ox oy : Operand} {vx vy : Value} (h1 : vx ≠ .nilIface) (h2 : ∀ l, vx ≠ .agg l) : (eqGuard op t ox oy vx vy).run P w = .ok () w := by
  unfold eqGuard
  cases op
  case eql | neq =>
    rw [if_neg (by simp)]
    split
    · exact absurd rfl h1
    · exact absurd rfl (h2 _)
    · rfl
  all_goals rfl
theorem binA_ok {op : BinOp} {t : TypeId} {ox oy : Operand} {x y r : AV} {vx vy : Value} (hx : VR C x vx) (hy : VR C y vy) (h : binA P op (isLit ox || isLit oy) t x y = some r) :
    ∃ v, (do eqGuard op t ox oy vx vy; binOp op t vx vy : Sem Value).run P w = .ok v w ∧ VR C r v := by
  unfold binA at h
  split at h
  · have := hx.int_inv; subst this
    have := hy.int_inv; subst this
    rename_i k n k' n'
    simp only [Sem.run_bind, eqGuard_other (P := P) (w := w) (op := op) (t := t) (ox := ox) (oy := oy) (vx := .int k n) (vy := .int k' n') (by simp) (by simp), Result.andThen_ok]
    split at h
    · exact shiftA_ok (by rfl) h
    · exact shiftA_ok (by rfl) h
    · rename_i h1 h2
      cases hk : (k == k') with
      | false => rw [hk] at h; cases h
      | true =>
        rw [hk] at h
        have := eq_of_beq hk; subst this
        exact intOp_ok (by cases op <;> first | rfl | exact absurd rfl h1 | exact absurd rfl h2) h
  · obtain ⟨p, rfl, rfl⟩ := hx.str_inv
    obtain ⟨q, rfl, rfl⟩ := hy.str_inv
    simp only [Sem.run_bind, eqGuard_other (P := P) (w := w) (op := op) (t := t) (ox := ox) (oy := oy) (vx := .string p) (vy := .string q) (by simp) (by simp), Result.andThen_ok]
    exact strOp_ok h
  · rename_i l g n
    split at h
    · cases hb : decide (n = Int.ofNat l) with
      | false => rw [hb] at h; cases h
      | true =>
        rw [hb] at h
        injection h with h; subst h
        have hn := of_decide_eq_true hb
        subst hn
        simp only [VR] at hx hy
        obtain ⟨m, rfl, hm⟩ := hx
        subst hy
        refine ⟨.bool (decide ((Int.ofNat m) > Int.ofNat l)), ?_, ?_⟩
        · simp only [Sem.run_bind, eqGuard_other (P := P) (w := w) (op := .gtr) (t := t) (ox := ox) (oy := oy) (vx := .int .i64 (Int.ofNat m)) (vy := .int .i64 (Int.ofNat l)) (by simp) (by simp), Result.andThen_ok]
          rfl
        · have e : decide ((Int.ofNat m) > Int.ofNat l) = decide (l < m) := by
            apply decide_eq_decide.2
            simp
          rw [e, hm]; exact VR.mk_bool _
    · cases h
  · rename_i hni hns _
    have hk : ∀ b, eqA P 40 t x y = some b → vkind vx ≠ vkind vy ∨ vkind vx = 4 := by
      intro b hb
      obtain ⟨h1, h2⟩ := eqA_known hb
      rcases vkind_of hx h1 with ⟨k, n, rfl, e⟩ | ⟨s, rfl, e⟩ | e
      · rcases vkind_of hy h2 with ⟨k', n', rfl, e'⟩ | ⟨s, rfl, e'⟩ | e'
        · exact absurd rfl (hni _ _ _ _ rfl)
        · left; rw [e, e']; decide
        · left; rw [e, e']; decide
      · rcases vkind_of hy h2 with ⟨k', n', rfl, e'⟩ | ⟨s, rfl, e'⟩ | e'
        · left; rw [e, e']; decide
        · exact absurd rfl (hns _ _ rfl)
        · left; rw [e, e']; decide
      · exact .inr e
    split at h
    · cases hp : plainEq P t (isLit ox || isLit oy) x y with
      | false => rw [hp] at h; cases h
      | true =>
        rw [hp] at h
        simp only [cond_true] at h
        split at h
        · rename_i b hb
          injection h with h; subst h
          obtain ⟨h1, h2⟩ := eqA_known hb
          have he := eqA_ok (C := C) (w := w) 40 Op.maxDepth t x y vx vy b (by decide) hx hy hb
          refine ⟨.bool b, ?_, VR.mk_bool _⟩
          rw [Sem.run_bind, eqGuard_ok hx hy h1 h2 hp, Result.andThen_ok, binOp_eql (hk b hb)]
          simp only [Sem.run_bind, Op.equal, he, Result.andThen_ok, Sem.run_pure]
        · cases h
    · cases hp : plainEq P t (isLit ox || isLit oy) x y with
      | false => rw [hp] at h; cases h
      | true =>
        rw [hp] at h
        simp only [cond_true] at h
        split at h
        · rename_i b hb
          injection h with h; subst h
          obtain ⟨h1, h2⟩ := eqA_known hb
          have he := eqA_ok (C := C) (w := w) 40 Op.maxDepth t x y vx vy b (by decide) hx hy hb
          refine ⟨.bool (!b), ?_, VR.mk_bool _⟩
          rw [Sem.run_bind, eqGuard_ok hx hy h1 h2 hp, Result.andThen_ok, binOp_neq (hk b hb)]
          simp only [Sem.run_bind, Op.equal, he, Result.andThen_ok, Sem.run_pure]
        · cases h
    · cases h
theorem unA_ok {op : UnOp} {x r : AV} {vx : Value} (hx : VR C x vx) (h : unA op x = some r) : ∃ v, (Op.unary op vx).run P w = .ok v w ∧ VR C r v := by
  unfold unA at h
  split at h
  · have := hx.int_inv; subst this
    injection h with h; subst h
    exact ⟨_, by simp [Op.unary, Op.intArith], VR.mk_int _ _⟩
  · have := hx.int_inv; subst this
    simp only [intOp, Option.some.injEq] at h
    subst h
    exact ⟨_, by simp [Op.unary, Op.intBits], VR.mk_int _ _⟩
  · have := hx.bool_inv; subst this
    injection h with h; subst h
    exact ⟨_, by simp [Op.unary], VR.mk_bool _⟩
  · cases h

/-! ### places -/
theorem fieldAddrA_ok {s : TypeId} {x r : AV} {vx : Value} {f : Nat} (hx : VR C x vx) (h : fieldAddrA P s x f = some r) : ∃ v, (Instr.fieldAt s vx f).run P w = .ok v w ∧ VR C r v := by
  unfold fieldAddrA at h
  split at h
  · rename_i fields id off hu
    obtain ⟨i, hi, rfl⟩ := hx.ptr_inv
    split at h
    · rename_i fd hfd
      split at h
      · rename_i n hn
        injection h with h; subst h
        refine ⟨.pointer (some ⟨i.blk, i.off + (off + fd.offset), none⟩), ?_, by simp only [VR]; exact ⟨i, hi, rfl⟩⟩
        simp [Instr.fieldAt, s_underlying hu, hfd, Instr.sureAddr, fieldPlace, s_sizeOf hn, add_lit, Nat.add_assoc]
      · cases h
    · cases h
  · cases h
theorem indexAddrA_ok {t : TypeId} {x ix r : AV} {vx vi : Value} (hx : VR C x vx) (hi : VR C ix vi) (h : indexAddrA P t x ix = some r) : ∃ v, (Instr.indexAt t vx vi).run P w = .ok v w ∧ VR C r v := by
  unfold indexAddrA at h
  split at h
  · rename_i len elem id off k n hu
    obtain ⟨i, hc, rfl⟩ := hx.ptr_inv
    have := hi.int_inv; subst this
    split at h
    · rename_i m hm
      cases hb : Nat.blt n len with
      | false => rw [hb] at h; cases h
      | true =>
        rw [hb] at h; injection h with h; subst h
        have hlt : n < len := Nat.le_of_ble_eq_true hb
        refine ⟨.pointer (some ⟨i.blk, i.off + (off + n * m), none⟩), ?_, by simp only [VR]; exact ⟨i, hc, rfl⟩⟩
        have h1 : (0 : Int) ≤ Int.ofNat n ∧ Int.ofNat n < (len : Int) := ⟨Int.natCast_nonneg _, Int.ofNat_lt.2 hlt⟩
        simp only [Instr.indexAt, asIntOf, Sem.run_bind, Sem.run_pure, Result.andThen_ok, s_underlying hu, Instr.sureAddr]
        rw [if_pos h1]
        simp [s_sizeOf hm, add_lit, Nat.add_assoc]
    · cases h
  · rename_i elem id off len cap k n hu
    obtain ⟨i, c, hc, rfl, _⟩ := hx.slice_inv
    have := hi.int_inv; subst this
    split at h
    · rename_i m hm
      cases hb : Nat.blt n len with
      | false => rw [hb] at h; cases h
      | true =>
        rw [hb] at h; injection h with h; subst h
        have hlt : n < len := Nat.le_of_ble_eq_true hb
        refine ⟨.pointer (some ⟨i.blk, i.off + (off + n * m), none⟩), ?_, by simp only [VR]; exact ⟨i, hc, rfl⟩⟩
        have h1 : (0 : Int) ≤ Int.ofNat n ∧ Int.ofNat n < (len : Int) := ⟨Int.natCast_nonneg _, Int.ofNat_lt.2 hlt⟩
        simp only [Instr.indexAt, asIntOf, Sem.run_bind, Sem.run_pure, Result.andThen_ok, s_underlying hu, Instr.sureAddr]
        rw [if_pos h1]
        simp [s_sizeOf hm, add_lit, Nat.add_assoc]
    · cases h
  · cases h
theorem indexA_ok {t : TypeId} {x ix r : AV} {vx vi : Value} (hx : VR C x vx) (hi : VR C ix vi) (h : indexA P t x ix = some r) : ∃ v, (Instr.index t vx vi).run P w = .ok v w ∧ VR C r v := by
  unfold indexA at h
  split at h
  · rename_i len elem cs k n hu
    obtain ⟨l, rfl, hl⟩ := hx.agg_inv
    have := hi.int_inv; subst this
    split at h
    · rename_i m hm
      cases hb : Nat.blt n len with
      | false => rw [hb] at h; cases h
      | true =>
        rw [hb] at h
        simp only [cond_true] at h
        have hlt : n < len := Nat.le_of_ble_eq_true hb
        obtain ⟨v, hv, hr⟩ := partA_ok (w := w) hl h
        refine ⟨v, ?_, hr⟩
        have h1 : (0 : Int) ≤ Int.ofNat n ∧ Int.ofNat n < (len : Int) := ⟨Int.natCast_nonneg _, Int.ofNat_lt.2 hlt⟩
        simp only [Instr.index, asIntOf, Sem.run_bind, Sem.run_pure, Result.andThen_ok, s_underlying hu]
        rw [if_pos h1]
        simp [s_sizeOf hm, hv]
    · cases h
  · rename_i s k n hu
    obtain ⟨b, rfl, rfl⟩ := hx.str_inv
    have := hi.int_inv; subst this
    split at h
    · rename_i c hc
      injection h with h; subst h
      rw [bytesOf_get] at hc
      cases hb : b[n]? with
      | none => rw [hb] at hc; cases hc
      | some u =>
        rw [hb] at hc; injection hc with hc; subst hc
        refine ⟨.int .u8 u.toNat, ?_, by simp [VR]⟩
        have h1 : (0 : Int) ≤ Int.ofNat n := Int.natCast_nonneg _
        simp only [Instr.index, asIntOf, Sem.run_bind, Sem.run_pure, Result.andThen_ok, s_underlying hu]
        rw [if_pos h1]
        simp [hb]
    · cases h
  · cases h
theorem fieldA_ok {t : TypeId} {x r : AV} {vx : Value} {f : Nat} (hx : VR C x vx) (h : fieldA P t x f = some r) : ∃ v, (Instr.field t vx f).run P w = .ok v w ∧ VR C r v := by
  unfold fieldA at h
  split at h
  · rename_i fields cs hu
    obtain ⟨l, rfl, hl⟩ := hx.agg_inv
    split at h
    · rename_i fd hfd
      obtain ⟨v, hv, hr⟩ := partA_ok (w := w) hl h
      exact ⟨v, by simp [Instr.field, s_underlying hu, hfd, asAgg, hv], hr⟩
    · cases h
  · cases h
end
end Go.Mach
end
section
/-! The machine's slices and what it builds are the model's. -/
set_option linter.unusedSimpArgs false
set_option linter.unusedVariables false
namespace Go.Mach
open Go
section
variable {P : Program} {base : Nat} {C : CMap} {w : World}

def OVR (C : CMap) : Option AV → Option Value → Prop
  | none, v => v = none
  | some a, v => ∃ x, v = some x ∧ VR C a x
def BR : Option Nat → Option Value → Prop
  | none, v => v = none
  | some n, v => ∃ k, v = some (.int k (Int.ofNat n))
theorem boundA_ok {o : Option AV} {v : Option Value} {n : Option Nat} (hr : OVR C o v) (h : boundA o = some n) : BR n v := by
  unfold boundA at h
  split at h
  · injection h with h; subst h; exact hr
  · injection h with h; subst h
    obtain ⟨x, rfl, hx⟩ := hr
    have := hx.int_inv; subst this
    exact ⟨_, rfl⟩
  · cases h
theorem s_sliceBound {k : IntKind} {n y : Nat} {code : BoundsCode} (h : n ≤ y) : (Instr.sliceBound (.int k ((n : Nat) : Int)) y code).run P w = .ok n w := by
  have h1 : (0 : Int) ≤ (n : Int) ∧ (n : Int) ≤ (y : Int) := ⟨Int.natCast_nonneg _, Int.ofNat_le.2 h⟩
  simp only [Instr.sliceBound, asIntOf, Sem.run_bind, Sem.run_pure, Result.andThen_ok]
  rw [if_pos h1]
  rfl
/-- A cap that is not known is at least the length. -/
def capN (len k : Nat) : Option Nat → Prop
  | some c => k = c
  | none => len ≤ k
theorem capN.le {len k : Nat} {cap : Option Nat} (h : capN len k cap) {m : Nat} (hm : m ≤ cap.getD len) : m ≤ k := by
  cases cap with
  | none => exact Nat.le_trans hm h
  | some c => simp only [capN] at h; subst h; exact hm
/-- The third bound: as it is known, or the cap. -/
def maxR (len k h m' : Nat) : Option Nat → Prop
  | some x => m' = x ∧ h ≤ max x len
  | none => m' = k ∧ h ≤ len
theorem boundsN_ok {isSlice : Bool} {len k : Nat} {cap lo hi mx : Option Nat} {vlo vhi vmx : Option Value} {l h : Nat} {m : Option Nat} (hc : capN len k cap)
    (h1 : BR lo vlo) (h2 : BR hi vhi) (h3 : BR mx vmx) (e : boundsN len cap lo hi mx = some (l, h, m)) :
    ∃ m', (Instr.sliceBounds isSlice len k vlo vhi vmx).run P w = .ok (l, h, m') w ∧ l ≤ h ∧ maxR len k h m' m := by
  cases mx with
  | some mm => cases hi with
   | none => simp only [boundsN] at e; cases e
   | some hh =>
    simp only [boundsN] at e
    obtain ⟨kh, rfl⟩ := h2
    obtain ⟨km, rfl⟩ := h3
    cases hb : Nat.ble mm (cap.getD len) && (Nat.ble hh mm && Nat.ble (lo.getD 0) hh) with
    | false => rw [hb] at e; cases e
    | true =>
      rw [hb] at e
      simp only [cond_true, Option.some.injEq, Prod.mk.injEq] at e
      obtain ⟨rfl, rfl, rfl⟩ := e
      simp only [Bool.and_eq_true] at hb
      have b1 := hc.le (Nat.le_of_ble_eq_true hb.1)
      have b2 := Nat.le_of_ble_eq_true hb.2.1
      have b3 := Nat.le_of_ble_eq_true hb.2.2
      refine ⟨mm, ?_, b3, rfl, by omega⟩
      cases lo with
      | none => simp only [BR] at h1; subst h1; simp [Instr.sliceBounds, s_sliceBound b1, s_sliceBound b2]
      | some l => obtain ⟨kd, rfl⟩ := h1; simp only [Option.getD_some] at b3; simp [Instr.sliceBounds, s_sliceBound b1, s_sliceBound b2, s_sliceBound b3]
  | none => cases hi with
   | some hh =>
    simp only [boundsN] at e
    simp only [BR] at h3
    subst h3
    obtain ⟨kh, rfl⟩ := h2
    cases hb : Nat.ble hh (cap.getD len) && Nat.ble (lo.getD 0) hh with
    | false => rw [hb] at e; cases e
    | true =>
      rw [hb] at e
      simp only [cond_true, Option.some.injEq, Prod.mk.injEq] at e
      obtain ⟨rfl, rfl, rfl⟩ := e
      simp only [Bool.and_eq_true] at hb
      have b0 := Nat.le_of_ble_eq_true hb.1
      have b1 := hc.le b0
      have b3 := Nat.le_of_ble_eq_true hb.2
      refine ⟨k, ?_, b3, ?_⟩
      · cases lo with
        | none => simp only [BR] at h1; subst h1; simp [Instr.sliceBounds, s_sliceBound b1]
        | some l => obtain ⟨kd, rfl⟩ := h1; simp only [Option.getD_some] at b3; simp [Instr.sliceBounds, s_sliceBound b1, s_sliceBound b3]
      · cases cap with
        | none => exact ⟨rfl, b0⟩
        | some c => simp only [capN] at hc; subst hc; exact ⟨rfl, by omega⟩
   | none =>
    simp only [boundsN] at e
    simp only [BR] at h2 h3
    subst h2 h3
    cases hb : Nat.ble (lo.getD 0) len with
    | false => rw [hb] at e; cases e
    | true =>
      rw [hb] at e
      simp only [cond_true, Option.some.injEq, Prod.mk.injEq] at e
      obtain ⟨rfl, rfl, rfl⟩ := e
      have b3 := Nat.le_of_ble_eq_true hb
      refine ⟨k, ?_, b3, ?_⟩
      · cases lo with
        | none => simp only [BR] at h1; subst h1; simp [Instr.sliceBounds]
        | some l => obtain ⟨kd, rfl⟩ := h1; simp only [Option.getD_some] at b3; simp [Instr.sliceBounds, s_sliceBound b3]
      · cases cap with
        | none => exact ⟨rfl, Nat.le_refl _⟩
        | some c => simp only [capN] at hc; subst hc; exact ⟨rfl, by omega⟩
theorem boundsA_ok {isSlice : Bool} {len k : Nat} {cap : Option Nat} {lo hi mx : Option AV} {vlo vhi vmx : Option Value} {l h : Nat} {m : Option Nat} (hc : capN len k cap)
    (h1 : OVR C lo vlo) (h2 : OVR C hi vhi) (h3 : OVR C mx vmx) (e : boundsA len cap lo hi mx = some (l, h, m)) :
    ∃ m', (Instr.sliceBounds isSlice len k vlo vhi vmx).run P w = .ok (l, h, m') w ∧ l ≤ h ∧ maxR len k h m' m := by
  unfold boundsA at e
  split at e
  · rename_i a b c ha hb hc'
    exact boundsN_ok hc (boundA_ok h1 ha) (boundA_ok h2 hb) (boundA_ok h3 hc') e
  · cases e
theorem cut_ok {id off len k size : Nat} {es : Option Nat} {i : RI} {cap : Option Nat} {lo hi mx : Option AV} {vlo vhi vmx : Option Value} {isSlice : Bool} {r : AV} (hi' : C id = some i) (hc : capN len k cap)
    (hes : ∀ e, es = some e → len ≤ k ∧ i.off + off + k * e ≤ i.room)
    (h1 : OVR C lo vlo) (h2 : OVR C hi vhi) (h3 : OVR C mx vmx) (h : cutA id off size es (boundsA len cap lo hi mx) = some r) :
    ∃ l h m, (Instr.sliceBounds isSlice len k vlo vhi vmx).run P w = .ok (l, h, m) w ∧
      VR C r (.slice (some (if m = l then ⟨i.blk, i.off + off, none⟩ else Addr.add ⟨i.blk, i.off + off, none⟩ (l * size))) (h - l) (m - l)) := by
  unfold cutA at h
  split at h
  · rename_i l hh m e
    obtain ⟨m', e1, e2, rfl, e4⟩ := boundsA_ok (P := P) (w := w) (isSlice := isSlice) hc h1 h2 h3 e
    injection h with h; subst h
    refine ⟨l, hh, m', e1, ?_⟩
    simp only [VR]
    refine ⟨i, m' - l, hi', ?_, rfl⟩
    by_cases hm : m' = l
    · subst hm
      rw [if_pos rfl, show Nat.beq m' m' = true by simp, cond_true]
    · rw [if_neg hm, show Nat.beq m' l = false by cases hb : Nat.beq m' l with | false => rfl | true => exact absurd (Nat.eq_of_beq_eq_true hb) hm, cond_false, add_lit, Nat.add_assoc]
  · rename_i l hh e
    obtain ⟨m', e1, e2, rfl, e4⟩ := boundsA_ok (P := P) (w := w) (isSlice := isSlice) hc h1 h2 h3 e
    split at h
    · rename_i es
      cases hb : Nat.beq es size && (Nat.beq l 0 || Nat.ble (l + 1) hh) with
      | false =>
        rw [hb, cond_false] at h
        cases hz : Nat.beq hh l with
        | false => rw [hz] at h; cases h
        | true =>
          rw [hz, cond_true] at h
          injection h with h; subst h
          have e5 := Nat.eq_of_beq_eq_true hz
          exact ⟨l, hh, m', e1, by simp only [VR]; exact ⟨_, m' - l, by rw [e5, Nat.sub_self]⟩⟩
      | true =>
        rw [hb] at h
        injection h with h; subst h
        simp only [Bool.and_eq_true, Bool.or_eq_true] at hb
        have b1 := Nat.eq_of_beq_eq_true hb.1
        subst b1
        obtain ⟨f1, f2⟩ := hes _ rfl
        refine ⟨l, hh, m', e1, ?_⟩
        simp only [VR]
        refine ⟨i, m' - l, hi', ?_, by omega, ?_⟩
        · congr 2
          rcases hb.2 with hl | hl
          · have := Nat.eq_of_beq_eq_true hl
            subst this
            by_cases hm : m' = 0
            · rw [if_pos hm]; simp
            · rw [if_neg hm, add_lit, Nat.add_assoc]
          · have := Nat.le_of_ble_eq_true hl
            rw [if_neg (by omega), add_lit, Nat.add_assoc]
        · have : l * es + (m' - l) * es = m' * es := by rw [← Nat.add_mul]; congr 1; omega
          omega
    · cases h
  · cases h
theorem sliceA_ok {t : TypeId} {x r : AV} {lo hi mx : Option AV} {vx : Value} {vlo vhi vmx : Option Value} (hx : VR C x vx)
    (h1 : OVR C lo vlo) (h2 : OVR C hi vhi) (h3 : OVR C mx vmx) (h : sliceA P t x lo hi mx = some r) :
    ∃ v, (Instr.sliceAt t vx vlo vhi vmx).run P w = .ok v w ∧ VR C r v := by
  unfold sliceA at h
  split at h
  · rename_i s hu
    obtain ⟨b, rfl, rfl⟩ := hx.str_inv
    split at h
    · cases h
    · simp only [OVR] at h3
      subst h3
      split at h
      · rename_i l hh m e
        injection h with h; subst h
        obtain ⟨m', e1, e2, e3⟩ := boundsA_ok (P := P) (w := w) (isSlice := false) (k := (bytesOf b).length) (by simp [capN]) h1 h2 (mx := none) (vmx := none) rfl e
        rw [bytesOf_length] at e1
        refine ⟨.string (b.extract l hh), ?_, by rw [← bytesOf_extract]; exact VR.mk_str _⟩
        simp [Instr.sliceAt, Instr.slice, s_underlying hu, e1]
      · cases h
  · rename_i elem hu
    have := hx.nilSlice_inv; subst this
    split at h
    · rename_i l hh m n e hn
      cases hb : Nat.beq m 0 with
      | false => rw [hb] at h; cases h
      | true =>
        rw [hb] at h
        injection h with h; subst h
        have := Nat.eq_of_beq_eq_true hb
        subst this
        obtain ⟨m', e1, e2, rfl, e4⟩ := boundsA_ok (P := P) (w := w) (isSlice := true) (k := 0) (by simp [capN]) h1 h2 h3 e
        have : hh = 0 := by simpa using e4
        subst this
        have : l = 0 := by omega
        subst this
        exact ⟨.slice none 0 0, by simp [Instr.sliceAt, Instr.slice, s_underlying hu, e1, s_sizeOf hn], by simp [VR]⟩
    · cases h
  · rename_i elem id off len cap hu
    obtain ⟨i, k, hi', rfl, hk⟩ := hx.slice_inv
    split at h
    · rename_i size hs
      split at h
      · simp only [capR] at hk
        subst hk
        obtain ⟨l, hh, m, e1, e2⟩ := cut_ok (P := P) (w := w) (isSlice := true) (k := k) hi' (by simp [capN]) (by simp) h1 h2 h3 h
        exact ⟨_, by simp only [Instr.sliceAt, Instr.slice, Sem.run_bind, s_underlying hu, Result.andThen_ok, e1, s_sizeOf hs, Option.map_some]; rfl, by
          have := e2
          split <;> simp_all⟩
      · rename_i es
        obtain ⟨l, hh, m, e1, e2⟩ := cut_ok (P := P) (w := w) (isSlice := true) (k := k) hi' (cap := none) (by exact hk.1) (by simp only [Option.some.injEq]; rintro e rfl; exact hk) h1 h2 h3 h
        exact ⟨_, by simp only [Instr.sliceAt, Instr.slice, Sem.run_bind, s_underlying hu, Result.andThen_ok, e1, s_sizeOf hs, Option.map_some]; rfl, by
          have := e2
          split <;> simp_all⟩
    · cases h
  · rename_i n elem id off hu
    obtain ⟨i, hi', rfl⟩ := hx.ptr_inv
    split at h
    · rename_i size hs
      obtain ⟨l, hh, m, e1, e2⟩ := cut_ok (P := P) (w := w) (isSlice := false) (k := n) hi' (by simp [capN]) (by simp) h1 h2 h3 h
      exact ⟨_, by simp only [Instr.sliceAt, Instr.sureAddr, Sem.run_bind, s_underlying hu, Result.andThen_ok, e1, s_sizeOf hs, Sem.run_pure], e2⟩
    · cases h
  · cases h

/-! ### making -/
theorem foldl_setA (off : Nat) : ∀ (l : List Value) (i : Nat) (cells : Array Value), (l.zipIdx i).foldl (fun cs (p : Value × Nat) => cs.setIfInBounds (off + p.2) p.1) cells = setA cells (off + i) l
  | [], i, cells => rfl
  | v :: l, i, cells => by simp only [List.zipIdx_cons, List.foldl_cons, setA]; rw [foldl_setA off l (i + 1)]; rfl
theorem setL_ok : ∀ {l : List AV} {vs : List Value} {as : List AV} {arr : Array Value} {off : Nat}, VRs C as arr.toList → VRs C l vs → VRs C (setL as off l) (setA arr off vs).toList := by
  intro l
  induction l with
  | nil => intro vs as arr off h h'; simp only [VRs] at h'; subst h'; exact h
  | cons a l ih =>
    intro vs as arr off h h'
    simp only [VRs] at h'
    obtain ⟨v, vs, rfl, h1, h2⟩ := h'
    rw [setL, setA]
    exact ih (by rw [Array.toList_setIfInBounds]; exact h.set off h1) h2
theorem setL_length : ∀ (l : List AV) (as : List AV) (off : Nat), (setL as off l).length = as.length
  | [], as, off => rfl
  | a :: l, as, off => by rw [setL, setL_length l]; simp
theorem fillA_ok {placeA place : Nat → Option (Nat × Nat)} (hp : ∀ i p, placeA i = some p → place i = some p) : ∀ {parts : List (Nat × AV)} {vparts : List (Nat × Value)} {cells r : List AV} {arr : Array Value}, PRs C parts vparts → VRs C cells arr.toList →
    fillA placeA cells parts = some r → ∃ arr', Instr.fill place arr vparts = some arr' ∧ VRs C r arr'.toList := by
  intro parts
  induction parts with
  | nil =>
    intro vparts cells r arr h hc e
    simp only [PRs] at h
    subst h
    simp only [fillA, Option.some.injEq] at e
    subst e
    exact ⟨arr, rfl, hc⟩
  | cons p parts ih =>
    intro vparts cells r arr h hc e
    obtain ⟨i, a⟩ := p
    simp only [PRs] at h
    obtain ⟨v, vs, rfl, h1, h2⟩ := h
    simp only [fillA] at e
    split at e
    · cases e
    · rename_i off size hpl
      cases hb : Nat.beq a.cells.length size && Nat.ble (off + size) cells.length with
      | false => rw [hb] at e; cases e
      | true =>
        rw [hb] at e
        simp only [cond_true] at e
        simp only [Bool.and_eq_true] at hb
        have b1 := Nat.eq_of_beq_eq_true hb.1
        have b2 := Nat.le_of_ble_eq_true hb.2
        have l1 : v.cells.size = size := by rw [← b1, ← h1.cells.length]; simp
        have l2 : arr.size = cells.length := by rw [← hc.length]; simp
        obtain ⟨arr', e1, e2⟩ := ih h2 (setL_ok (off := off) hc h1.cells) e
        refine ⟨arr', ?_, e2⟩
        simp only [Instr.fill, hp _ _ hpl]
        rw [if_neg (by simp [l1]; omega), ← e1]
        congr 1
        have := foldl_setA off v.cells.toList 0 arr
        rw [Nat.add_zero] at this
        rw [← this, ← Array.foldl_toList]
        congr 1
        simp [Array.toList_zipIdx]
theorem s_places : ∀ {l : List Field}, sized P l = true → (l.mapM fun f => (do pure (f.offset, ← sizeOf f.type) : Sem (Nat × Nat))).run P w = .ok (l.map fun f => (f.offset, (sizeT P f.type).getD 0)) w
  | [], _ => rfl
  | f :: l, h => by
    simp only [sized, Bool.and_eq_true] at h
    obtain ⟨n, hn⟩ := Option.isSome_iff_exists.1 h.1
    have ih := s_places h.2
    simp only [List.mapM_cons, Sem.run_bind, s_sizeOf hn, Result.andThen_ok, Sem.run_pure, ih, List.map_cons, hn, Option.getD_some]
theorem buildA_ok {t : TypeId} {parts : List (Nat × AV)} {vparts : Array (Nat × Value)} {r : AV} (hp : PRs C parts vparts.toList) (h : buildA P t parts = some r) :
    ∃ v, (Instr.build t vparts).run P w = .ok v w ∧ VR C r v := by
  unfold buildA at h
  split at h
  · rename_i zero fields hz hu
    obtain ⟨z, ez, rfl, _⟩ := s_zeroValue (w := w) hz
    cases hb : sized P fields.toList with
    | false => rw [hb] at h; cases h
    | true =>
      rw [hb] at h
      simp only [cond_true] at h
      split at h
      · rename_i l hl
        injection h with h; subst h
        obtain ⟨arr', e1, e2⟩ := fillA_ok (C := C) (place := fun i => (fields.map fun f => (f.offset, (sizeT P f.type).getD 0))[i]?) (fun i p hip => by
          unfold structPlace at hip
          split at hip
          · rename_i f hf
            split at hip
            · rename_i n hn
              injection hip with hip; subst hip
              have : fields[i]? = some f := by simpa using hf
              simp [this, hn]
            · cases hip
          · cases hip) hp (VR.ofV C z).cells hl
        refine ⟨.agg arr', ?_, by simp only [VR]; exact ⟨_, rfl, e2⟩⟩
        have hm : (fields.mapM fun f => (do pure (f.offset, ← sizeOf f.type) : Sem (Nat × Nat))).run P w = .ok (fields.map fun f => (f.offset, (sizeT P f.type).getD 0)) w := by
          obtain ⟨l⟩ := fields
          rw [List.mapM_toArray, Sem.run_map, s_places hb]
          simp
        simp only [Instr.build, Sem.run_bind, ez, Result.andThen_ok, s_underlying hu, hm, e1, Sem.run_pure]
      · cases h
  · rename_i zero len elem hz hu
    obtain ⟨z, ez, rfl, _⟩ := s_zeroValue (w := w) hz
    split at h
    · rename_i size hs
      split at h
      · rename_i l hl
        injection h with h; subst h
        obtain ⟨arr', e1, e2⟩ := fillA_ok (C := C) (place := fun i => some (i * size, size)) (fun i p hip => hip) hp (VR.ofV C z).cells hl
        refine ⟨.agg arr', ?_, by simp only [VR]; exact ⟨_, rfl, e2⟩⟩
        simp only [Instr.build, Sem.run_bind, ez, Result.andThen_ok, s_underlying hu, s_sizeOf hs, e1, Sem.run_pure]
      · cases h
    · cases h
  · cases h
theorem repA_length (z : List AV) : ∀ n, (repA z n).length = n * z.length
  | 0 => by simp [repA]
  | n + 1 => by simp [repA, repA_length z n, Nat.succ_mul, Nat.add_comm]
theorem repA_get (z : List AV) : ∀ n k, k < n * z.length → (repA z n)[k]? = z[k % z.length]?
  | 0, k, h => by omega
  | n + 1, k, h => by
    rw [repA]
    by_cases hk : k < z.length
    · rw [List.getElem?_append_left hk, Nat.mod_eq_of_lt hk]
    · rw [List.getElem?_append_right (by omega), repA_get z n (k - z.length) (by rw [Nat.succ_mul] at h; omega)]
      rw [← Nat.mod_eq_sub_mod (by omega)]
theorem zeros_ok {z : Value} {n m : Nat} (hm : z.cells.size = m) (hpos : 0 < m) : VRs C (repA (ofV z).cells n) ((Array.range (n * m)).map (z.cells[· % z.cells.size]!)).toList := by
  have hz := (VR.ofV C z).cells
  have hl : (ofV z).cells.length = m := by rw [← hz.length]; simpa using hm
  refine VRs.iff.2 ⟨by simp [repA_length, hl], fun k a v ha hv => ?_⟩
  have hk : k < n * m := by
    rcases Nat.lt_or_ge k (n * m) with h | h
    · exact h
    · rw [List.getElem?_eq_none (by simp; omega)] at hv; cases hv
  rw [repA_get _ _ _ (by rw [hl]; exact hk), hl] at ha
  obtain ⟨x, hx, hr⟩ := hz.get ha
  have hlt : k % m < z.cells.size := by rw [hm]; exact Nat.mod_lt _ hpos
  have e : v = x := by
    simp only [Array.toList_map, List.getElem?_map, Array.toList_range, List.getElem?_range hk, Option.map_some, Option.some.injEq, hm] at hv
    rw [← hv]
    have : z.cells[k % m]? = some x := by simpa using hx
    rw [Array.getElem!_eq_getD, Array.getD_eq_getD_getElem?, this]
    rfl
  rw [e]; exact hr
theorem zerosA_ok {t : TypeId} {n : Nat} {l : List AV} (h : zerosA P t n = some l) :
    ∃ z m, (zeroValue t).run P w = .ok z w ∧ sizeT P t = some m ∧ z.cells.size = m ∧ 0 < m ∧ n * m ≤ 1000000 ∧ l = repA (ofV z).cells n := by
  unfold zerosA at h
  split at h
  · rename_i a size hz hs
    obtain ⟨z, ez, rfl, _⟩ := s_zeroValue (w := w) hz
    cases hb : Nat.beq (ofV z).cells.length (size + 1) && Nat.ble (n * (size + 1)) 1000000 with
    | false => rw [hb] at h; cases h
    | true =>
      rw [hb] at h
      injection h with h
      simp only [Bool.and_eq_true] at hb
      have b1 := Nat.eq_of_beq_eq_true hb.1
      have b2 := Nat.le_of_ble_eq_true hb.2
      have hl := (VR.ofV (fun _ => none) z).cells.length
      exact ⟨z, size + 1, ez, hs, by rw [← b1, ← hl]; simp, Nat.succ_pos _, b2, h.symm⟩
  · cases h

/-! ### the rest that turns nothing -/
theorem typeAssertA_ok {x r : AV} {vx : Value} {xt t : TypeId} {ok : Bool} (hx : VR C x vx) (h : typeAssertA P x t ok = some r) : ∃ v, (Instr.typeAssert vx xt t ok).run P w = .ok v w ∧ VR C r v := by
  have holds : ∀ {y : AV} {vy : Value}, VR C y vy → VR C (bif ok then AV.tuple [y, .bool true] else y) (if ok then .tuple #[vy, .bool true] else vy) := by
    intro y vy hy
    cases ok
    · simpa using hy
    · simp only [cond_true, if_true, VR]
      exact ⟨_, rfl, by simp only [VRs.cons]; exact ⟨hy, VR.mk_bool _, VRs.nil⟩⟩
  have fails : ∀ {q : AV}, (bif ok then (match zeroT P t with | some z => some (AV.tuple [z, .bool false]) | none => none) else none) = some q → ok = true ∧ ∃ z, (zeroValue t).run P w = .ok z w ∧ VR C q (.tuple #[z, .bool false]) := by
    intro q hq
    cases ok
    · cases hq
    · simp only [cond_true] at hq
      split at hq
      · rename_i a ha
        obtain ⟨z, ez, rfl, _⟩ := s_zeroValue (w := w) ha
        injection hq with hq; subst hq
        refine ⟨rfl, z, ez, ?_⟩
        simp only [VR]
        exact ⟨_, rfl, by simp only [VRs.cons]; exact ⟨VR.ofV C z, VR.mk_bool _, VRs.nil⟩⟩
      · cases hq
  unfold typeAssertA at h
  simp only at h
  split at h
  · rename_i ms hu
    have := hx.nilIface_inv; subst this
    obtain ⟨rfl, z, ez, hr⟩ := fails h
    exact ⟨_, by simp [Instr.typeAssert, s_underlying hu, ez], hr⟩
  · rename_i want d y hu
    obtain ⟨vy, rfl, hy⟩ := hx.iface_inv
    split at h
    · rename_i i hi
      split at h
      · rename_i hm
        injection h with h; subst h
        refine ⟨_, ?_, holds hx⟩
        simp [Instr.typeAssert, s_underlying hu, s_typeInfo hi, hm]
      · rename_i q hm
        obtain ⟨rfl, z, ez, hr⟩ := fails h
        exact ⟨_, by simp [Instr.typeAssert, s_underlying hu, s_typeInfo hi, hm, ez], hr⟩
    · cases h
  · rename_i d hni hu
    have := hx.nilIface_inv; subst this
    obtain ⟨rfl, z, ez, hr⟩ := fails h
    refine ⟨_, ?_, hr⟩
    simp only [Instr.typeAssert, Sem.run_bind, s_underlying hu, Result.andThen_ok]
    cases d <;> first | (exact absurd rfl (hni _)) | simp [ez]
  · rename_i d ty y hni hu
    obtain ⟨vy, rfl, hy⟩ := hx.iface_inv
    cases hb : Nat.beq ty t with
    | true =>
      have := Nat.eq_of_beq_eq_true hb
      subst this
      rw [hb] at h
      simp only [cond_true, Option.some.injEq] at h
      subst h
      refine ⟨_, ?_, holds hy⟩
      simp only [Instr.typeAssert, Sem.run_bind, s_underlying hu, Result.andThen_ok]
      cases d <;> first | (exact absurd rfl (hni _)) | simp
    | false =>
      have hne : ty ≠ t := fun e => by subst e; simp at hb
      rw [hb] at h
      simp only [cond_false] at h
      obtain ⟨rfl, z, ez, hr⟩ := fails h
      refine ⟨_, ?_, hr⟩
      simp only [Instr.typeAssert, Sem.run_bind, s_underlying hu, Result.andThen_ok]
      cases d <;> first | (exact absurd rfl (hni _)) | simp [ez, hne]
  · cases h
theorem extractA_ok {x r : AV} {vx : Value} {i : Nat} (hx : VR C x vx) (h : extractA x i = some r) : ∃ v, (Instr.extract vx i).run P w = .ok v w ∧ VR C r v := by
  unfold extractA at h
  split at h
  · obtain ⟨l, rfl, hl⟩ := hx.tuple_inv
    obtain ⟨v, hv, hr⟩ := hl.get h
    have e : l[i]? = some v := by simpa using hv
    exact ⟨v, by simp [Instr.extract, e], hr⟩
  · cases h
theorem ifaceA_ok {x r : AV} {vx : Value} {t : TypeId} (hx : VR C x vx) (h : ifaceA P t x = some r) : ∃ v, (Instr.makeInterface t vx).run P w = .ok v w ∧ VR C r v := by
  unfold ifaceA at h
  split at h
  · cases h
  · rename_i d hni hu
    injection h with h; subst h
    refine ⟨.iface t vx, ?_, by simp only [VR]; exact ⟨_, rfl, hx⟩⟩
    simp only [Instr.makeInterface, Sem.run_bind, s_underlying hu, Result.andThen_ok]
    cases d <;> first | (exact absurd rfl (hni _)) | rfl
  · cases h
theorem minA_ok {isMax : Bool} : ∀ {l : List AV} {x r : AV} {vl : List Value} {vx : Value}, VR C x vx → VRs C l vl → minA isMax x l = some r →
    ∃ v, (vl.foldlM (if isMax then Builtin.max2 else Builtin.min2) vx).run P w = .ok v w ∧ VR C r v := by
  intro l
  induction l with
  | nil =>
    intro x r vl vx hx hl h
    simp only [VRs] at hl; subst hl
    unfold minA at h
    simp only [Option.some.injEq] at h
    subst h
    exact ⟨vx, rfl, hx⟩
  | cons a l ih =>
    intro x r vl vx hx hl h
    simp only [VRs] at hl
    obtain ⟨v, vs, rfl, h1, h2⟩ := hl
    cases x <;> cases a <;> simp only [minA] at h <;> first | (cases h; done) | skip
    rename_i k n k' n'
    have := hx.int_inv; subst this
    have := h1.int_inv; subst this
    obtain ⟨v, e1, e2⟩ := ih (vx := .int k (if isMax then (if n' > n then n' else n) else (if n' < n then n' else n))) (by
      cases isMax
      · by_cases hd : n' < n <;> simp [VR, hd]
      · by_cases hd : n' > n <;> simp [VR, hd]) h2 h
    refine ⟨v, ?_, e2⟩
    cases isMax <;> simpa [List.foldlM_cons, Builtin.max2, Builtin.min2] using e1
end
end Go.Mach
end
section
/-! The machine's operations that make or turn rows of cells are the model's. -/
set_option linter.unusedSimpArgs false
set_option linter.unusedVariables false
namespace Go.Mach
open Go
section
variable {P : Program} {base : Nat} {C : CMap} {s s' : St} {w : World}

theorem wrap_small {n : Nat} (h : n ≤ 1000000) : IntKind.i64.wrap (n : Int) = n := by
  simp only [IntKind.wrap, IntKind.bits, IntKind.signed]
  have h1 : ((n : Int) % 2 ^ 64) = n := Int.emod_eq_of_lt (Int.natCast_nonneg _) (by omega)
  simp only [h1]
  rw [if_neg]
  simp only [Bool.true_and, decide_eq_true_eq, ge_iff_le]
  omega

/-- A computation that turns nothing yields a value. -/
theorem Res.value {r : AV} {c : Sem Value} (h : ∃ v, c.run P w = .ok v w ∧ VR C r v) (hw : WR P base C s.h.get w.heap) (hs : Same s s') : Res P base C s s' w (fun C v => VR C r v) (c.run P w) :=
  let ⟨v, e, hr⟩ := h; Res.of e hr hw hs

theorem allocA_ok {elem : TypeId} {id : Nat} {z : AV} (hw : WR P base C s.h.get w.heap) (hG : P.globals.size ≤ s.n) (hf : Fresh C s.n s'.n) (hz : zeroT P elem = some z)
    (h : (newCells elem z.cells false).run s = some (id, s')) : Res P base C s s' w (fun C v => VR C (.ptr id 0) v) ((Instr.alloc elem true (.tuple #[])).run P w) := by
  obtain ⟨x, ez, rfl, _⟩ := s_zeroValue (w := w) hz
  obtain ⟨h1, h2, C', i, h3, h4, h5, h6, h7, h8, h9, h10⟩ := newCells_ok (rest := []) hw hG hf (VR.ofV C x).cells h (fun _ => rfl)
  refine ⟨C', .pointer (some ⟨w.heap.size, 0, none⟩), _, ?_, by simp only [VR]; exact ⟨i, h3, by rw [h4, h5]⟩, h7, h8, h10⟩
  simp [Instr.alloc, ez, newVar, newRow]
theorem boxA_ok {elem : TypeId} {id : Nat} {x : AV} {v : Value} (hw : WR P base C s.h.get w.heap) (hG : P.globals.size ≤ s.n) (hf : Fresh C s.n s'.n) (hv : VR C x v)
    (h : (newCells elem x.cells false).run s = some (id, s')) : Res P base C s s' w (fun C v => VR C (.ptr id 0) v) ((Instr.box elem v).run P w) := by
  obtain ⟨h1, h2, C', i, h3, h4, h5, h6, h7, h8, h9, h10⟩ := newCells_ok (rest := []) hw hG hf hv.cells h (fun _ => rfl)
  refine ⟨C', .pointer (some ⟨w.heap.size, 0, none⟩), _, ?_, by simp only [VR]; exact ⟨i, h3, by rw [h4, h5]⟩, h7, h8, h10⟩
  simp [Instr.box, newVar, newRow]
theorem push_nil (arr : Array Value) : (arr.toList ++ []).toArray = arr := by simp
theorem range0 (f : Nat → Value) : (Array.range 0).map f = #[] := Array.eq_empty_of_size_eq_zero (by simp)
theorem buildSliceA_ok {t : TypeId} {len : Nat} {parts : List (Nat × AV)} {vparts : Array (Nat × Value)} {r : AV} (hw : WR P base C s.h.get w.heap) (hG : P.globals.size ≤ s.n) (hf : Fresh C s.n s'.n) (hp : PRs C parts vparts.toList)
    (h : (buildSliceA P t len parts).run s = some (r, s')) : Res P base C s s' w (fun C v => VR C r v) ((Instr.buildSlice t len vparts).run P w) := by
  unfold buildSliceA at h
  split at h
  · rename_i elem hu
    simp only [run_opt, M.run_bind', M.run_pure'] at h
    obtain ⟨z, hz, size, hs, l, hl, id, s1, hn, rfl, rfl⟩ := h
    obtain ⟨x, m, ez, hs', hm, hpos, hle, rfl⟩ := zerosA_ok (w := w) hz
    rw [hs] at hs'; injection hs' with hs'; subst hs'
    have hzr := zeros_ok (C := C) (n := len) hm hpos
    obtain ⟨arr', e1, e2⟩ := fillA_ok (C := C) (place := fun i => some (i * size, size)) (fun i p hip => hip) hp hzr hl
    obtain ⟨h1, h2, C', i, h3, h4, h5, h6, h7, h8, h9, h10⟩ := newCells_ok (rest := []) hw hG hf e2 hn (fun _ => rfl)
    refine ⟨C', .slice (some ⟨w.heap.size, 0, none⟩) len len, _, ?_, by simp only [VR]; exact ⟨i, len, h3, by rw [h4, h5], rfl⟩, h7, h8, h10⟩
    have hnot : ¬ (len * size > 2 ^ 24) := by omega
    by_cases h0 : len * size = 0
    · have hl0 : len = 0 := by rcases Nat.mul_eq_zero.1 h0 with h | h <;> omega
      subst hl0
      simp only [Nat.zero_mul, range0] at e1
      simp [Instr.buildSlice, s_underlying hu, s_sizeOf hs, range0, e1, newRow]
    · simp only [Instr.buildSlice, Sem.run_bind, s_underlying hu, Result.andThen_ok, s_sizeOf hs, hnot, if_false, h0, ez, Sem.run_pure, e1, newRow, run_newObj]
      simp
  · simp at h
theorem makeSliceA_ok {t : TypeId} {len cap r : AV} {vl vc : Value} (hw : WR P base C s.h.get w.heap) (hG : P.globals.size ≤ s.n) (hf : Fresh C s.n s'.n) (hl : VR C len vl) (hc : VR C cap vc)
    (h : (makeSliceA P t len cap).run s = some (r, s')) : Res P base C s s' w (fun C v => VR C r v) ((Instr.makeSlice t vl vc).run P w) := by
  unfold makeSliceA at h
  split at h
  · rename_i elem kl l kc c hu
    simp only [run_chk, run_opt, M.run_bind', M.run_pure', Bool.and_eq_true] at h
    obtain ⟨⟨hb, hlc, hc0⟩, z, hz, id, s1, hn, rfl, rfl⟩ := h
    have := hl.int_inv; subst this
    have := hc.int_inv; subst this
    have hlc := Nat.le_of_ble_eq_true hlc
    have hc0 := Nat.le_of_ble_eq_true hc0
    obtain ⟨x, m, ez, hs, hm, hpos, hle, rfl⟩ := zerosA_ok (w := w) hz
    have hzr := zeros_ok (C := C) (n := c) hm hpos
    obtain ⟨h1, h2, C', i, h3, h4, h5, h6, h7, h8, h9, h10⟩ := newCells_ok (rest := []) hw hG hf hzr hn (fun _ => rfl)
    rw [push_nil] at h7 h10
    refine ⟨C', .slice (some ⟨w.heap.size, 0, none⟩) l c, _, ?_, by simp only [VR]; exact ⟨i, c, h3, by rw [h4, h5], rfl⟩, h7, h8, h10⟩
    unfold lightT at hb
    split at hb
    · rename_i inf hi
      have hby := Nat.le_of_ble_eq_true hb
      have wl : IntKind.i64.wrap (Int.ofNat l) = l := wrap_small (by omega)
      have wc : IntKind.i64.wrap (Int.ofNat c) = c := wrap_small (by omega)
      have hprod : inf.bytes * c ≤ 100000 * 100000 := Nat.mul_le_mul hby hc0
      have t1 : (decide ((c : Int) < 0) || decide ((inf.bytes : Int) * (c : Int) > 2 ^ 48)) = false := by
        have e : ((inf.bytes : Int) * (c : Int)) = ((inf.bytes * c : Nat) : Int) := by simp
        simp only [Bool.or_eq_false_iff, decide_eq_false_iff_not]
        rw [e]
        omega
      have t2 : ¬ ((l : Int) < 0) := by omega
      have t3 : ¬ ((l : Int) > (c : Int)) := by omega
      by_cases h0 : c * m = 0
      · have hc0 : c = 0 := by rcases Nat.mul_eq_zero.1 h0 with h | h <;> omega
        subst hc0
        have hl0 : l = 0 := by omega
        subst hl0
        simp only [Instr.makeSlice, Sem.run_bind, s_underlying hu, Result.andThen_ok, asInt, asIntOf, Sem.run_pure, s_typeInfo hi, wl, wc, t1, t2, t3]
        simp [s_sizeOf hs, newRow, range0]
      · simp only [Instr.makeSlice, Sem.run_bind, s_underlying hu, Result.andThen_ok, asInt, asIntOf, Sem.run_pure, s_typeInfo hi, wl, wc, t1, t2, t3]
        simp [s_sizeOf hs, newRow, h0, ez]
    · cases hb
  · simp at h

/-! ### append, copy -/
theorem lenOfA_ok {x : AV} {v : Value} {n : Nat} (hx : VR C x v) (h : lenOfA x = some n) : (Builtin.lenOf v).run P w = .ok n w := by
  unfold lenOfA at h
  split at h
  · injection h with h; subst h; have := hx.nilSlice_inv; subst this; rfl
  · injection h with h; subst h; obtain ⟨i, k, _, rfl, _⟩ := hx.slice_inv; rfl
  · injection h with h; subst h; obtain ⟨b, rfl, rfl⟩ := hx.str_inv; rw [bytesOf_length]; rfl
  · cases h
theorem strCells_ok (b : ByteArray) (n : Nat) : VRs C (((bytesOf b).take n).map fun c => AV.int .u8 (Int.ofNat c)) ((b.extract 0 n).data.map fun c => Value.int .u8 c.toNat).toList := by
  refine VRs.iff.2 ⟨by simp [bytesOf, ByteArray.data_extract], fun k a v ha hv => ?_⟩
  simp only [bytesOf, ByteArray.data_extract, Array.toList_map, Array.toList_extract, List.extract_eq_drop_take', Nat.sub_zero, List.drop_zero, List.getElem?_map, List.getElem?_take] at ha hv
  by_cases hk : k < n
  · rw [if_pos hk] at ha hv
    cases hb : b.data.toList[k]? with
    | none => rw [hb] at ha; cases ha
    | some c =>
      rw [hb] at ha
      rw [hb] at hv
      simp only [Option.map_some, Option.some.injEq] at ha hv
      subst ha hv
      exact VR.mk_int _ _
  · rw [if_neg hk] at ha; cases ha
theorem firstA_ok {size n : Nat} {x : AV} {v : Value} {l : List AV} (hw : WR P base C s.h.get w.heap) (hx : VR C x v) (h : (firstA size n x).run s = some (l, s')) :
    ∃ vs : Array Value, (Builtin.firstCells size n v).run P w = .ok vs w ∧ VRs C l vs.toList ∧ Same s s' := by
  unfold firstA at h
  split at h
  · simp only [M.run_pure'] at h
    obtain ⟨rfl, rfl⟩ := h
    have := hx.nilSlice_inv; subst this
    exact ⟨#[], rfl, VRs.nil, Same.refl _⟩
  · rename_i id off len cap
    obtain ⟨i, k, hi, rfl, _⟩ := hx.slice_inv
    obtain ⟨j, vs, hj, e1, e2, e3, e4⟩ := readA_ok hw h
    rw [hi] at hj; injection hj with hj; subst hj
    exact ⟨vs.toArray, e2, by simpa using e3, e4⟩
  · simp only [M.run_pure'] at h
    obtain ⟨rfl, rfl⟩ := h
    obtain ⟨b, rfl, rfl⟩ := hx.str_inv
    exact ⟨_, rfl, strCells_ok b n, Same.refl _⟩
  · simp at h
theorem growBy_le (n : Nat) : ∀ r c : Nat, c ≤ n → Builtin.growBy n r c ≤ 2 * n + 1000
  | 0, c, h => by simp only [Builtin.growBy]; omega
  | r + 1, c, h => by
    simp only [Builtin.growBy]
    split
    · omega
    · by_cases hc : c + (c + 768) / 4 ≤ n
      · exact growBy_le n r _ hc
      · cases r with
        | zero => simp only [Builtin.growBy]; omega
        | succ r => simp only [Builtin.growBy]; rw [if_pos (by omega)]; omega
theorem nextcap_le {n c : Nat} (h : c < n) : Builtin.nextslicecap n c ≤ 2 * n + 1000 := by
  unfold Builtin.nextslicecap
  split
  · omega
  · split
    · omega
    · exact growBy_le n 4 c (by omega)
theorem fitT_ok {t : TypeId} {n : Nat} (h : fitT P t = true) (hn : sizeT P t = some n) : ∃ z, (∀ w, (zeroValue t).run P w = .ok z w) ∧ z.cells.size = n := by
  unfold fitT at h
  rw [hn] at h
  split at h
  · rename_i z m hz e
    injection e with e; subst e
    obtain ⟨x, _, rfl, hx⟩ := s_zeroValue (w := default) hz
    have hl := (VR.ofV (fun _ => none) x).cells.length
    refine ⟨x, fun w => ?_, by rw [← Nat.eq_of_beq_eq_true h, ← hl]; simp⟩
    obtain ⟨y, ey, _, hy⟩ := s_zeroValue (w := w) hz
    rw [hx] at hy; injection hy with hy; rw [hy]; exact ey
  · cases h
theorem zeroCells_size (z : Array Value) (n : Nat) : (Builtin.zeroCells z n).size = n * z.size := by simp [Builtin.zeroCells]
/-- What a call of append comes to where the row has the room, and where it has not. -/
structure AppR (P : Program) (w : World) (elem : TypeId) (size n : Nat) (x : Value) (b : Option Addr) (sLen sCap : Nat) (r : Result Value) : Prop where
  fits : sLen + n ≤ sCap → r = ((Builtin.firstCells size n x).run P w).andThen fun new w1 => ((match b with | some a => storeCells (a.add (sLen * size)) new.toList | none => pure ()).run P w1).andThen fun _ w2 => .ok (.slice b (sLen + n) sCap) w2
  grow : ∀ {oldv freshv : Array Value} {z : Value}, ¬ (sLen + n ≤ sCap) → sLen ≤ 100000 → n ≤ 100000 → lightT P elem = true →
    (Builtin.firstCells size sLen (.slice b sLen sCap)).run P { w with drawn := w.drawn + 1 } = .ok oldv { w with drawn := w.drawn + 1 } →
    (Builtin.firstCells size n x).run P { w with drawn := w.drawn + 1 } = .ok freshv { w with drawn := w.drawn + 1 } →
    (∀ w, (zeroValue elem).run P w = .ok z w) → ∃ newCap, sLen + n ≤ newCap ∧
      r = .ok (.slice (some ⟨w.heap.size, 0, none⟩) (sLen + n) newCap)
        { w with drawn := w.drawn + 1, heap := w.heap.push (.cells (oldv ++ freshv ++ Builtin.zeroCells z.cells (newCap - (sLen + n))) elem) }
theorem append_R {st elem : TypeId} {size n sLen sCap : Nat} {x : Value} {b : Option Addr} {argTypes : Array TypeId} {ty : TypeId} (h0 : argTypes[0]? = some st) (hu : P.underlying st = some (.slice elem)) (hs : sizeT P elem = some size)
    (hx : wholeT P argTypes[1]? = true) (hn : (Builtin.lenOf x).run P w = .ok n w) :
    AppR P w elem size n x b sLen sCap ((Builtin.append_ argTypes ty #[.slice b sLen sCap, x]).run P w) := by
  constructor
  · intro hc
    unfold Builtin.append_
    cases h1 : argTypes[1]? with
    | none =>
      simp only [h0, Sem.run_bind, s_underlying hu, Result.andThen_ok, s_sizeOf hs, hn, Bool.false_eq_true, if_false, Bool.not_false, if_true, List.getElem?_toArray, List.getElem?_cons_zero, List.getElem?_cons_succ, Sem.run_pure, hc]
      cases b with
      | none => rfl
      | some a => simp only [Sem.run_bind, Sem.run_pure]
    | some xt =>
      rw [h1] at hx
      unfold wholeT at hx
      simp only at hx
      split at hx
      · cases hx
      · rename_i d hni hd
        have hd' : (match d with | .int _ => true | _ => false) = false := by
          cases d <;> first | rfl | exact absurd rfl (hni _)
        simp only [h0, Sem.run_bind, s_underlying hu, s_underlying hd, hd', Result.andThen_ok, s_sizeOf hs, hn, Bool.false_eq_true, if_false, Bool.not_false, if_true, List.getElem?_toArray, List.getElem?_cons_zero, List.getElem?_cons_succ, Sem.run_pure, hc]
        cases b with
        | none => rfl
        | some a => simp only [Sem.run_bind, Sem.run_pure]
      · cases hx
  · intro oldv freshv z hc hl1 hl2 hl ho hf hz
    unfold lightT at hl
    split at hl
    · rename_i inf hi
      have hby := Nat.le_of_ble_eq_true hl
      have hcap := nextcap_le (n := sLen + n) (c := sCap) (by omega)
      have hm : IntKind.i64.max = 9223372036854775807 := by decide
      have hprod : Builtin.nextslicecap (sLen + n) sCap * inf.bytes ≤ 500000 * 100000 := Nat.mul_le_mul (by omega) hby
      have c1 : ¬ (((sLen + n : Nat) : Int) > IntKind.i64.max ∧ (False ∨ inf.bytes = 0)) := by rw [hm]; omega
      have c2 : ¬ (Builtin.nextslicecap (sLen + n) sCap * inf.bytes > 2 ^ 48) := by omega
      have hq : (Question.appendCap (sLen + n) sCap elem).forced = false := rfl
      refine ⟨(Question.appendCap (sLen + n) sCap elem).cut (w.tape w.drawn (.appendCap (sLen + n) sCap elem)), by simp only [Question.cut]; omega, ?_⟩
      unfold Builtin.append_
      cases h1 : argTypes[1]? with
      | none =>
        simp only [h0, Sem.run_bind, s_underlying hu, Result.andThen_ok, s_sizeOf hs, hn, Bool.false_eq_true, if_false, Bool.not_false, if_true, List.getElem?_toArray, List.getElem?_cons_zero, List.getElem?_cons_succ, Sem.run_pure, if_neg hc,
          s_typeInfo hi, Sem.run_ite, c1, c2, run_choose, hq, run_askRoom, ho, hf, hz, newRow, run_newObj]
      | some xt =>
        rw [h1] at hx
        unfold wholeT at hx
        simp only at hx
        split at hx
        · cases hx
        · rename_i d hni hd
          have hd' : (match d with | .int _ => true | _ => false) = false := by
            cases d <;> first | rfl | exact absurd rfl (hni _)
          simp only [h0, Sem.run_bind, s_underlying hu, s_underlying hd, hd', Result.andThen_ok, s_sizeOf hs, hn, Bool.false_eq_true, if_false, Bool.not_false, if_true, List.getElem?_toArray, List.getElem?_cons_zero, List.getElem?_cons_succ, Sem.run_pure, if_neg hc,
            s_typeInfo hi, Sem.run_ite, c1, c2, run_choose, hq, run_askRoom, ho, hf, hz, newRow, run_newObj]
        · cases hx
    · cases hl
theorem newCells_elem : True := trivial
/-- A slice that has grown. -/
theorem grown_ok {elem : TypeId} {size len n : Nat} {l : List AV} {vs : List Value} {z : Value} {newCap id : Nat} (hw : WR P base C s.h.get w.heap) (hG : P.globals.size ≤ s.n) (hf : Fresh C s.n s'.n) (hv : VRs C l vs)
    (hl : l.length = (len + n) * size) (hz : z.cells.size = size) (hn : len + n ≤ newCap) (h : (newCells elem l true).run s = some (id, s')) {arr : Array Value} (ha : arr = vs.toArray ++ Builtin.zeroCells z.cells (newCap - (len + n))) :
    Res P base C s s' w (fun C v => VR C (.slice id 0 (len + n) (.more size)) v) (.ok (.slice (some ⟨w.heap.size, 0, none⟩) (len + n) newCap) { w with drawn := w.drawn + 1, heap := w.heap.push (.cells arr elem) }) := by
  obtain ⟨h1, h2, C', i, h3, h4, h5, h6, h7, h8, h9, h10⟩ := newCells_ok (rest := (Builtin.zeroCells z.cells (newCap - (len + n))).toList) hw hG hf hv h (fun h => by cases h)
  have e : (vs ++ (Builtin.zeroCells z.cells (newCap - (len + n))).toList).toArray = arr := by
    rw [ha]; apply Array.ext'; simp
  rw [e] at h7 h10
  refine ⟨C', _, _, rfl, ?_, h7, h8, h10.os, h10.tape, h10.output, h10.size, h10.below⟩
  simp only [VR]
  refine ⟨i, newCap, h3, by rw [h4, h5], hn, ?_⟩
  have hr : i.room = newCap * size := by
    rw [h6, hv.length, hl, Array.length_toList, zeroCells_size, hz, ← Nat.add_mul]
    congr 1; omega
  rw [hr, h5]; omega
theorem eq_of_same_run {α : Type} {r : Result α} {a b : α} {w1 w2 : World} (h1 : r = .ok a w1) (h2 : r = .ok b w2) : a = b := by rw [h1] at h2; injection h2

theorem s_storeCells0 {b o : Nat} {e : TypeId} {fz : Nat × Nat} {l : List Value} {arr : Array Value} {w : World} (h : w.heap[b]? = some (.cells arr e fz)) (hl : o + l.length ≤ arr.size) (hf : ∀ k, k < arr.size → ¬ (fz.1 ≤ k ∧ k < fz.2)) (h1 : ∀ v ∈ l, v.oneCell' = true) :
    (storeCells ⟨b, o, none⟩ l).run P w = .ok () (World.setBlk w b (.cells (setA arr o l) e fz)) := by
  have := s_storeCells (P := P) (o := o) l 0 arr w h (by omega) hf h1
  rwa [Nat.add_zero] at this
/-- A slice of an unknown cap, its object put away, and the object under its new name. -/
theorem append_more {elem : TypeId} {size off len n k l id nid : Nat} {c c' : T AV} {ro : Bool} {i : RI} {x : Value} {fresh : List AV} {z : Value} {s1 : St} (hw : WR P base C s.h.get w.heap) (hG : P.globals.size ≤ s.n) (hf : Fresh C s.n s'.n)
    (hid : s.h.get id = some (.cells c l elem ro true)) (hi : C id = some i) (hro : ro = false) (hlen : len ≤ 100000) (hn0 : 0 < n) (hn : n ≤ 100000) (hlight : lightT P elem = true) (hz : ∀ w, (zeroValue elem).run P w = .ok z w) (hzs : z.cells.size = size)
    (hcap : len ≤ k ∧ i.off + off + k * size ≤ i.room) (hl : off + len * size ≤ l)
    (hfr : fresh.length = n * size) (hone : allOne fresh = true) (hread : ∀ w, WR P base C s.h.get w.heap → ∃ vs : Array Value, (Builtin.firstCells size n x).run P w = .ok vs w ∧ VRs C fresh vs.toList)
    (hc' : ∀ j a, j < (len + n) * size → c'.get j = some a → if j < len * size then c.get (off + j) = some a else fresh[j - len * size]? = some a)
    (h1 : s1.h.get = fun j => if j = id then none else s.h.get j) (h1n : s1.n = s.n) (h2 : (new (.cells c' ((len + n) * size) elem false true)).run s1 = some (nid, s')) {r : Result Value} (hr : AppR P w elem size n x (some ⟨i.blk, i.off + off, none⟩) len k r) :
    Res P base C s s' w (fun C v => VR C (.slice nid 0 (len + n) (.more size)) v) r := by
  subst hro
  rw [run_new] at h2
  obtain ⟨hn1, rfl, rfl⟩ := h2
  rw [h1n] at hn1
  simp only [h1n] at hf ⊢
  have hsid : s.n ≠ id := by
    rintro rfl
    have := hf s.n (Nat.le_refl _) (Nat.lt_succ_self _)
    rw [hi] at this; cases this
  have hn1' : s.h.get s.n = none := by
    have := hn1
    rw [h1] at this
    simpa [hsid] using this
  have hCn : C s.n = none := hf s.n (Nat.le_refl _) (Nat.lt_succ_self _)
  have hGi : P.globals.size ≤ id := by
    rcases Nat.lt_or_ge id P.globals.size with hlt | hge
    · have := hw.low id _ hid hlt; simp [AObj.still] at this
    · exact hge
  have hbase : base ≤ i.blk := hw.high id i hGi hi
  obtain ⟨i2, arr, fz, hi2, hb, hs, hlr, hcell, hfro, _⟩ := hw.cellsOf hid
  rw [hi] at hi2; injection hi2 with hi2; subst hi2
  have hmul : (len + n) * size = len * size + n * size := Nat.add_mul ..
  have hheap : ∀ j, (s1.h.set s.n (some (.cells c' ((len + n) * size) elem false true))).get j = if j = s.n then some (.cells c' ((len + n) * size) elem false true) else if j = id then none else s.h.get j := by
    intro j; rw [T.get_set, h1]
  by_cases hk : len + n ≤ k
  · -- in place
    obtain ⟨vs, e1, e2⟩ := hread w hw
    have hvl : vs.toList.length = n * size := by rw [e2.length, hfr]
    have hkm : (len + n) * size ≤ k * size := Nat.mul_le_mul_right _ hk
    have hst := s_storeCells0 (P := P) (o := i.off + off + len * size) (l := vs.toList) hb (by omega) (by rw [hs]; exact hfro rfl) (e2.allOne hone)
    let i' : RI := ⟨i.blk, i.off + off, i.room⟩
    have hext : Ext C (fun j => if j = s.n then some i' else C j) s.n (s.n + 1) := fun j hj => by
      have : j ≠ s.n := by rintro rfl; exact hj ⟨Nat.le_refl _, Nat.lt_succ_self _⟩
      simp [this]
    have hle := hext.le hf
    refine ⟨_, .slice (some ⟨i.blk, i.off + off, none⟩) (len + n) k, _, ?_, ?_, ?_, hext, setBlk_kept (o := .cells (setA arr (i.off + off + len * size) vs.toList) elem fz) hbase⟩
    · rw [hr.fits hk]
      simp only [e1, Result.andThen_ok, add_lit, hst]
    · simp only [VR]
      exact ⟨i', k, by simp, by simp [i'], hk, by simp only [i']; omega⟩
    · have := WR.again (i' := i') (o' := .cells c' ((len + n) * size) elem false true) (H' := (World.setBlk w i.blk (.cells (setA arr (i.off + off + len * size) vs.toList) elem fz)).heap) hw hid hi hn1' hCn hG hGi rfl
        (fun b hb' => setBlk_heap_ne hb') (by simp [setBlk_size]) ?_
      · exact this.congr hheap
      · refine ⟨setA arr (i.off + off + len * size) vs.toList, fz, setBlk_heap_self hb, by rw [setA_size, hs], by simp only [i']; omega, fun j a hj ha => ?_, hfro, fun h => by cases h⟩
        have hq := hc' j a hj ha
        simp only [i']
        rw [setA_get _ _ _ _ (by omega)]
        by_cases hjl : j < len * size
        · rw [if_pos hjl] at hq
          rw [if_neg (by omega)]
          obtain ⟨v, hv1, hv2⟩ := hcell (off + j) a (by omega) hq
          exact ⟨v, by rw [← hv1]; congr 1; omega, hv2.mono hle⟩
        · rw [if_neg hjl] at hq
          rw [if_pos (by omega)]
          obtain ⟨v, hv1, hv2⟩ := e2.get hq
          exact ⟨v, by rw [← hv1]; congr 1; omega, hv2.mono hle⟩
  · -- a new block
    have hw1 : WR P base C s.h.get ({ w with drawn := w.drawn + 1 } : World).heap := hw
    obtain ⟨vs, e1, e2⟩ := hread { w with drawn := w.drawn + 1 } hw1
    have hlm : len * size ≤ l - off := by omega
    have hkm : len * size ≤ k * size := Nat.mul_le_mul_right _ hcap.1
    let oldv : List Value := (List.range (len * size)).map fun j => arr[i.off + off + j]?.getD undef
    have hol : oldv.length = len * size := by simp [oldv]
    have hog : ∀ (j : Nat) (v : Value), oldv[j]? = some v → arr[i.off + off + j]? = some v := by
      intro j v hv
      have hj : j < len * size := by
        rcases Nat.lt_or_ge j (len * size) with h | h
        · exact h
        · rw [List.getElem?_eq_none (by omega)] at hv; cases hv
      simp only [oldv, List.getElem?_map, List.getElem?_range hj, Option.map_some, Option.some.injEq] at hv
      have : i.off + off + j < arr.size := by omega
      rw [Array.getElem?_eq_getElem this] at hv ⊢
      simp only [Option.getD_some] at hv
      rw [hv]
    have hld := s_loadCells (P := P) (w := { w with drawn := w.drawn + 1 }) (o := i.off + off) hb oldv hog
    rw [hol] at hld
    obtain ⟨newCap, hnc, hrun⟩ := hr.grow hk hlen hn hlight hld e1 hz
    let i' : RI := ⟨w.heap.size, 0, newCap * size⟩
    have hext : Ext C (fun j => if j = s.n then some i' else C j) s.n (s.n + 1) := fun j hj => by
      have : j ≠ s.n := by rintro rfl; exact hj ⟨Nat.le_refl _, Nat.lt_succ_self _⟩
      simp [this]
    have hle := hext.le hf
    have hvl : vs.toList.length = n * size := by rw [e2.length, hfr]
    have hvs : vs.size = n * size := by simpa using hvl
    let arr' := oldv.toArray ++ vs ++ Builtin.zeroCells z.cells (newCap - (len + n))
    have hsz : arr'.size = newCap * size := by
      simp only [arr', Array.size_append, zeroCells_size, hzs, hvs, List.size_toArray, hol, ← Nat.add_mul]
      congr 1; omega
    have hncm : (len + n) * size ≤ newCap * size := Nat.mul_le_mul_right _ hnc
    refine ⟨_, _, _, hrun, ?_, ?_, hext, rfl, rfl, rfl, by simp, fun b hb => ?_⟩
    · simp only [VR]
      exact ⟨i', newCap, by simp, by simp [i'], hnc, by simp [i']⟩
    · have := WR.alloc (i := i') (o := .cells c' ((len + n) * size) elem false true) (H' := w.heap.push (.cells arr' elem)) (hw.forget id) (by simp [hsid, hn1']) hCn hG rfl
        (fun b hb => by simp [Array.getElem?_push, show b ≠ w.heap.size by omega]) (by simp) ?_
      · exact this.congr hheap
      · refine ⟨arr', (0, 0), by simp [i'], hsz, by simp only [i']; omega, fun j a hj ha => ?_, fun _ o _ h => by simp at h, fun h => by cases h⟩
        have hq := hc' j a hj ha
        simp only [i', Nat.zero_add]
        by_cases hjl : j < len * size
        · rw [if_pos hjl] at hq
          obtain ⟨v, hv1, hv2⟩ := hcell (off + j) a (by omega) hq
          refine ⟨v, ?_, hv2.mono hle⟩
          have e3 : arr'[j]? = oldv[j]? := by
            simp only [arr']
            rw [Array.getElem?_append_left (by simp [hol]; omega), Array.getElem?_append_left (by simp [hol]; omega)]
            simp
          rw [e3]
          simp only [oldv, List.getElem?_map, List.getElem?_range hjl, Option.map_some, show i.off + off + j = i.off + (off + j) by omega, hv1, Option.getD_some]
        · rw [if_neg hjl] at hq
          obtain ⟨v, hv1, hv2⟩ := e2.get hq
          refine ⟨v, ?_, hv2.mono hle⟩
          have e3 : arr'[j]? = vs[j - len * size]? := by
            simp only [arr']
            rw [Array.getElem?_append_left (by simp [hol, hvs]; omega), Array.getElem?_append_right (by simp [hol]; omega)]
            simp [hol]
          rw [e3]
          simpa using hv1
    · have := hw.base
      simp [Array.getElem?_push, show b ≠ w.heap.size by omega]
end
end Go.Mach
end
section
/-! The machine's builtins and conversions are the model's. -/
set_option linter.unusedSimpArgs false
set_option linter.unusedVariables false
namespace Go.Mach
open Go
section
variable {P : Program} {base : Nat} {C : CMap} {s s' : St} {w : World}

theorem lenOfA_all {x : AV} {v : Value} {n : Nat} (hx : VR C x v) (h : lenOfA x = some n) : ∀ w, (Builtin.lenOf v).run P w = .ok n w := fun _ => lenOfA_ok hx h
theorem appendA_ok {argTypes : Array TypeId} {ty : TypeId} {x y r : AV} {vx vy : Value} (hw : WR P base C s.h.get w.heap) (hG : P.globals.size ≤ s.n) (hf : Fresh C s.n s'.n) (hx : VR C x vx) (hy : VR C y vy)
    (h : (appendA P argTypes.toList x y).run s = some (r, s')) : Res P base C s s' w (fun C v => VR C r v) ((Builtin.append_ argTypes ty #[vx, vy]).run P w) := by
  unfold appendA at h
  simp only [run_opt] at h
  obtain ⟨st, hst, h⟩ := h
  have h0 : argTypes[0]? = some st := by simpa using hst
  split at h
  · rename_i elem hu
    simp only [run_chk, run_opt, M.run_bind', Bool.and_eq_true] at h
    obtain ⟨⟨hwh, hlight, hfit⟩, size, hs, n, hn, ⟨hsz, hn1⟩, fresh, s1, hfresh, ⟨hfl, hone⟩, h⟩ := h
    have hwh : wholeT P argTypes[1]? = true := by simpa using hwh
    have hn1 := Nat.le_of_ble_eq_true hn1
    have hfl := Nat.eq_of_beq_eq_true hfl
    obtain ⟨z, hz, hzs⟩ := fitT_ok hfit hs
    have hlen : ∀ w, (Builtin.lenOf vy).run P w = .ok n w := lenOfA_all hy hn
    obtain ⟨fv, hf1, hf2, hsame⟩ := firstA_ok (w := w) hw hy hfresh
    have hw1 : WR P base C s1.h.get w.heap := hw.same hsame
    have hG1 : P.globals.size ≤ s1.n := by rw [hsame.2]; exact hG
    have hF1 : Fresh C s1.n s'.n := by rw [hsame.2]; exact hf
    have hread : ∀ w, WR P base C s1.h.get w.heap → ∃ vs : Array Value, (Builtin.firstCells size n vy).run P w = .ok vs w ∧ VRs C fresh vs.toList := fun w' hw' => by
      have hw'' : WR P base C s.h.get w'.heap := by rw [hsame.1] at hw'; exact hw'
      obtain ⟨a, b, c, _⟩ := firstA_ok (w := w') hw'' hy hfresh
      exact ⟨a, b, c⟩
    refine Res.first hsame ?_
    split at h
    · have := hx.nilSlice_inv; subst this
      have hR := append_R (ty := ty) (w := w) (b := none) (sLen := 0) (sCap := 0) h0 hu hs hwh (hlen w)
      revert hR
      generalize (Builtin.append_ argTypes ty #[.slice none 0 0, vy]).run P w = res
      intro hR
      cases hb : Nat.beq n 0 with
      | true =>
        have := Nat.eq_of_beq_eq_true hb; subst this
        rw [hb] at h
        simp only [cond_true, M.run_pure'] at h
        obtain ⟨rfl, rfl⟩ := h
        refine Res.of (b := .slice none 0 0) ?_ (by simp [VR]) hw1 (Same.refl _)
        rw [hR.fits (Nat.le_refl _)]
        simp [hf1]
      | false =>
        have hn0 : n ≠ 0 := fun e => by subst e; simp at hb
        rw [hb] at h
        simp only [cond_false, M.run_bind', M.run_pure'] at h
        obtain ⟨id, s2, h, rfl, rfl⟩ := h
        obtain ⟨vs, e1, e2⟩ := hread { w with drawn := w.drawn + 1 } hw1
        obtain ⟨newCap, hnc, hrun⟩ := hR.grow (oldv := #[]) (by omega) (by omega) hn1 hlight (by rfl) e1 hz
        rw [hrun]
        have := grown_ok (len := 0) (n := n) (newCap := newCap) (vs := vs.toList) hw1 hG1 hF1 e2 (by simpa using hfl) hzs hnc h (arr := #[] ++ vs ++ Builtin.zeroCells z.cells (newCap - (0 + n))) (by simp)
        simpa using this
    · rename_i id off len cap
      obtain ⟨i, k, hi, rfl, hk⟩ := hx.slice_inv
      have hR := append_R (ty := ty) (w := w) (b := some ⟨i.blk, i.off + off, none⟩) (sLen := len) (sCap := k) h0 hu hs hwh (hlen w)
      revert hR
      generalize (Builtin.append_ argTypes ty #[.slice (some ⟨i.blk, i.off + off, none⟩) len k, vy]).run P w = res
      intro hR
      simp only [run_chk] at h
      obtain ⟨hlen1, h⟩ := h
      have hlen1 := Nat.le_of_ble_eq_true hlen1
      split at h
      · rename_i c
        simp only [capR] at hk
        subst hk
        simp only [run_chk] at h
        obtain ⟨hk1, h⟩ := h
        cases hb : Nat.ble (len + n) k with
        | true =>
          rw [hb] at h
          simp only [cond_true, M.run_bind', M.run_pure'] at h
          obtain ⟨u, s2, h, rfl, rfl⟩ := h
          obtain ⟨j, hj, hr⟩ := storeCellsA_ok hw1 hf2 h
          rw [hi] at hj; injection hj with hj; subst hj
          have hk2 := Nat.le_of_ble_eq_true hb
          have e : res = ((storeCells ⟨i.blk, i.off + (off + len * size), none⟩ fv.toList).run P w).andThen fun _ w => .ok (.slice (some ⟨i.blk, i.off + off, none⟩) (len + n) k) w := by
            rw [hR.fits hk2]
            simp only [hf1, Result.andThen_ok, add_lit, Nat.add_assoc]
          rw [e]
          refine Res.bind hr hF1 (M.le _ h) (Nat.le_refl _) fun C1 b w1 _ hw2 hle hfr => Res.of rfl ?_ hw2 (Same.refl _)
          simp only [VR]
          exact ⟨i, k, hle _ _ hi, rfl, rfl⟩
        | false =>
          have hk2 : ¬ (len + n ≤ k) := fun hle => by rw [Nat.ble_eq_true_of_le hle] at hb; cases hb
          rw [hb] at h
          simp only [cond_false, M.run_bind', M.run_pure'] at h
          obtain ⟨old, s2, hold, nid, s3, hnew, rfl, rfl⟩ := h
          have hwd : WR P base C s1.h.get ({ w with drawn := w.drawn + 1 } : World).heap := hw1
          obtain ⟨j, ov, hj, e1, e2, e3, hsame2⟩ := readA_ok (w := { w with drawn := w.drawn + 1 }) hwd hold
          rw [hi] at hj; injection hj with hj; subst hj
          obtain ⟨vs, e4, e5⟩ := hread { w with drawn := w.drawn + 1 } hwd
          obtain ⟨newCap, hnc, hrun⟩ := hR.grow (oldv := ov.toArray) hk2 hlen1 hn1 hlight e2 e4 hz
          rw [hrun]
          refine Res.first hsame2 ?_
          exact grown_ok (len := len) (n := n) (newCap := newCap) (vs := ov ++ vs.toList) (hw1.same hsame2) (by rw [hsame2.2]; exact hG1) (by rw [hsame2.2]; exact hF1) (e3.append e5)
            (by rw [List.length_append, hfl, ← e3.length, e1, Nat.add_mul]) hzs hnc hnew (Array.ext' (by simp))
      · rename_i es
        simp only [capR] at hk
        cases hb : Nat.beq n 0 with
        | true =>
          have := Nat.eq_of_beq_eq_true hb; subst this
          rw [hb] at h
          simp only [cond_true, M.run_pure'] at h
          obtain ⟨rfl, rfl⟩ := h
          have hvl : fv.toList = [] := by
            have := hf2.length
            rw [hfl, Nat.zero_mul] at this
            exact List.eq_nil_of_length_eq_zero this
          refine Res.of (b := .slice (some ⟨i.blk, i.off + off, none⟩) len k) ?_ (by simp only [VR]; exact ⟨i, k, hi, rfl, hk⟩) hw1 (Same.refl _)
          rw [hR.fits (by omega)]
          simp [hf1, hvl, storeCells]
        | false =>
          have hn0 : 0 < n := Nat.pos_of_ne_zero fun e => by subst e; simp at hb
          rw [hb] at h
          simp only [cond_false] at h
          obtain ⟨c, l, el, ro, g, s2, hid, hsame2, h⟩ := run_rdCells h
          simp only [run_chk, M.run_bind', Bool.and_eq_true, Bool.not_eq_true'] at h
          obtain ⟨⟨hg, hro, hel, hes, hoff⟩, u, s3, hput, h⟩ := h
          subst hg
          have hel := Nat.eq_of_beq_eq_true hel
          subst hel
          have hes := Nat.eq_of_beq_eq_true hes
          subst hes
          have hoff := Nat.le_of_ble_eq_true hoff
          rw [run_put] at hput
          obtain ⟨_, rfl⟩ := hput
          have hget : ∀ f w, (⟨s2.h.set id none, s2.n, f, w⟩ : St).h.get = fun j => if j = id then none else s2.h.get j := fun f w => by
            funext j; simp only [T.get_set]
          have hmul : (len + n) * es = len * es + n * es := Nat.add_mul ..
          have hw2 : WR P base C s2.h.get w.heap := hw1.same hsame2
          have hid2 : s2.h.get id = some (.cells c l el ro true) := by rw [hsame2.1]; exact hid
          have hread2 : ∀ w, WR P base C s2.h.get w.heap → ∃ vs : Array Value, (Builtin.firstCells es n vy).run P w = .ok vs w ∧ VRs C fresh vs.toList := fun w' hw' => hread w' (by rw [hsame2.1] at hw'; exact hw')
          refine Res.first hsame2 ?_
          cases h0' : Nat.beq off 0 with
          | true =>
            have := Nat.eq_of_beq_eq_true h0'; subst this
            simp only [Nat.beq_refl, cond_true, M.run_bind', M.run_pure'] at h
            obtain ⟨nid, s3, hnew, rfl, rfl⟩ := h
            rw [← hmul] at hnew
            refine append_more (c := c) (l := l) (id := id) (ro := ro) hw2 (by rw [hsame2.2]; exact hG1) (by rw [hsame2.2]; exact hF1) hid2 hi hro hlen1 hn0 hn1 hlight hz hzs hk hoff hfl hone hread2 ?_ (hget _ _) (by rfl) hnew hR
            · intro j a hj ha
              rw [putFrom_get] at ha
              by_cases hjl : j < len * es
              · rw [if_neg (by omega)] at ha
                rw [if_pos hjl, Nat.zero_add]; exact ha
              · rw [if_pos (by omega)] at ha
                rw [if_neg hjl]; exact ha
          | false =>
            rw [h0'] at h
            simp only [cond_false, run_opt, M.run_bind', M.run_pure', newCells] at h
            obtain ⟨old, hold, nid, s3, hnew, rfl, rfl⟩ := h
            obtain ⟨g1, g2⟩ := listFrom_get hold
            have hlo : (old ++ fresh).length = (len + n) * es := by rw [List.length_append, g1, hfl, hmul]
            rw [hlo] at hnew
            refine append_more (c := c) (l := l) (id := id) (ro := ro) hw2 (by rw [hsame2.2]; exact hG1) (by rw [hsame2.2]; exact hF1) hid2 hi hro hlen1 hn0 hn1 hlight hz hzs hk hoff hfl hone hread2 ?_ (hget _ _) (by rfl) hnew hR
            · intro j a hj ha
              rw [putFrom_get, hlo, if_pos (by omega), Nat.sub_zero] at ha
              by_cases hjl : j < len * es
              · rw [if_pos hjl, g2 j hjl]
                rwa [List.getElem?_append_left (by omega)] at ha
              · rw [if_neg hjl]
                rwa [List.getElem?_append_right (by omega), g1] at ha
    · simp at h
  · simp at h
end
end Go.Mach
end
section
/-! The machine's builtins, conversions and maps are the model's. -/
set_option linter.unusedSimpArgs false
set_option linter.unusedVariables false
namespace Go.Mach
open Go
section
variable {P : Program} {base : Nat} {C : CMap} {s s' : St} {w : World}

theorem convertA_ok {src dst : TypeId} {x r : AV} {vx : Value} (hx : VR C x vx) (h : convertA P src dst x = some r) : ∃ v, (convert src dst vx).run P w = .ok v w ∧ VR C r v := by
  unfold convertA at h
  split at h
  · rename_i d k k' n hu1 hu2
    injection h with h; subst h
    have := hx.int_inv; subst this
    refine ⟨.int k (k.wrap n), ?_, VR.mk_int _ _⟩
    simp only [convert, Sem.run_bind, s_underlying hu1, s_underlying hu2, Result.andThen_ok]
    cases d <;> rfl
  · rename_i d st hu1 hu2
    injection h with h; subst h
    obtain ⟨b, rfl, rfl⟩ := hx.str_inv
    refine ⟨.string b, ?_, VR.mk_str _⟩
    simp only [convert, Sem.run_bind, s_underlying hu1, s_underlying hu2, Result.andThen_ok]
    cases d <;> rfl
  · cases h
theorem sizeT_info {t : TypeId} {n : Nat} (h : sizeT P t = some n) : ∃ j, P.info? t = some j ∧ j.size = n := by
  unfold sizeT at h
  split at h
  · rename_i j hj
    injection h with h
    exact ⟨j, hj, h⟩
  · cases h
theorem isByteT_ok {t : TypeId} (h : isByteT P t = true) : P.underlying t = some (.int .u8) := by
  unfold isByteT at h
  split at h
  · assumption
  · cases h
theorem push_bytes : ∀ (ns : List Nat) (s : ByteArray), (∀ b ∈ ns, b < 256) → bytesOf ((ns.map fun b => (Int.ofNat b)).foldl (fun r n => r.push (UInt8.ofNat n.toNat)) s) = bytesOf s ++ ns
  | [], s, _ => by simp
  | b :: ns, s, h => by
    simp only [List.map_cons, List.foldl_cons]
    rw [push_bytes ns _ fun x hx => h x (by simp [hx])]
    have hb : b < 256 := h b (by simp)
    have e : bytesOf (s.push (UInt8.ofNat (Int.ofNat b).toNat)) = bytesOf s ++ [b] := by
      simp only [bytesOf, ByteArray.push, Array.toList_push, List.map_append, List.map_cons, List.map_nil]
      congr 2
      simp only [Int.ofNat_eq_natCast, Int.toNat_natCast, UInt8.toNat_ofNat']
      omega
    rw [e, List.append_assoc]; rfl
theorem bytesA_ok : ∀ {l : List AV} {s : List Nat} {vs : List Value}, bytesA l = some s → VRs C l vs → vs = (s.map fun b => Value.int .u8 (Int.ofNat b)) ∧ ∀ b ∈ s, b < 256
  | [], s, vs, h, hv => by
    simp only [bytesA, Option.some.injEq] at h
    subst h
    simp only [VRs] at hv
    subst hv
    simp
  | x :: l, s, vs, h, hv => by
    unfold bytesA at h
    split at h
    · rename_i e; cases e
    · rename_i b l' e
      injection e with e1 e2
      subst e1 e2
      cases hb : Nat.blt b 256 with
      | false => rw [hb] at h; cases h
      | true =>
        rw [hb] at h
        simp only [cond_true] at h
        split at h
        · rename_i r hr
          injection h with h; subst h
          simp only [VRs] at hv
          obtain ⟨v, vs', rfl, h1, h2⟩ := hv
          simp only [VR] at h1
          subst h1
          obtain ⟨rfl, h3⟩ := bytesA_ok hr h2
          have hlt : b < 256 := Nat.le_of_ble_eq_true hb
          refine ⟨rfl, fun x hx => ?_⟩
          rcases List.mem_cons.1 hx with rfl | hx
          · exact hlt
          · exact h3 x hx
        · cases h
    · cases h
theorem strCells_all (b : ByteArray) : VRs C ((bytesOf b).map fun c => AV.int .u8 (Int.ofNat c)) (b.data.map fun c => Value.int .u8 c.toNat).toList := by
  refine VRs.iff.2 ⟨by simp [bytesOf], fun k a v ha hv => ?_⟩
  simp only [bytesOf, Array.toList_map, List.getElem?_map] at ha hv
  cases hb : b.data.toList[k]? with
  | none => rw [hb] at ha; cases ha
  | some c =>
    rw [hb] at ha hv
    simp only [Option.map_some, Option.some.injEq] at ha hv
    subst ha hv
    simp only [VR]
    rfl
theorem grownCap_ge (w : World) (n : Nat) (e : TypeId) : n ≤ grownCap w n 0 e := by
  unfold grownCap
  simp only [Question.cut]
  omega
/-- The bytes of a string, in a row of their own. -/
theorem strBytes_ok {src dst e : TypeId} {b : ByteArray} {id : Nat} (hw : WR P base C s.h.get w.heap) (hG : P.globals.size ≤ s.n) (hf : Fresh C s.n s'.n)
    (hs : P.underlying src = some .string) (hd : P.underlying dst = some (.slice e)) (he : P.underlying e = some (.int .u8))
    (h : (newCells e ((bytesOf b).map fun c => AV.int .u8 (Int.ofNat c)) true).run s = some (id, s')) :
    Res P base C s s' w (fun C v => VR C (.slice id 0 (bytesOf b).length (.more 1)) v) ((convert src dst (.string b)).run P w) := by
  rw [run_bytes_of_string w src dst e b hs hd he]
  have hsz := grownCap_ge w b.size e
  have hl : (b.data.map fun c => Value.int .u8 c.toNat).toList.length = b.size := by simp
  have hrl : (Array.replicate (grownCap w b.size 0 e - b.size) (Value.int .u8 0)).toList.length = grownCap w b.size 0 e - b.size := by simp
  have hrow : (bytesRow b (grownCap w b.size 0 e)).size = grownCap w b.size 0 e := by
    simp [bytesRow]
    show b.size + _ = _
    omega
  obtain ⟨h1, h2, C', i, h3, h4, h5, h6, h7, h8, h9, h10⟩ := newCells_fz_ok (fz := ((bytesRow b (grownCap w b.size 0 e)).size, (bytesRow b (grownCap w b.size 0 e)).size + 1))
    (rest := (Array.replicate (grownCap w b.size 0 e - b.size) (Value.int .u8 0)).toList) (fun o ho h => by rw [hl, hrl] at ho; rw [hrow] at h; omega) hw hG hf (strCells_all b) h (fun h => by cases h)
  have e1 : ((b.data.map fun c => Value.int .u8 c.toNat).toList ++ (Array.replicate (grownCap w b.size 0 e - b.size) (Value.int .u8 0)).toList).toArray = bytesRow b (grownCap w b.size 0 e) := by
    unfold bytesRow
    apply Array.ext'; simp
  rw [e1] at h7 h10
  refine ⟨C', _, _, rfl, ?_, h7, h8, h10.os, h10.tape, h10.output, h10.size, h10.below⟩
  simp only [VR]
  refine ⟨i, grownCap w b.size 0 e, h3, by rw [h4, h5, bytesOf_length], ?_⟩
  simp only [capR]
  rw [h6, h5, hl, hrl, bytesOf_length]
  omega
theorem convA_ok {src dst : TypeId} {x r : AV} {vx : Value} (hw : WR P base C s.h.get w.heap) (hG : P.globals.size ≤ s.n) (hf : Fresh C s.n s'.n) (hx : VR C x vx) (h : (convA P src dst x).run s = some (r, s')) :
    Res P base C s s' w (fun C v => VR C r v) ((convert src dst vx).run P w) := by
  unfold convA at h
  split at h
  · rename_i t id off hu1 hu2
    obtain ⟨c, len, elem, ro, g, s1, hid, hsame, h⟩ := run_rdCells h
    simp only [run_chk] at h
    obtain ⟨hlt, h⟩ := h
    split at h
    · rename_i n hn
      simp only [M.run_pure'] at h
      obtain ⟨rfl, rfl⟩ := h
      obtain ⟨i, arr, fz, hi, hb, hs, hl, _⟩ := hw.cellsOf hid
      obtain ⟨i', hi', rfl⟩ := hx.ptr_inv
      rw [hi] at hi'; injection hi' with hi'; subst hi'
      obtain ⟨j, hj, hjs⟩ := sizeT_info hn
      have hlt' : off < len := Nat.le_of_ble_eq_true hlt
      refine Res.of (Lib.run_to_unsafe w _ hu1 hu2 hj (by omega) (e := elem) (cells := arr.size) (by simp [World.shape?, hb]) (by simp only; omega)) ?_ hw hsame
      simp only [VR]
      exact ⟨i, hi, rfl⟩
    · simp at h
  · rename_i u id off hu1 hu2
    obtain ⟨c, len, elem, ro, g, s1, hid, hsame, h⟩ := run_rdCells h
    simp only [run_chk, M.run_pure', Bool.and_eq_true, Bool.not_eq_true'] at h
    obtain ⟨⟨hg, hu, hlies⟩, rfl, rfl⟩ := h
    obtain ⟨i, arr, fz, hi, hb, hs, hl, _, _, hlen⟩ := hw.cellsOf hid
    obtain ⟨h0, hr⟩ := hlen hg
    obtain ⟨i', hi', rfl⟩ := hx.ptr_inv
    rw [hi] at hi'; injection hi' with hi'; subst hi'
    obtain ⟨n, hn⟩ := Option.isSome_iff_exists.1 hu
    obtain ⟨j, hj, _⟩ := sizeT_info hn
    refine Res.of (Lib.run_from_unsafe w _ hu1 hu2 hj (e := elem) (cells := arr.size) (by simp [World.shape?, hb]) (by simp only; rw [hs, hr, h0, Nat.zero_add]; exact hlies)) ?_ hw hsame
    simp only [VR]
    exact ⟨i, hi, rfl⟩
  · rename_i e hu1 hu2
    simp only [run_chk, M.run_pure'] at h
    obtain ⟨hb, rfl, rfl⟩ := h
    have := hx.nilSlice_inv; subst this
    refine Res.of (b := .string .empty) ?_ ?_ hw (Same.refl _)
    · rw [run_convert_bytes_string w src dst e none 0 0 hu1 (isByteT_ok hb) hu2]
      simp [Conv.bytesToString]
    · simp only [VR]; exact ⟨_, rfl, rfl⟩
  · rename_i e id off n cap hu1 hu2
    simp only [run_chk, M.run_bind', run_opt, M.run_pure'] at h
    obtain ⟨hb, l, s1, hr, bs, hbs, rfl, rfl⟩ := h
    obtain ⟨i, vs, hi, hvl, hload, hvs, hsame⟩ := readA_ok hw hr
    obtain ⟨i', k, hi', rfl, _⟩ := hx.slice_inv
    rw [hi] at hi'; injection hi' with hi'; subst hi'
    obtain ⟨rfl, hlt⟩ := bytesA_ok hbs hvs
    refine Res.of (b := .string ((bs.map fun b => (Int.ofNat b)).foldl (fun r n => r.push (UInt8.ofNat n.toNat)) ByteArray.empty)) ?_ ?_ hw hsame
    · rw [run_convert_bytes_string w src dst e _ _ _ hu1 (isByteT_ok hb) hu2]
      refine run_bytesToString w _ _ _ _ ?_
      rw [hload]
      congr 2
      simp [List.map_map, Function.comp_def]
    · simp only [VR]
      refine ⟨_, rfl, ?_⟩
      rw [push_bytes _ _ hlt]
      rfl
  · rename_i e bs hu1 hu2
    simp only [run_chk, M.run_bind', M.run_pure'] at h
    obtain ⟨hb, id, s1, h, rfl, rfl⟩ := h
    obtain ⟨b, rfl, rfl⟩ := hx.str_inv
    exact strBytes_ok hw hG hf hu1 hu2 (isByteT_ok hb) h
  · simp only [run_opt, M.run_pure'] at h
    obtain ⟨v, hv, rfl, rfl⟩ := h
    exact Res.value (convertA_ok hx hv) hw (Same.refl _)
theorem copyA_ok {argTypes : Array TypeId} {ty : TypeId} {d x r : AV} {vd vx : Value} (hw : WR P base C s.h.get w.heap) (hf : Fresh C s.n s'.n) (hd : VR C d vd) (hx : VR C x vx)
    (h : (copyA P argTypes.toList d x).run s = some (r, s')) : Res P base C s s' w (fun C v => VR C r v) ((Builtin.copy_ argTypes ty #[vd, vx]).run P w) := by
  unfold copyA at h
  simp only [run_opt] at h
  obtain ⟨dt, hdt, h⟩ := h
  have h0 : argTypes[0]? = some dt := by simpa using hdt
  split at h
  · rename_i elem hu
    simp only [run_opt, M.run_bind'] at h
    obtain ⟨size, hs, a, ha, b, hb, cells, s1, hc, h⟩ := h
    have hla : ∀ w, (Builtin.lenOf vx).run P w = .ok a w := lenOfA_all hx ha
    obtain ⟨fv, hf1, hf2, hsame⟩ := firstA_ok (w := w) hw hx hc
    have hw1 : WR P base C s1.h.get w.heap := hw.same hsame
    have hF1 : Fresh C s1.n s'.n := by rw [hsame.2]; exact hf
    refine Res.first hsame ?_
    split at h
    · have := hd.nilSlice_inv; subst this
      injection hb with hb; subst hb
      simp only [M.run_pure'] at h
      obtain ⟨rfl, rfl⟩ := h
      refine Res.of (b := goInt (Nat.min a 0)) ?_ (by simp [VR, goInt]) hw1 (Same.refl _)
      simp only [Builtin.copy_, h0, List.getElem?_toArray, List.getElem?_cons_zero, List.getElem?_cons_succ, Sem.run_bind, s_underlying hu, Result.andThen_ok, hla, s_sizeOf hs, hf1, Sem.run_pure]
    · rename_i id off len cap
      obtain ⟨i, k, hi, rfl, hk⟩ := hd.slice_inv
      injection hb with hb; subst hb
      simp only [M.run_bind', M.run_pure'] at h
      obtain ⟨u, s2, hst, rfl, rfl⟩ := h
      obtain ⟨j, hj, hr⟩ := storeCellsA_ok hw1 hf2 hst
      rw [hi] at hj; injection hj with hj; subst hj
      have e : (Builtin.copy_ argTypes ty #[.slice (some ⟨i.blk, i.off + off, none⟩) len k, vx]).run P w = ((storeCells ⟨i.blk, i.off + off, none⟩ fv.toList).run P w).andThen fun _ w => .ok (goInt (Nat.min a len)) w := by
        simp only [Builtin.copy_, h0, List.getElem?_toArray, List.getElem?_cons_zero, List.getElem?_cons_succ, Sem.run_bind, s_underlying hu, Result.andThen_ok, hla, s_sizeOf hs, hf1, Sem.run_pure]
      rw [e]
      refine Res.bind hr hF1 (M.le _ hst) (Nat.le_refl _) fun C1 b w1 _ hw2 hle hfr => Res.of rfl (by simp [VR, goInt]) hw2 (Same.refl _)
    · simp at h
  · simp at h

/-! ### maps -/
theorem run_getObj' {b : Nat} {o : Obj} (h : w.heap[b]? = some o) (hc : ∀ c e f, o ≠ .cells c e f) : (getObj b).run P w = .ok o w := by
  simp only [getObj, Sem.run, h]
  try (cases o <;> first | rfl | exact absurd rfl (hc _ _ _))
theorem run_setObj' {b : Nat} {o o' : Obj} (h : w.heap[b]? = some o) (hc : ∀ c e f, o ≠ .cells c e f) : (setObj b o').run P w = .ok () (World.setBlk w b o') := by
  simp only [setObj, Sem.run, h, World.setBlk]
  try (cases o <;> first | rfl | exact absurd rfl (hc _ _ _))
theorem WR.mapOf (hw : WR P base C s.h.get w.heap) {id : Nat} {es : List (AV × AV × Nat)} {clock : Nat} (h : s.h.get id = some (.map es clock)) :
    ∃ i l, C id = some i ∧ w.heap[i.blk]? = some (.map l clock) ∧ ERs C es l.toList := by
  obtain ⟨i, hi, l, h1, h2⟩ := hw.obj id _ h
  exact ⟨i, l, hi, h1, h2⟩
/-- Another map in the place of one. -/
theorem WR.setMap (hw : WR P base C s.h.get w.heap) {id : Nat} {es es' : List (AV × AV × Nat)} {clock clock' : Nat} {i : RI} {l l' : Array MapEntry} (h : s.h.get id = some (.map es clock)) (hi : C id = some i) (hb : w.heap[i.blk]? = some (.map l clock))
    (he : ERs C es' l'.toList) {u : Unit} (hp : (put id (some (.map es' clock'))).run s = some (u, s')) :
    Res P base C s s' w (fun _ _ => True) ((setObj i.blk (.map l' clock')).run P w) := by
  rw [run_put] at hp
  obtain ⟨_, rfl⟩ := hp
  have hG : P.globals.size ≤ id := by
    rcases Nat.lt_or_ge id P.globals.size with hlt | hge
    · have := hw.low id _ h hlt; simp [AObj.still] at this
    · exact hge
  refine ⟨C, (), World.setBlk w i.blk (.map l' clock'), run_setObj' hb (by simp), trivial, ?_, fun _ _ => rfl, setBlk_kept (hw.high id i hG hi)⟩
  have := WR.update (i := i) (o' := .map es' clock') (H' := (World.setBlk w i.blk (.map l' clock')).heap) hw h hi rfl (fun b hb' => setBlk_heap_ne hb') (by simp [setBlk_size]) ⟨l', setBlk_heap_self hb, he⟩
  refine this.congr fun j => ?_
  simp only [T.get_set]
theorem keyEqT_scalar {k e : AV} {t : TypeId} (hok : keyOk0 P t k = true) : keyEqT P t k e = keyEq k e := by
  unfold keyOk0 at hok
  split at hok <;> first | (cases hok; done) | (unfold keyEqT; rfl)
theorem keyEq_ok {k e : AV} {vk ve : Value} {b : Bool} {t : TypeId} {d : TypeDesc} (hk : VR C k vk) (he : VR C e ve) (h : keyEqT P t k e = some b) (hu : P.underlying t = some d) (hok : keyOk0 P t k = true) :
    Instr.sameNow d vk ve = some b := by
  rw [keyEqT_scalar hok] at h
  unfold keyOk0 at hok
  rw [hu] at hok
  unfold keyEq at h
  split at h
  · injection h with h; subst h
    have := hk.bool_inv; subst this
    have := he.bool_inv; subst this
    split at hok <;> first | (cases hok; done) | skip
    · rename_i e1 e2; injection e1 with e1; subst e1; rfl
    · rename_i e2; cases e2
    · rename_i e2; cases e2
  · have := hk.int_inv; subst this
    have := he.int_inv; subst this
    rename_i k1 a k2 b'
    cases hb : (k1 == k2) with
    | false => rw [hb] at h; cases h
    | true =>
      rw [hb] at h
      injection h with h; subst h
      have := eq_of_beq hb; subst this
      split at hok <;> first | (cases hok; done) | skip
      · rename_i e2; cases e2
      · rename_i e1 e2; injection e1 with e1; subst e1; simp [Instr.sameNow]
      · rename_i e2; cases e2
  · injection h with h; subst h
    obtain ⟨p, rfl, rfl⟩ := hk.str_inv
    obtain ⟨q, rfl, rfl⟩ := he.str_inv
    split at hok <;> first | (cases hok; done) | skip
    · rename_i e2; cases e2
    · rename_i e2; cases e2
    · rename_i e1 e2; injection e1 with e1; subst e1; simp [Instr.sameNow, beq_strings]
  · cases h
/-- What is found, in the model. -/
def FoR (C : CMap) : Option (Nat × AV) → Option (Nat × Value) → Prop
  | none, o => o = none
  | some (i, a), o => ∃ v, o = some (i, v) ∧ VR C a v
theorem findA_ok {k : AV} {vk : Value} {t : TypeId} {d : TypeDesc} (hk : VR C k vk) (hu : P.underlying t = some d) (hok : keyOk0 P t k = true) :
    ∀ {es : List (AV × AV × Nat)} {l : List MapEntry} {i : Nat} {r : Option (Nat × AV)}, ERs C es l → findA P t k es i = some r → ∃ o, Instr.findNow d vk l i = some o ∧ FoR C r o := by
  intro es
  induction es with
  | nil =>
    intro l i r hr h
    simp only [ERs] at hr; subst hr
    simp only [findA, Option.some.injEq] at h
    subst h
    exact ⟨none, rfl, rfl⟩
  | cons e es ih =>
    intro l i r hr h
    obtain ⟨x, xs, rfl, h1, h2⟩ := hr
    obtain ⟨ek, ev, eb⟩ := e
    simp only [findA] at h
    split at h
    · rename_i hq
      injection h with h; subst h
      refine ⟨some (i, x.val), ?_, ⟨x.val, rfl, h1.2.1⟩⟩
      simp only [Instr.findNow, keyEq_ok hk h1.1 hq hu hok]
    · rename_i hq
      obtain ⟨o, e1, e2⟩ := ih h2 h
      refine ⟨o, ?_, e2⟩
      simp only [Instr.findNow, keyEq_ok hk h1.1 hq hu hok, e1]
    · cases h
theorem checkKey0_ok {empty : Bool} {t : TypeId} {k : AV} {vk : Value} (hk : VR C k vk) (hok : keyOk0 P t k = true) (n : Nat) : (Instr.checkKey empty (n + 1) t vk).run P w = .ok () w := by
  unfold keyOk0 at hok
  split at hok <;> first | (cases hok; done) | skip
  · rename_i hu
    simp only [Instr.checkKey, Sem.run_bind, s_underlying hu, Result.andThen_ok]
    have := hk.bool_inv; subst this; rfl
  · rename_i hu
    simp only [Instr.checkKey, Sem.run_bind, s_underlying hu, Result.andThen_ok]
    have := hk.int_inv; subst this; rfl
  · rename_i hu
    simp only [Instr.checkKey, Sem.run_bind, s_underlying hu, Result.andThen_ok]
    obtain ⟨p, rfl, _⟩ := hk.str_inv; rfl
/-- A key is one of these two. -/
theorem keyOk_cases {t : TypeId} {k : AV} (hok : keyOk P t k = true) : keyOk0 P t k = true ∨ ∃ fields l, P.underlying t = some (.struct fields) ∧ k = .agg l ∧
    ∀ f ∈ fields.toList, f.name ≠ "_" ∧ ∃ x, partA P f.type l f.offset = some x ∧ keyOk0 P f.type x = true := by
  unfold keyOk at hok
  rw [Bool.or_eq_true] at hok
  rcases hok with h | h
  · exact .inl h
  · right
    split at h
    · rename_i fields l hu
      refine ⟨fields, l, hu, rfl, fun f hf => ?_⟩
      have := List.all_eq_true.1 h f hf
      simp only [Bool.and_eq_true, Bool.not_eq_true', beq_eq_false_iff_ne, ne_eq] at this
      refine ⟨this.1, ?_⟩
      have h2 := this.2
      split at h2
      · rename_i x hx; exact ⟨x, hx, h2⟩
      · cases h2
    · cases h
theorem checkKey_ok {empty : Bool} {t : TypeId} {k : AV} {vk : Value} (hk : VR C k vk) (hok : keyOk P t k = true) (n : Nat) : (Instr.checkKey empty (n + 2) t vk).run P w = .ok () w := by
  rcases keyOk_cases hok with h | ⟨fields, l, hu, rfl, hf⟩
  · exact checkKey0_ok hk h (n + 1)
  · simp only [VR] at hk
    obtain ⟨arr, rfl, hl⟩ := hk
    rw [Instr.checkKey]
    simp only [Sem.run_bind, s_underlying hu, Result.andThen_ok]
    rw [← Array.forIn_toList]
    generalize fields.toList = L at hf
    induction L with
    | nil => simp
    | cons f L ih =>
      obtain ⟨hn, x, hx, hx0⟩ := hf f (by simp)
      obtain ⟨v, hv, hvr⟩ := partA_ok (w := w) hl hx
      have p2 := checkKey0_ok (w := w) (empty := empty) hvr hx0 n
      simp only [List.forIn_cons, Sem.run_bind, hn, ne_eq, not_false_eq_true, if_true, Result.andThen_ok, hv, p2, Sem.run_pure]
      exact ih (fun y hy => hf y (by simp [hy]))
theorem keyOk0_desc {t : TypeId} {k : AV} (hok : keyOk0 P t k = true) : ∃ d, P.underlying t = some d := by
  unfold keyOk0 at hok
  split at hok
  · rename_i hu; exact ⟨_, hu⟩
  · rename_i hu; exact ⟨_, hu⟩
  · rename_i hu; exact ⟨_, hu⟩
  · cases hok
theorem keyEqT_asks {a : List AV} {e : AV} {vk ve : Value} {b : Bool} {t : TypeId} (hk : VR C (.agg a) vk) (he : VR C e ve) (h : keyEqT P t (.agg a) e = some b) : (Op.equal t vk ve).run P w = .ok b w := by
  unfold keyEqT at h
  split at h
  · rename_i a' b' e1
    injection e1 with e1; subst e1
    split at h
    · rename_i hq
      cases hs : sameL a b' with
      | false => rw [hs] at h; cases h
      | true =>
        rw [hs] at h
        injection h with h; subst h
        exact eqA_ok (C := C) (w := w) 40 Op.maxDepth t _ _ vk ve _ (by decide) hk he hq
    · rename_i hq
      injection h with h; subst h
      exact eqA_ok (C := C) (w := w) 40 Op.maxDepth t _ _ vk ve _ (by decide) hk he hq
    · cases h
  · simp [keyEq] at h
theorem findAsk_ok {a : List AV} {vk : Value} {t : TypeId} (hk : VR C (.agg a) vk) :
    ∀ {es : List (AV × AV × Nat)} {l : List MapEntry} {i : Nat} {r : Option (Nat × AV)}, ERs C es l → findA P t (.agg a) es i = some r → ∃ o, (Instr.findAsking t vk l i).run P w = .ok o w ∧ FoR C r o := by
  intro es
  induction es with
  | nil =>
    intro l i r hr h
    simp only [ERs] at hr; subst hr
    simp only [findA, Option.some.injEq] at h
    subst h
    exact ⟨none, rfl, rfl⟩
  | cons e es ih =>
    intro l i r hr h
    obtain ⟨x, xs, rfl, h1, h2⟩ := hr
    obtain ⟨ek, ev, eb⟩ := e
    simp only [findA] at h
    split at h
    · rename_i hq
      injection h with h; subst h
      refine ⟨some (i, x.val), ?_, ⟨x.val, rfl, h1.2.1⟩⟩
      simp [Instr.findAsking, keyEqT_asks (w := w) hk h1.1 hq]
    · rename_i hq
      obtain ⟨o, e1, e2⟩ := ih h2 h
      refine ⟨o, ?_, e2⟩
      simp [Instr.findAsking, keyEqT_asks (w := w) hk h1.1 hq, e1]
    · cases h
theorem findKey_ok {k : AV} {vk : Value} {t : TypeId} {es : List (AV × AV × Nat)} {l : List MapEntry} {r : Option (Nat × AV)} (hk : VR C k vk) (hok : keyOk P t k = true) (hr : ERs C es l) (h : findA P t k es 0 = some r) :
    ∃ o, (Instr.findKey t vk l).run P w = .ok o w ∧ FoR C r o := by
  rcases keyOk_cases hok with h0 | ⟨fields, a, hu, rfl, hf⟩
  · obtain ⟨d, hu⟩ := keyOk0_desc h0
    obtain ⟨o, e1, e2⟩ := findA_ok hk hu h0 hr h
    exact ⟨o, by simp only [Instr.findKey, Sem.run_bind, s_underlying hu, Result.andThen_ok, e1, Sem.run_pure], e2⟩
  · cases l with
    | nil =>
      cases es with
      | cons e es => obtain ⟨x, xs, e1, _⟩ := hr; cases e1
      | nil =>
        simp only [findA, Option.some.injEq] at h
        subst h
        exact ⟨none, by simp only [Instr.findKey, Sem.run_bind, s_underlying hu, Result.andThen_ok, Instr.findNow, Sem.run_pure], rfl⟩
    | cons x xs =>
      obtain ⟨o, e1, e2⟩ := findAsk_ok (w := w) hk hr h
      exact ⟨o, by simp only [Instr.findKey, Sem.run_bind, s_underlying hu, Result.andThen_ok, Instr.findNow, Instr.sameNow, e1], e2⟩
theorem found_ok {et : TypeId} {ok : Bool} {r : Option (Nat × AV)} {o : Option (Nat × Value)} {a : AV} (hr : FoR C r o) (h : found P et ok r = some a) :
    (∃ i v, o = some (i, v) ∧ VR C a (if ok then .tuple #[v, .bool true] else v)) ∨ (o = none ∧ ∃ z, (zeroValue et).run P w = .ok z w ∧ VR C a (if ok then .tuple #[z, .bool false] else z)) := by
  cases r with
  | some p =>
    obtain ⟨i, x⟩ := p
    obtain ⟨v, rfl, hv⟩ := hr
    simp only [found, Option.some.injEq] at h
    subst h
    refine .inl ⟨i, v, rfl, ?_⟩
    cases ok
    · simpa using hv
    · simp only [cond_true, if_true, VR]
      exact ⟨_, rfl, by simp only [VRs.cons]; exact ⟨hv, VR.mk_bool _, VRs.nil⟩⟩
  | none =>
    simp only [FoR] at hr
    subst hr
    simp only [found] at h
    split at h
    · rename_i z hz
      obtain ⟨x, ez, rfl, _⟩ := s_zeroValue (w := w) hz
      injection h with h; subst h
      refine .inr ⟨rfl, x, ez, ?_⟩
      cases ok
      · simpa using VR.ofV C x
      · simp only [cond_true, if_true, VR]
        exact ⟨_, rfl, by simp only [VRs.cons]; exact ⟨VR.ofV C x, VR.mk_bool _, VRs.nil⟩⟩
    · cases h
theorem lookupA_ok {t : TypeId} {x k r : AV} {vx vk : Value} {ok : Bool} (hw : WR P base C s.h.get w.heap) (hx : VR C x vx) (hk : VR C k vk) (h : (lookupA P t x k ok).run s = some (r, s')) :
    (∃ v, (Instr.lookup t vx vk ok).run P w = .ok v w ∧ VR C r v) ∧ Same s s' := by
  unfold lookupA at h
  split at h
  · rename_i kt et hu
    simp only [run_chk] at h
    obtain ⟨hok, h⟩ := h
    split at h
    · simp only [run_opt, M.run_pure'] at h
      obtain ⟨v, hv, rfl, rfl⟩ := h
      have := hx.nilMap_inv; subst this
      have hr0 : FoR C none none := rfl
      obtain ⟨o, e3, e4⟩ := findKey_ok (w := w) (es := []) (l := []) (r := none) hk hok rfl rfl
      simp only [FoR] at e4; subst e4
      rcases found_ok (w := w) hr0 hv with ⟨_, _, e, _⟩ | ⟨_, z, ez, e2⟩
      · cases e
      · refine ⟨⟨_, ?_, e2⟩, Same.refl _⟩
        simp [Instr.lookup, s_underlying hu, checkKey_ok hk hok, e3, ez]
    · rename_i id
      obtain ⟨es, clock, s1, hid, hsame, h⟩ := run_rdMap h
      simp only [run_opt, M.run_pure'] at h
      obtain ⟨q, hq, v, hv, rfl, rfl⟩ := h
      obtain ⟨i, hi, rfl⟩ := hx.map_inv
      obtain ⟨j, l, hj, hb, her⟩ := hw.mapOf hid
      rw [hi] at hj; injection hj with hj; subst hj
      obtain ⟨o, e3, e4⟩ := findKey_ok (w := w) hk hok her hq
      rcases found_ok (w := w) e4 hv with ⟨_, y, rfl, e2⟩ | ⟨rfl, z, ez, e2⟩
      · refine ⟨⟨_, ?_, e2⟩, hsame⟩
        simp [Instr.lookup, s_underlying hu, run_getObj' hb (by simp), checkKey_ok hk hok, e3]
      · refine ⟨⟨_, ?_, e2⟩, hsame⟩
        simp [Instr.lookup, s_underlying hu, run_getObj' hb (by simp), checkKey_ok hk hok, e3, ez]
    · simp at h
  · simp at h
end
end Go.Mach
end
section
/-! The machine's maps and what runs over them are the model's. -/
set_option linter.unusedSimpArgs false
set_option linter.unusedVariables false
namespace Go.Mach
open Go
section
variable {P : Program} {base : Nat} {C : CMap} {s s' : St} {w : World}

theorem keyEq_bits {k e : AV} {vk ve : Value} (hk : VR C k vk) (he : VR C e ve) (h : keyEq k e = some true) : ve = vk ∧ ∀ n, Instr.sameBits n vk vk = true := by
  unfold keyEq at h
  split at h
  · have := hk.bool_inv; subst this
    have := he.bool_inv; subst this
    simp only [Option.some.injEq, beq_iff_eq] at h
    subst h
    exact ⟨rfl, fun n => by simp [Instr.sameBits]⟩
  · have := hk.int_inv; subst this
    have := he.int_inv; subst this
    rename_i k1 a k2 b'
    cases hb : (k1 == k2) with
    | false => rw [hb] at h; cases h
    | true =>
      rw [hb] at h
      simp only [cond_true, Option.some.injEq, beq_iff_eq] at h
      subst h
      have := eq_of_beq hb; subst this
      exact ⟨rfl, fun n => by simp [Instr.sameBits]⟩
  · obtain ⟨p, rfl, rfl⟩ := hk.str_inv
    obtain ⟨q, rfl, rfl⟩ := he.str_inv
    simp only [Option.some.injEq] at h
    rw [← beq_strings] at h
    have : p = q := by
      obtain ⟨a⟩ := p
      obtain ⟨b⟩ := q
      have h' : (a == b) = true := h
      rw [eq_of_beq h']
    subst this
    exact ⟨rfl, fun n => by simp only [Instr.sameBits]; rw [beq_strings]; simp⟩
  · cases h
theorem sameL_ok : ∀ {a b : List AV} {l m : List Value}, VRs C a l → VRs C b m → sameL a b = true → l = m ∧ ∀ n, (l.zip l).all (fun (x, y) => Instr.sameBits n x y) = true
  | [], [], l, m, h1, h2, _ => by
    simp only [VRs] at h1 h2
    subst h1 h2
    exact ⟨rfl, fun _ => rfl⟩
  | x :: a, [], _, _, _, _, h => by cases x <;> simp [sameL] at h
  | [], _ :: _, _, _, _, _, h => by simp [sameL] at h
  | x :: a, y :: b, l, m, h1, h2, h => by
    obtain ⟨v, vs, rfl, hv, hvs⟩ := h1
    obtain ⟨u, us, rfl, hu, hus⟩ := h2
    have key : ∃ e : keyEq x y = some true, sameL a b = true := by
      unfold sameL at h
      split at h <;> first | (rename_i q1 q2; cases q1; done) | skip
      · rename_i p1 l1 p2 l2 q1 q2
        injection q1 with q1 q1'; injection q2 with q2 q2'
        subst q1 q2 q1' q2'
        simp only [Bool.and_eq_true] at h
        exact ⟨by simp only [keyEq, h.1], h.2⟩
      · rename_i k1 p1 l1 k2 p2 l2 q1 q2
        injection q1 with q1 q1'; injection q2 with q2 q2'
        subst q1 q2 q1' q2'
        simp only [Bool.and_eq_true] at h
        exact ⟨by simp only [keyEq, h.1, h.2.1, cond_true], h.2.2⟩
      · rename_i p1 l1 p2 l2 q1 q2
        injection q1 with q1 q1'; injection q2 with q2 q2'
        subst q1 q2 q1' q2'
        simp only [Bool.and_eq_true] at h
        exact ⟨by simp only [keyEq, h.1], h.2⟩
      · cases h
    obtain ⟨k1, k2⟩ := key
    obtain ⟨e1, e2⟩ := keyEq_bits hv hu k1
    obtain ⟨e3, e4⟩ := sameL_ok hvs hus k2
    subst e1 e3
    exact ⟨rfl, fun n => by rw [List.zip_cons_cons, List.all_cons, e4 n]; show (Instr.sameBits n _ _ && true) = true; rw [e2 n]; rfl⟩
theorem keyEqT_eq {t : TypeId} {k e : AV} {vk ve : Value} (hk : VR C k vk) (he : VR C e ve) (h : keyEqT P t k e = some true) : ve = vk ∧ Instr.sameBits 10000 vk vk = true := by
  unfold keyEqT at h
  split at h
  · rename_i a b
    split at h
    · cases hs : sameL a b with
      | false => rw [hs] at h; cases h
      | true =>
        simp only [VR] at hk he
        obtain ⟨l, rfl, hl⟩ := hk
        obtain ⟨m, rfl, hm⟩ := he
        obtain ⟨e1, e2⟩ := sameL_ok hl hm hs
        have e3 : l = m := Array.ext' e1
        subst e3
        exact ⟨rfl, by simp only [Instr.sameBits, beq_self_eq_true, Bool.true_and]; exact e2 9999⟩
    · cases h
    · cases h
  · obtain ⟨h1, h2⟩ := keyEq_bits hk he h
    exact ⟨h1, h2 _⟩
theorem findA_spec {t : TypeId} {k : AV} : ∀ {es : List (AV × AV × Nat)} {i0 i : Nat} {v : AV}, findA P t k es i0 = some (some (i, v)) → ∃ j ek b, i = i0 + j ∧ es[j]? = some (ek, v, b) ∧ keyEqT P t k ek = some true := by
  intro es
  induction es with
  | nil => intro i0 i v h; simp [findA] at h
  | cons e es ih =>
    intro i0 i v h
    obtain ⟨ek, ev, eb⟩ := e
    simp only [findA] at h
    split at h
    · rename_i hq
      simp only [Option.some.injEq, Prod.mk.injEq] at h
      obtain ⟨rfl, rfl⟩ := h
      exact ⟨0, ek, eb, rfl, rfl, hq⟩
    · obtain ⟨j, ek', b, h1, h2, h3⟩ := ih h
      exact ⟨j + 1, ek', b, by omega, by simpa using h2, h3⟩
    · cases h
theorem ERs.get : ∀ {es : List (AV × AV × Nat)} {l : List MapEntry} {j : Nat} {e : AV × AV × Nat}, ERs C es l → es[j]? = some e → ∃ x, l[j]? = some x ∧ ER C e x := by
  intro es
  induction es with
  | nil => intro l j e _ h; simp at h
  | cons a es ih =>
    intro l j e hr h
    obtain ⟨x, xs, rfl, h1, h2⟩ := hr
    cases j with
    | zero => simp only [List.getElem?_cons_zero, Option.some.injEq] at h; subst h; exact ⟨x, rfl, h1⟩
    | succ j => simpa using ih h2 (by simpa using h)
theorem ERs.append : ∀ {es fs : List (AV × AV × Nat)} {l m : List MapEntry}, ERs C es l → ERs C fs m → ERs C (es ++ fs) (l ++ m) := by
  intro es
  induction es with
  | nil => intro fs l m h h'; simp only [ERs] at h; subst h; exact h'
  | cons a es ih => intro fs l m h h'; obtain ⟨x, xs, rfl, h1, h2⟩ := h; exact ⟨x, xs ++ m, rfl, h1, ih h2 h'⟩
theorem ERs.erase : ∀ {es : List (AV × AV × Nat)} {l : List MapEntry} (i : Nat), ERs C es l → ERs C (es.eraseIdx i) (l.eraseIdx i) := by
  intro es
  induction es with
  | nil => intro l i h; simp only [ERs] at h; subst h; simp [ERs]
  | cons a es ih =>
    intro l i h
    obtain ⟨x, xs, rfl, h1, h2⟩ := h
    cases i with
    | zero => exact h2
    | succ i => exact ⟨x, xs.eraseIdx i, rfl, h1, ih i h2⟩
theorem ERs.setAt {v : AV} {vv : Value} (hv : VR C v vv) {vk : Value} : ∀ {es : List (AV × AV × Nat)} {l : List MapEntry} {i : Nat}, ERs C es l → (∀ e, l[i]? = some e → e.key = vk) →
    ERs C (Mach.setAt es i v) (l.modify i fun e => { e with key := vk, val := vv }) := by
  intro es
  induction es with
  | nil => intro l i h _; simp only [ERs] at h; subst h; cases i <;> simp [Mach.setAt, ERs]
  | cons a es ih =>
    intro l i h hk
    obtain ⟨x, xs, rfl, h1, h2⟩ := h
    obtain ⟨ak, av, ab⟩ := a
    cases i with
    | zero =>
      have := hk x rfl
      subst this
      simp only [Mach.setAt, List.modify_zero_cons]
      exact ⟨_, _, rfl, ⟨h1.1, hv, h1.2.2⟩, h2⟩
    | succ i =>
      simp only [Mach.setAt, List.modify_succ_cons]
      exact ⟨_, _, rfl, h1, ih h2 (fun e he => hk e (by simpa using he))⟩
theorem updateA_ok {t : TypeId} {x k v : AV} {vx vk vv : Value} {u : Unit} (hw : WR P base C s.h.get w.heap) (hx : VR C x vx) (hk : VR C k vk) (hv : VR C v vv) (h : (updateA P t x k v).run s = some (u, s')) :
    Res P base C s s' w (fun _ _ => True) ((Instr.mapUpdate t vx vk vv).run P w) := by
  unfold updateA at h
  split at h
  · rename_i kt et id hu
    simp only [run_chk] at h
    obtain ⟨hok, h⟩ := h
    obtain ⟨es, clock, s1, hid, hsame, h⟩ := run_rdMap h
    simp only [run_opt] at h
    obtain ⟨q, hq, h⟩ := h
    obtain ⟨i, hi, rfl⟩ := hx.map_inv
    obtain ⟨j, l, hj, hb, her⟩ := hw.mapOf hid
    rw [hi] at hj; injection hj with hj; subst hj
    obtain ⟨o, e3, e4⟩ := findKey_ok (w := w) hk hok her hq
    have hid1 : s1.h.get id = some (.map es clock) := by rw [hsame.1]; exact hid
    refine Res.first hsame ?_
    cases q with
    | none =>
      simp only [FoR] at e4; subst e4
      have := WR.setMap (l' := l.push { key := vk, val := vv, born := clock }) (hw.same hsame) hid1 hi hb (by rw [Array.toList_push]; exact her.append ⟨_, _, rfl, ⟨hk, hv, rfl⟩, rfl⟩) h
      have e : (Instr.mapUpdate t (.map (some i.blk)) vk vv).run P w = (setObj i.blk (.map (l.push { key := vk, val := vv, born := clock }) (clock + 1))).run P w := by
        simp only [Instr.mapUpdate, Sem.run_bind, s_underlying hu, Result.andThen_ok, run_getObj' hb (by simp), checkKey_ok hk hok, e3]
      rw [e]; exact this
    | some p =>
      obtain ⟨n, a⟩ := p
      obtain ⟨y, rfl, hy⟩ := e4
      obtain ⟨j, ek, b, hj, hes, hke⟩ := findA_spec hq
      rw [Nat.zero_add] at hj
      subst hj
      obtain ⟨e, he1, he2⟩ := her.get hes
      obtain ⟨hkk, hbits⟩ := keyEqT_eq hk he2.1 hke
      have := WR.setMap (l' := l.modify n fun e => { e with key := vk, val := vv }) (hw.same hsame) hid1 hi hb (by rw [Array.toList_modify]; exact her.setAt hv (fun e' h' => by rw [he1] at h'; injection h' with h'; rw [← h']; exact hkk)) h
      have hl : l[n]? = some e := by simpa using he1
      have e' : (Instr.mapUpdate t (.map (some i.blk)) vk vv).run P w = (setObj i.blk (.map (l.modify n fun e => { e with key := vk, val := vv }) clock)).run P w := by
        simp only [Instr.mapUpdate, Sem.run_bind, s_underlying hu, Result.andThen_ok, run_getObj' hb (by simp), checkKey_ok hk hok, e3, hl, Option.map_some, Option.getD_some, Instr.keyThatStays, hkk, hbits, if_true, Sem.run_pure]
      rw [e']; exact this
  · simp at h
theorem deleteA_ok {t : TypeId} {x k r : AV} {vx vk : Value} {argTypes : Array TypeId} {ty : TypeId} (h0 : argTypes[0]? = some t) (hw : WR P base C s.h.get w.heap) (hf : Fresh C s.n s'.n) (hx : VR C x vx) (hk : VR C k vk) (h : (deleteA P t x k).run s = some (r, s')) :
    Res P base C s s' w (fun C v => VR C r v) ((Builtin.delete_ argTypes ty #[vx, vk]).run P w) := by
  unfold deleteA at h
  split at h
  · rename_i kt et id hu
    simp only [run_chk] at h
    obtain ⟨hok, h⟩ := h
    obtain ⟨es, clock, s1, hid, hsame, h⟩ := run_rdMap h
    simp only [run_opt] at h
    obtain ⟨q, hq, h⟩ := h
    obtain ⟨i, hi, rfl⟩ := hx.map_inv
    obtain ⟨j, l, hj, hb, her⟩ := hw.mapOf hid
    rw [hi] at hj; injection hj with hj; subst hj
    obtain ⟨o, e3, e4⟩ := findKey_ok (w := w) hk hok her hq
    have hid1 : s1.h.get id = some (.map es clock) := by rw [hsame.1]; exact hid
    refine Res.first hsame ?_
    have hF1 : Fresh C s1.n s'.n := by rw [hsame.2]; exact hf
    cases q with
    | none =>
      simp only [FoR] at e4; subst e4
      simp only [M.run_bind', M.run_pure'] at h
      obtain ⟨u, s2, hp, rfl, rfl⟩ := h
      have := WR.setMap (l' := l) (hw.same hsame) hid1 hi hb her hp
      have e : (Builtin.delete_ argTypes ty #[.map (some i.blk), vk]).run P w = ((setObj i.blk (.map l clock)).run P w).andThen fun _ w => .ok (.tuple #[]) w := by
        simp only [Builtin.delete_, h0, List.getElem?_toArray, List.getElem?_cons_zero, List.getElem?_cons_succ, Sem.run_bind, s_underlying hu, Result.andThen_ok, run_getObj' hb (by simp), checkKey_ok hk hok, e3, Sem.run_pure]
      rw [e]
      exact Res.bind this hF1 (M.le _ hp) (Nat.le_refl _) fun C1 b w1 _ hw2 hle hfr => Res.of rfl (by simp [VR, VRs]) hw2 (Same.refl _)
    | some p =>
      obtain ⟨n, a⟩ := p
      obtain ⟨y, rfl, hy⟩ := e4
      simp only [M.run_bind', M.run_pure'] at h
      obtain ⟨u, s2, hp, rfl, rfl⟩ := h
      have := WR.setMap (l' := l.eraseIdxIfInBounds n) (hw.same hsame) hid1 hi hb (by rw [Array.toList_eraseIdxIfInBounds]; exact her.erase n) hp
      have e : (Builtin.delete_ argTypes ty #[.map (some i.blk), vk]).run P w = ((setObj i.blk (.map (l.eraseIdxIfInBounds n) clock)).run P w).andThen fun _ w => .ok (.tuple #[]) w := by
        simp only [Builtin.delete_, h0, List.getElem?_toArray, List.getElem?_cons_zero, List.getElem?_cons_succ, Sem.run_bind, s_underlying hu, Result.andThen_ok, run_getObj' hb (by simp), checkKey_ok hk hok, e3, Sem.run_pure]
      rw [e]
      exact Res.bind this hF1 (M.le _ hp) (Nat.le_refl _) fun C1 b w1 _ hw2 hle hfr => Res.of rfl (by simp [VR, VRs]) hw2 (Same.refl _)
  · rename_i kt et hu
    simp only [run_chk, M.run_pure'] at h
    obtain ⟨hok, rfl, rfl⟩ := h
    have := hx.nilMap_inv; subst this
    refine Res.of (b := .tuple #[]) ?_ (by simp [VR, VRs]) hw (Same.refl _)
    simp only [Builtin.delete_, h0, List.getElem?_toArray, List.getElem?_cons_zero, List.getElem?_cons_succ, Sem.run_bind, s_underlying hu, Result.andThen_ok, checkKey_ok hk hok, Sem.run_pure]
  · simp at h

/-- A new object that is no row of cells. -/
theorem new_ok {o : AObj} {x : Obj} {id : Nat} (hw : WR P base C s.h.get w.heap) (hG : P.globals.size ≤ s.n) (hf : Fresh C s.n s'.n) (h : (new o).run s = some (id, s'))
    (ho : ∀ C' i, C.le C' → i.off = 0 → i.blk = w.heap.size → C' s.n = some i → OR P C' (w.heap.push x) i o) :
    ∃ C', C' id = some ⟨w.heap.size, 0, 0⟩ ∧ C.le C' ∧ Res P base C s s' w (fun C v => C.le C ∧ C id = some ⟨w.heap.size, 0, 0⟩ ∧ v = w.heap.size) ((newObj x).run P w) := by
  rw [run_new] at h
  obtain ⟨h1, rfl, rfl⟩ := h
  simp only at hf
  have hn : C s.n = none := hf s.n (Nat.le_refl _) (Nat.lt_succ_self _)
  let i : RI := ⟨w.heap.size, 0, 0⟩
  have hext : Ext C (fun j => if j = s.n then some i else C j) s.n (s.n + 1) := fun j hj => by
    have : j ≠ s.n := by rintro rfl; exact hj ⟨Nat.le_refl _, Nat.lt_succ_self _⟩
    simp [this]
  have hle := hext.le hf
  have hwr := WR.alloc (i := i) (o := o) (H' := w.heap.push x) hw h1 hn hG rfl (fun b hb => by simp [Array.getElem?_push, show b ≠ w.heap.size by omega]) (by simp) (ho _ i hle rfl rfl (by simp))
  refine ⟨_, by simp [i], hle, _, w.heap.size, _, rfl, ⟨CMap.le_refl _, by simp [i], rfl⟩, hwr.congr fun j => ?_, hext, rfl, rfl, rfl, by simp, fun b hb => ?_⟩
  · simp only [T.get_set]
  · have := hw.base
    simp [Array.getElem?_push, show b ≠ w.heap.size by omega]
theorem newObj_ok {o : AObj} {x : Obj} {id : Nat} (hw : WR P base C s.h.get w.heap) (hG : P.globals.size ≤ s.n) (hf : Fresh C s.n s'.n) (h : (new o).run s = some (id, s'))
    (ho : ∀ C' i, C.le C' → i.off = 0 → i.blk = w.heap.size → C' s.n = some i → OR P C' (w.heap.push x) i o) :
    Res P base C s s' w (fun C v => ∃ i, C id = some i ∧ i.off = 0 ∧ v = i.blk) ((newObj x).run P w) := by
  obtain ⟨_, _, _, hr⟩ := new_ok hw hG hf h ho
  exact hr.mono fun C b ⟨_, h1, h2⟩ => ⟨_, h1, rfl, h2⟩
theorem makeMapA_ok {t : TypeId} {id : Nat} (hw : WR P base C s.h.get w.heap) (hG : P.globals.size ≤ s.n) (hf : Fresh C s.n s'.n) (h : (new (.map [] 0)).run s = some (id, s')) :
    Res P base C s s' w (fun C v => VR C (.map id) v) ((Instr.makeMap t none).run P w) := by
  have := newObj_ok (x := .map #[] 0) hw hG hf h (fun C' i hle h0 hb hi => ⟨#[], by simp [hb], rfl⟩)
  obtain ⟨C', b, w', e, ⟨i, h1, h2, rfl⟩, h3⟩ := this
  refine ⟨C', .map (some i.blk), w', ?_, by simp only [VR]; exact ⟨i, h1, rfl⟩, h3⟩
  simp only [Instr.makeMap, Sem.run_bind, e, Result.andThen_ok, Sem.run_pure]
theorem rangeA_ok {t : TypeId} {x r : AV} {vx : Value} (hw : WR P base C s.h.get w.heap) (hG : P.globals.size ≤ s.n) (hf : Fresh C s.n s'.n) (hx : VR C x vx) (h : (rangeA P t x).run s = some (r, s')) :
    Res P base C s s' w (fun C v => VR C r v) ((Instr.range t vx).run P w) := by
  unfold rangeA at h
  split at h
  · rename_i hu
    simp only [M.run_bind', M.run_pure'] at h
    obtain ⟨id, s1, h, rfl, rfl⟩ := h
    have := hx.nilMap_inv; subst this
    have := newObj_ok (x := .mapIter none 0 #[] 0) hw hG hf h (fun C' i hle h0 hb hi => ⟨h0, none, by simp [hb], trivial⟩)
    obtain ⟨C', b, w', e, ⟨i, h1, h2, rfl⟩, h3⟩ := this
    refine ⟨C', .pointer (some ⟨i.blk, 0, none⟩), w', ?_, by simp only [VR]; exact ⟨i, h1, by rw [h2]⟩, h3⟩
    simp only [Instr.range, Sem.run_bind, s_underlying hu, Result.andThen_ok, e, Sem.run_pure]
  · rename_i m hu
    obtain ⟨es, clock, s1, hid, hsame, h⟩ := run_rdMap h
    simp only [M.run_bind', M.run_pure'] at h
    obtain ⟨id, s2, hn, rfl, rfl⟩ := h
    obtain ⟨i, hi, rfl⟩ := hx.map_inv
    obtain ⟨j, l, hj, hb, her⟩ := hw.mapOf hid
    rw [hi] at hj; injection hj with hj; subst hj
    refine Res.first hsame ?_
    have := newObj_ok (x := .mapIter (some i.blk) clock #[] clock) (hw.same hsame) (by rw [hsame.2]; exact hG) (by rw [hsame.2]; exact hf) hn (fun C' i' hle h0 hb' hi' => ⟨h0, some i.blk, by simp [hb'], i, hle _ _ hi, rfl⟩)
    obtain ⟨C', b, w', e, ⟨i', h1, h2, rfl⟩, h3⟩ := this
    refine ⟨C', .pointer (some ⟨i'.blk, 0, none⟩), w', ?_, by simp only [VR]; exact ⟨i', h1, by rw [h2]⟩, h3⟩
    simp only [Instr.range, Sem.run_bind, s_underlying hu, Result.andThen_ok, run_getObj' hb (by simp), e, Sem.run_pure]
  · simp at h
end
end Go.Mach
end
section
/-! The machine's operations are the model's. -/
set_option linter.unusedSimpArgs false
set_option linter.unusedVariables false
namespace Go.Mach
open Go
section
variable {P : Program} {base : Nat} {C : CMap} {s s' : St} {w : World}

theorem memB_eq (n : Nat) : ∀ l : List Nat, memB n l = l.contains n
  | [] => rfl
  | m :: l => by
    simp only [memB, List.contains_cons, memB_eq n l]
    congr 1
    rw [Bool.eq_iff_iff, beq_iff_eq]
    exact ⟨Nat.eq_of_beq_eq_true, fun h => by subst h; simp⟩
theorem leftA_ok {seen : List Nat} {since : Nat} {old : Bool} : ∀ {es : List (AV × AV × Nat)} {l : List MapEntry}, ERs C es l →
    ERs C (leftA seen since old es) ((l.filter fun e => !seen.contains e.born).filter fun e => decide (e.born < since) == old) := by
  intro es
  induction es with
  | nil => intro l h; simp only [ERs] at h; subst h; rfl
  | cons e es ih =>
    intro l h
    obtain ⟨x, xs, rfl, h1, h2⟩ := h
    have hb := h1.2.2
    have e1 : (!memB e.2.2 seen && (Nat.blt e.2.2 since == old)) = (!seen.contains x.born && (decide (x.born < since) == old)) := by
      rw [memB_eq, hb]
      congr 2
      rw [Bool.eq_iff_iff, decide_eq_true_eq]
      exact ⟨fun h => Nat.le_of_ble_eq_true h, fun h => Nat.ble_eq_true_of_le h⟩
    simp only [leftA, e1, List.filter_cons]
    cases hc : seen.contains x.born with
    | true => simpa using ih h2
    | false =>
      simp only [Bool.not_false, Bool.true_and, if_true, List.filter_cons]
      cases hd : (decide (x.born < since) == old) with
      | true => simp only [cond_true, if_true]; exact ⟨x, _, rfl, h1, ih h2⟩
      | false => simp only [cond_false, Bool.false_eq_true, if_false]; exact ih h2
theorem allNew_ok {last : Nat} : ∀ {es : List (AV × AV × Nat)} {l : List MapEntry}, ERs C es l → (l.all fun e => decide (e.born ≥ last)) = allNew last es := by
  intro es
  induction es with
  | nil => intro l h; simp only [ERs] at h; subst h; rfl
  | cons e es ih =>
    intro l h
    obtain ⟨x, xs, rfl, h1, h2⟩ := h
    simp only [List.all_cons, allNew, ih h2, h1.2.2]
    congr 1
    rw [Bool.eq_iff_iff, decide_eq_true_eq]
    exact ⟨fun h => Nat.ble_eq_true_of_le h, fun h => Nat.le_of_ble_eq_true h⟩
theorem ERs.isEmpty : ∀ {es : List (AV × AV × Nat)} {l : List MapEntry}, ERs C es l → l.isEmpty = es.isEmpty := by
  intro es l h
  cases es with
  | nil => simp only [ERs] at h; subst h; rfl
  | cons e es => obtain ⟨x, xs, rfl, _⟩ := h; rfl
theorem nextA_ok {it r : AV} {vi : Value} {b : Bool} {ty : TypeId} (hw : WR P base C s.h.get w.heap) (hf : Fresh C s.n s'.n) (hi : VR C it vi) (h : (nextA it b).run s = some (r, s')) :
    Res P base C s s' w (fun C v => VR C r v) ((Instr.next vi b ty).run P w) := by
  unfold nextA at h
  split at h
  · rename_i id
    obtain ⟨i, hci, rfl⟩ := hi.ptr_inv
    simp only [M.run_bind', run_rd] at h
    obtain ⟨o, s1, ⟨hid, rfl⟩, h⟩ := h
    obtain ⟨i2, hi2, hr⟩ := hw.obj id _ hid
    rw [hci] at hi2; injection hi2 with hi2; subst hi2
    have hsame : Same s ⟨s.h, s.n, s.f ||| bit id, s.w⟩ := ⟨rfl, rfl⟩
    split at h
    · rename_i since seen last
      obtain ⟨h0, m', hb, hm⟩ := hr
      cases m' with
      | some _ => exact hm.elim
      | none =>
        simp only [M.run_pure'] at h
        obtain ⟨rfl, rfl⟩ := h
        refine Res.of (b := .tuple #[.bool false]) ?_ (by simp only [VR]; exact ⟨_, rfl, by simp only [VRs.cons]; exact ⟨VR.mk_bool _, VRs.nil⟩⟩) hw hsame
        simp [Instr.next, h0, run_getObj' hb (by simp)]
    · rename_i m since seen last
      obtain ⟨h0, m', hb, hm⟩ := hr
      cases m' with
      | none => exact hm.elim
      | some mb =>
        obtain ⟨j, hj, rfl⟩ := hm
        obtain ⟨es, clock, s2, hmid, hsame2, h⟩ := run_rdMap h
        simp only [run_chk] at h
        obtain ⟨hall, h⟩ := h
        obtain ⟨j2, l, hj2, hmb, her⟩ := hw.mapOf hmid
        rw [hj] at hj2; injection hj2 with hj2; subst hj2
        have hsame3 := hsame.trans hsame2
        have hcond : (!seen.toArray.isEmpty && !l.isEmpty && l.all (·.born ≥ last)) = false := by
          have e1 : l.isEmpty = es.isEmpty := by rw [← her.isEmpty]; simp
          have e2 : l.all (fun e => decide (e.born ≥ last)) = allNew last es := by rw [← allNew_ok her]; simp
          rw [e1, e2]
          simp only [List.isEmpty_toArray] at hall ⊢
          revert hall
          cases seen.isEmpty <;> cases es.isEmpty <;> cases allNew last es <;> simp
        have hold := leftA_ok (seen := seen) (since := since) (old := true) her
        have hnew := leftA_ok (seen := seen) (since := since) (old := false) her
        have ho' : ((l.filter fun e => !seen.toArray.contains e.born).filter fun e => decide (e.born < since)).toList = ((l.toList.filter fun e => !seen.contains e.born).filter fun e => decide (e.born < since) == true) := by
          simp
        have hn' : ((l.filter fun e => !seen.toArray.contains e.born).filter fun e => decide (e.born ≥ since)).toList = ((l.toList.filter fun e => !seen.contains e.born).filter fun e => decide (e.born < since) == false) := by
          simp only [Array.toList_filter, List.contains_toArray]
          congr 1
          funext e
          rw [Bool.eq_iff_iff]
          simp
        rw [← ho'] at hold
        rw [← hn'] at hnew
        split at h
        · rename_i e1 e2
          rw [e1] at hold; rw [e2] at hnew
          simp only [ERs] at hold hnew
          simp only [M.run_pure'] at h
          obtain ⟨rfl, rfl⟩ := h
          have a1 := Array.toList_eq_nil_iff.1 hold
          have a2 := Array.toList_eq_nil_iff.1 hnew
          refine Res.of (b := .tuple #[.bool false]) ?_ (by simp only [VR]; exact ⟨_, rfl, by simp only [VRs.cons]; exact ⟨VR.mk_bool _, VRs.nil⟩⟩) hw hsame3
          simp only [Instr.next, h0, Nat.zero_add, Sem.run_bind, run_getObj' hb (by simp), run_getObj' hmb (by simp), Result.andThen_ok, hcond, Bool.false_eq_true, if_false, a1, a2, run_choose]
          have hq : (Question.mapNext 1).forced = true := rfl
          simp [hq]
        · rename_i k v bb e1 e2
          rw [e1] at hold; rw [e2] at hnew
          obtain ⟨x, xs, hx, hxr, hxs⟩ := hold
          simp only [ERs] at hxs hnew
          subst hxs
          simp only [M.run_bind', M.run_pure'] at h
          obtain ⟨u, s3, hp, rfl, rfl⟩ := h
          have a1 : ((l.filter fun e => !seen.toArray.contains e.born).filter fun e => decide (e.born < since)) = #[x] := Array.toList_inj.1 hx
          have a2 := Array.toList_eq_nil_iff.1 hnew
          rw [run_put] at hp
          obtain ⟨_, rfl⟩ := hp
          have hG : P.globals.size ≤ id := by
            rcases Nat.lt_or_ge id P.globals.size with hlt | hge
            · have := hw.low id _ hid hlt; simp [AObj.still] at this
            · exact hge
          refine Res.first hsame3 ⟨C, .tuple #[.bool true, x.key, x.val], World.setBlk w i.blk (.mapIter (some j.blk) since (seen.toArray.push x.born) clock), ?_, ?_, ?_, fun _ _ => rfl, setBlk_kept (hw.high id i hG hci)⟩
          · simp only [Instr.next, h0, Nat.zero_add, Sem.run_bind, run_getObj' hb (by simp), run_getObj' hmb (by simp), Result.andThen_ok, hcond, Bool.false_eq_true, if_false, a1, a2, run_choose]
            have hq : (Question.mapNext 1).forced = true := rfl
            simp [hq, run_setObj' hb (by simp)]
          · simp only [VR]
            exact ⟨_, rfl, by simp only [VRs.cons]; exact ⟨VR.mk_bool _, hxr.1, hxr.2.1, VRs.nil⟩⟩
          · have := WR.update (i := i) (o' := .mapIter (some m) since (seen ++ [bb]) clock) (H' := (World.setBlk w i.blk (.mapIter (some j.blk) since (seen.toArray.push x.born) clock)).heap) hw hid hci rfl (fun b hb' => setBlk_heap_ne hb') (by simp [setBlk_size])
              ⟨h0, some j.blk, by rw [setBlk_heap_self hb, hxr.2.2]; simp, j, hj, rfl⟩
            refine this.congr fun q => ?_
            simp only [T.get_set, hsame3.1]
        · simp at h
    · simp at h
  · simp at h

/-! ### builtins -/
theorem lenA_ok {argTypes : Array TypeId} {ty : TypeId} {x r : AV} {vx : Value} (hw : WR P base C s.h.get w.heap) (hx : VR C x vx) (h : (lenA P argTypes.toList x).run s = some (r, s')) :
    Res P base C s s' w (fun C v => VR C r v) ((Builtin.len_ argTypes ty #[vx]).run P w) := by
  unfold lenA at h
  simp only [run_opt] at h
  obtain ⟨t, ht, h⟩ := h
  have h0 : argTypes[0]? = some t := by simpa using ht
  split at h
  · rename_i l hu
    simp only [M.run_pure'] at h
    obtain ⟨rfl, rfl⟩ := h
    obtain ⟨b, rfl, rfl⟩ := hx.str_inv
    refine Res.of (b := goInt b.size) ?_ (by rw [bytesOf_length]; simp [VR, goInt]) hw (Same.refl _)
    simp [Builtin.len_, h0, s_underlying hu]
  · rename_i l g hu
    simp only [M.run_pure'] at h
    obtain ⟨rfl, rfl⟩ := h
    simp only [VR] at hx
    obtain ⟨b, rfl, hb⟩ := hx
    refine Res.of (b := goInt b.size) ?_ (by simp only [VR]; exact ⟨b.size, rfl, hb⟩) hw (Same.refl _)
    simp [Builtin.len_, h0, s_underlying hu]
  · rename_i n el hu
    simp only [M.run_pure'] at h
    obtain ⟨rfl, rfl⟩ := h
    refine Res.of (b := goInt n) ?_ (by simp [VR, goInt]) hw (Same.refl _)
    simp [Builtin.len_, h0, s_underlying hu]
  · rename_i arr hu
    split at h
    · rename_i n el hu2
      simp only [M.run_pure'] at h
      obtain ⟨rfl, rfl⟩ := h
      refine Res.of (b := goInt n) ?_ (by simp [VR, goInt]) hw (Same.refl _)
      simp [Builtin.len_, h0, s_underlying hu, s_underlying hu2]
    · simp at h
  · rename_i el hu
    simp only [M.run_pure'] at h
    obtain ⟨rfl, rfl⟩ := h
    have := hx.nilSlice_inv; subst this
    refine Res.of (b := goInt 0) ?_ (by simp [VR, goInt]) hw (Same.refl _)
    simp [Builtin.len_, h0, s_underlying hu]
  · rename_i el id off n cap hu
    simp only [M.run_pure'] at h
    obtain ⟨rfl, rfl⟩ := h
    obtain ⟨i, k, _, rfl, _⟩ := hx.slice_inv
    refine Res.of (b := goInt n) ?_ (by simp [VR, goInt]) hw (Same.refl _)
    simp [Builtin.len_, h0, s_underlying hu]
  · rename_i el hu
    simp only [M.run_pure'] at h
    obtain ⟨rfl, rfl⟩ := h
    simp only [VR] at hx
    obtain ⟨a, c, rfl⟩ := hx
    refine Res.of (b := goInt 0) ?_ (by simp [VR, goInt]) hw (Same.refl _)
    simp [Builtin.len_, h0, s_underlying hu]
  · rename_i a b hu
    simp only [M.run_pure'] at h
    obtain ⟨rfl, rfl⟩ := h
    have := hx.nilMap_inv; subst this
    refine Res.of (b := goInt 0) ?_ (by simp [VR, goInt]) hw (Same.refl _)
    simp [Builtin.len_, h0, s_underlying hu]
  · rename_i a b id hu
    obtain ⟨es, clock, s1, hid, hsame, h⟩ := run_rdMap h
    simp only [M.run_pure'] at h
    obtain ⟨rfl, rfl⟩ := h
    obtain ⟨i, hi, rfl⟩ := hx.map_inv
    obtain ⟨j, l, hj, hb, her⟩ := hw.mapOf hid
    rw [hi] at hj; injection hj with hj; subst hj
    have hlen : ∀ {es : List (AV × AV × Nat)} {l : List MapEntry}, ERs C es l → l.length = es.length := by
      intro es
      induction es with
      | nil => intro l h; simp only [ERs] at h; subst h; rfl
      | cons e es ih => intro l h; obtain ⟨x, xs, rfl, _, h2⟩ := h; simp [ih h2]
    refine Res.of (b := goInt l.size) ?_ (by rw [← hlen her]; simp [VR, goInt]) hw hsame
    simp [Builtin.len_, h0, s_underlying hu, run_getObj' hb (by simp)]
  · simp at h
theorem capA_ok {argTypes : Array TypeId} {ty : TypeId} {x r : AV} {vx : Value} (hw : WR P base C s.h.get w.heap) (hx : VR C x vx) (h : (capA P argTypes.toList x).run s = some (r, s')) :
    Res P base C s s' w (fun C v => VR C r v) ((Builtin.cap_ argTypes ty #[vx]).run P w) := by
  unfold capA at h
  simp only [run_opt] at h
  obtain ⟨t, ht, h⟩ := h
  have h0 : argTypes[0]? = some t := by simpa using ht
  split at h
  · rename_i n el hu
    simp only [M.run_pure'] at h
    obtain ⟨rfl, rfl⟩ := h
    refine Res.of (b := goInt n) ?_ (by simp [VR, goInt]) hw (Same.refl _)
    simp [Builtin.cap_, h0, s_underlying hu]
  · rename_i el hu
    simp only [M.run_pure'] at h
    obtain ⟨rfl, rfl⟩ := h
    have := hx.nilSlice_inv; subst this
    refine Res.of (b := goInt 0) ?_ (by simp [VR, goInt]) hw (Same.refl _)
    simp [Builtin.cap_, h0, s_underlying hu]
  · rename_i el id off n c hu
    simp only [M.run_pure'] at h
    obtain ⟨rfl, rfl⟩ := h
    obtain ⟨i, k, _, rfl, hk⟩ := hx.slice_inv
    simp only [capR] at hk; subst hk
    refine Res.of (b := goInt k) ?_ (by simp [VR, goInt]) hw (Same.refl _)
    simp [Builtin.cap_, h0, s_underlying hu]
  · simp at h
theorem clearA_ok {argTypes : Array TypeId} {ty : TypeId} {x r : AV} {vx : Value} (hw : WR P base C s.h.get w.heap) (hf : Fresh C s.n s'.n) (hx : VR C x vx) (h : (clearA P argTypes.toList x).run s = some (r, s')) :
    Res P base C s s' w (fun C v => VR C r v) ((Builtin.clear_ argTypes ty #[vx]).run P w) := by
  have hu0 : VR C (.tuple []) (.tuple #[]) := by simp [VR, VRs]
  unfold clearA at h
  simp only [run_opt] at h
  obtain ⟨t, ht, h⟩ := h
  have h0 : argTypes[0]? = some t := by simpa using ht
  split at h
  · rename_i a b hu
    simp only [M.run_pure'] at h
    obtain ⟨rfl, rfl⟩ := h
    have := hx.nilMap_inv; subst this
    exact Res.of (b := .tuple #[]) (by simp [Builtin.clear_, h0, s_underlying hu]) hu0 hw (Same.refl _)
  · rename_i a b id hu
    obtain ⟨es, clock, s1, hid, hsame, h⟩ := run_rdMap h
    simp only [M.run_bind', M.run_pure'] at h
    obtain ⟨u, s2, hp, rfl, rfl⟩ := h
    obtain ⟨i, hi, rfl⟩ := hx.map_inv
    obtain ⟨j, l, hj, hb, her⟩ := hw.mapOf hid
    rw [hi] at hj; injection hj with hj; subst hj
    refine Res.first hsame ?_
    have := WR.setMap (l' := #[]) (es' := []) (hw.same hsame) (by rw [hsame.1]; exact hid) hi hb rfl hp
    have e : (Builtin.clear_ argTypes ty #[.map (some i.blk)]).run P w = ((setObj i.blk (.map #[] clock)).run P w).andThen fun _ w => .ok (.tuple #[]) w := by
      simp only [Builtin.clear_, h0, List.getElem?_toArray, List.getElem?_cons_zero, Sem.run_bind, s_underlying hu, Result.andThen_ok, run_getObj' hb (by simp), Sem.run_pure]
    rw [e]
    exact Res.bind this (by rw [hsame.2]; exact hf) (M.le _ hp) (Nat.le_refl _) fun C1 b w1 _ hw2 hle hfr => Res.of rfl (by simp [VR, VRs]) hw2 (Same.refl _)
  · rename_i el hu
    simp only [M.run_pure'] at h
    obtain ⟨rfl, rfl⟩ := h
    have := hx.nilSlice_inv; subst this
    exact Res.of (b := .tuple #[]) (by simp [Builtin.clear_, h0, s_underlying hu]) hu0 hw (Same.refl _)
  · rename_i el id off n cap hu
    obtain ⟨i, k, hi, rfl, hk⟩ := hx.slice_inv
    cases hb : Nat.beq n 0 with
    | true =>
      have := Nat.eq_of_beq_eq_true hb; subst this
      rw [hb] at h
      simp only [cond_true, M.run_pure'] at h
      obtain ⟨rfl, rfl⟩ := h
      exact Res.of (b := .tuple #[]) (by simp [Builtin.clear_, h0, s_underlying hu]) hu0 hw (Same.refl _)
    | false =>
      have hn0 : n ≠ 0 := fun e => by subst e; simp at hb
      rw [hb] at h
      simp only [cond_false, run_opt, M.run_bind', M.run_pure'] at h
      obtain ⟨z, hz, u, s2, hst, rfl, rfl⟩ := h
      obtain ⟨y, m, ez, hs, hm, hpos, hle, rfl⟩ := zerosA_ok (w := w) hz
      have hzr := zeros_ok (C := C) (n := n) hm hpos
      rw [← hm] at hzr
      obtain ⟨j, hj, hr⟩ := storeCellsA_ok hw hzr hst
      rw [hi] at hj; injection hj with hj; subst hj
      have e : (Builtin.clear_ argTypes ty #[.slice (some ⟨i.blk, i.off + off, none⟩) n k]).run P w = ((storeCells ⟨i.blk, i.off + off, none⟩ ((Array.range (n * y.cells.size)).map (y.cells[· % y.cells.size]!)).toList).run P w).andThen fun _ w => .ok (.tuple #[]) w := by
        obtain ⟨n', rfl⟩ := Nat.exists_eq_succ_of_ne_zero hn0
        simp only [Builtin.clear_, h0, List.getElem?_toArray, List.getElem?_cons_zero, Sem.run_bind, s_underlying hu, Result.andThen_ok, ez, Sem.run_pure, Builtin.zeroCells]
      rw [e]
      exact Res.bind hr hf (M.le _ hst) (Nat.le_refl _) fun C1 b w1 _ hw2 hle hfr => Res.of rfl (by simp [VR, VRs]) hw2 (Same.refl _)
  · simp at h
end
end Go.Mach
end
