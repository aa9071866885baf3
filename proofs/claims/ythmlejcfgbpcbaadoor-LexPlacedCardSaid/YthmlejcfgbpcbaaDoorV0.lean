/- A condition generator over the model's code, proved sound: what a function's body must come to is told as conditions on plain data. No condition of ours. -/
import Derived.Calls
import Derived.Orders
import Derived.Below
import Derived.Lib.ItoaNum
import Derived.Laws.Sem
import Derived.Laws.Cells
import Derived.Laws.Entries
import Derived.Laws.StructEq
import Derived.Lib.IfaceEq
import Derived.Lib.IfaceNeq
import Derived.Laws.MakeOwn
import Derived.Laws.AppendOwn
import Derived.Lib.AppendStr
import Derived.Laws.CopyRow
import Derived.Laws.BytesString
import Derived.MapKept
import Derived.OrdersIn
import Derived.RangeFuncCalls
import Derived.RangeFuncLeaves
set_option autoImplicit false
set_option linter.all false
namespace Go.VM
open Go

/-! ### 1. Types of plain data -/
inductive Ty
  | int (k : IntKind) | bool | str | sl (e : Ty) | pair (a b : Ty) | wrap (a : Ty)
  deriving DecidableEq

/-- What a value of the type is, in plain Lean. -/
@[reducible] def Ty.D : Ty → Type
  | .int _ => Int
  | .bool => Bool
  | .str => ByteArray
  | .sl e => List e.D
  | .pair a b => a.D × b.D
  | .wrap a => a.D

/-- How many cells. -/
def Ty.n : Ty → Nat
  | .pair a b => a.n + b.n
  | .wrap a => a.n
  | _ => 1

def Ty.dflt : (t : Ty) → t.D
  | .int _ => (0 : Int)
  | .bool => false
  | .str => ByteArray.empty
  | .sl _ => []
  | .pair a b => (a.dflt, b.dflt)
  | .wrap a => a.dflt

/-- Is a value of the type an aggregate? -/
def Ty.agg : Ty → Bool
  | .pair _ _ | .wrap _ => true
  | _ => false

/-! ### 2. Cells and values -/
inductive C
  | un
  | sk
  | int (k : IntKind) (n : Int)
  | bool (b : Bool)
  | sym (b : Bool)
  | str (s : ByteArray)
  | sl (e : Ty) (l : List e.D)
  | nils
  | own (id : Nat) (len : Nat)
  | ptr (id : Nat) (off : Nat)
  | elp (id : Nat) (i : Nat) (off : Nat)
  | nilp
  | fn (f : FuncId) (caps : List Nat)
  | nilf
  | map (id : Nat)
  | nilm
  | ifn
  | ife (t : TypeId) (k : IntKind) (n : Int)
  | ifo
  | selfp (id : Nat)
  | yld (l : Nat)

inductive V
  | c (x : C)
  | agg (l : List C)
  | tup (l : List (Bool × List C))
  | ipt (l : List C)

/-- The cells of a value that one variable holds. -/
def V.cells : V → List C
  | .c x => [x]
  | .agg l => l
  | _ => []

/-! ### 3. Objects of the call's own -/
inductive Ob
  | box (t : TypeId) (cs : List C)
  | row (t : TypeId) (e : Ty) (l : List e.D)
  | rowf (t : TypeId) (e : Ty) (l : List e.D) (j : Nat) (cs : List C)
  | map (k v : Ty) (l : List (k.D × v.D))
  | mapc (l : List (C × C))
  | amb

/-- The states. -/
structure St where
  n : Nat
  sl : List (Nat × V)
  hp : List (Nat × Ob)
  nx : Nat

def lookA {α : Type} (l : List (Nat × α)) (j : Nat) : Option α :=
  match l with
  | [] => none
  | (k, v) :: r => if Nat.beq k j then some v else lookA r j

/-- Written in place, so that a state has one entry a slot. -/
def setA {α : Type} (l : List (Nat × α)) (j : Nat) (x : α) : List (Nat × α) :=
  match l with
  | [] => [(j, x)]
  | (k, v) :: r => if Nat.beq k j then (k, x) :: r else (k, v) :: setA r j x

def delA {α : Type} (l : List (Nat × α)) (j : Nat) : List (Nat × α) :=
  match l with
  | [] => []
  | (k, v) :: r => if Nat.beq k j then delA r j else (k, v) :: delA r j

def St.look (s : St) (j : Nat) : V := (lookA s.sl j).getD (.c .un)
def St.put (s : St) (d : Option Nat) (v : V) : St :=
  match d with
  | some d => if Nat.blt d s.n then { s with sl := setA s.sl d v } else s
  | none => s

theorem ifb {α : Sort _} (k j : Nat) (a b : α) : (if Nat.beq k j = true then a else b) = if k = j then a else b := by
  by_cases h : k = j
  · simp [h]
  · rw [if_neg h, if_neg (fun hb => h (Nat.eq_of_beq_eq_true hb))]

theorem lookA_setA {α : Type} (l : List (Nat × α)) (j : Nat) (x : α) (i : Nat) : lookA (setA l j x) i = if i = j then some x else lookA l i := by
  induction l with
  | nil =>
    simp only [setA, lookA, ifb]
    by_cases h : i = j
    · subst h; simp
    · simp [h, Ne.symm h]
  | cons p r ih =>
    obtain ⟨k, v⟩ := p
    simp only [setA, ifb]
    by_cases hk : k = j
    · subst hk
      simp only [if_true, lookA, ifb]
      by_cases h : k = i
      · subst h; simp
      · simp [h, Ne.symm h]
    · simp only [hk, if_false, lookA, ifb]
      by_cases h : k = i
      · subst h; simp [hk]
      · simp [h, ih]

theorem lookA_delA {α : Type} (l : List (Nat × α)) (j i : Nat) : lookA (delA l j) i = if i = j then none else lookA l i := by
  induction l with
  | nil => simp [delA, lookA]
  | cons p r ih =>
    obtain ⟨k, v⟩ := p
    simp only [delA, ifb]
    by_cases hk : k = j
    · subst hk
      simp only [if_true, lookA, ifb]
      rw [ih]
      by_cases h : k = i
      · subst h; simp
      · simp [h]
    · simp only [hk, if_false, lookA, ifb]
      by_cases h : k = i
      · subst h; simp [hk]
      · simp [h, ih]

/-! ### 4. Conditions -/
inductive VC : Type 1
  | ok (p : Prop)
  | br (c : Bool) (t f : VC)
  | obl (p : Prop) (k : VC)
  | imp (p : Prop) (k : VC)
  | all (β : Type) (k : β → VC)
  | ex (β : Type) (k : β → VC)
  | bad

def VC.holds : VC → Prop
  | .ok p => p
  | .br c t f => (c = true → t.holds) ∧ (c = false → f.holds)
  | .obl p k => p ∧ k.holds
  | .imp p k => p → k.holds
  | .all β k => ∀ b : β, (k b).holds
  | .ex β k => ∃ b : β, (k b).holds
  | .bad => False
end Go.VM
set_option autoImplicit false
set_option linter.all false
namespace Go.VM
open Go

/-- The package variables that are read: their blocks; all blocks below glN are there. -/
def glN : Nat := 6
def glB (b : Nat) : Prop := b = 1 ∨ b = 2 ∨ b = 5

structure glW (w : World) : Prop where
  sz : glN ≤ w.heap.size
  tab : ∃ t fr, w.heap[5]? = some (.cells (Lib.pow10Tab.map fun z => Value.int .u64 z).toArray t fr)
  v1 : ∃ v, w.cell? ⟨1, 0, none⟩ = some v ∧ (v = .nilIface ∨ ∃ t u, v = .iface t u)
  v2 : ∃ v, w.cell? ⟨2, 0, none⟩ = some v ∧ (v = .nilIface ∨ ∃ t u, v = .iface t u)

theorem glW_congr {w w' : World} (h : ∀ b, glB b → w'.heap[b]? = w.heap[b]?) (hs : glN ≤ w'.heap.size) (hw : glW w) : glW w' where
  sz := hs
  tab := by
    rw [show w'.heap[5]? = w.heap[5]? from h 5 (.inr (.inr rfl))]; exact hw.tab
  v1 := by
    obtain ⟨v, hv, hi⟩ := hw.v1
    refine ⟨v, ?_, hi⟩
    unfold World.cell? at hv ⊢
    rw [h 1 (.inl rfl)]; exact hv
  v2 := by
    obtain ⟨v, hv, hi⟩ := hw.v2
    refine ⟨v, ?_, hi⟩
    unfold World.cell? at hv ⊢
    rw [h 2 (.inr (.inl rfl))]; exact hv

theorem glB_lt {w : World} (h : glW w) {b : Nat} (hb : glB b) : b < w.heap.size := by
  have := h.sz
  simp only [glN] at this
  rcases hb with rfl | rfl | rfl <;> omega

/-- .. and all of them are in S. -/
def Gl (w : World) (S : Nat → Prop) : Prop := glW w ∧ ∀ b, glB b → S b
/-- .. and none of them is ok. -/
def GlOk (ok : Nat → Prop) (w : World) : Prop := glW w ∧ ∀ b, glB b → ¬ ok b
end Go.VM
set_option autoImplicit false
set_option linter.all false
namespace Go.VM
open Go

theorem Ty.n_pos : ∀ t : Ty, 0 < t.n
  | .int _ | .bool | .str | .sl _ => by simp [Ty.n]
  | .pair a b => by have := a.n_pos; simp only [Ty.n]; omega
  | .wrap a => by have := a.n_pos; simp only [Ty.n]; omega

/-! ### 1. Typed data in memory; ok: which blocks it may lie in -/
def K (ok : Nat → Prop) (w : World) : (t : Ty) → t.D → List Value → Prop
  | .int k, x, cs => cs = [.int k x]
  | .bool, x, cs => cs = [.bool x]
  | .str, x, cs => cs = [.string x]
  | .sl e, l, cs => ∃ A c, cs = [.slice A (List.length (α := e.D) l) c] ∧ List.length (α := e.D) l ≤ c ∧
      (0 < List.length (α := e.D) l → ∃ ad : Addr, A = some ad ∧ ok ad.block ∧ ∀ j (x : e.D), l[j]? = some x → ∃ vs, K ok w e x vs ∧ ∀ i u, vs[i]? = some u → w.cell? (ad.add (j * e.n + i)) = some u)
  | .pair a b, x, cs => ∃ c1 c2, cs = c1 ++ c2 ∧ K ok w a x.1 c1 ∧ K ok w b x.2 c2
  | .wrap a, x, cs => K ok w a x cs

theorem K_len {ok : Nat → Prop} {w : World} : ∀ (t : Ty) (x : t.D) (cs : List Value), K ok w t x cs → cs.length = t.n
  | .int _, _, _, h | .bool, _, _, h | .str, _, _, h => by simp only [K] at h; subst h; rfl
  | .sl _, _, _, h => by obtain ⟨A, c, rfl, _⟩ := h; rfl
  | .pair a b, x, cs, h => by
    obtain ⟨c1, c2, rfl, h1, h2⟩ := h
    rw [List.length_append, K_len a _ _ h1, K_len b _ _ h2]; rfl
  | .wrap a, x, cs, h => K_len a x cs h

theorem block_of_cell {w : World} {a : Addr} {i : Nat} {v : Value} (h : w.cell? (a.add i) = some v) : a.block < w.heap.size := by
  have : (a.add i).block = a.block := by unfold Addr.add; split <;> rfl
  rw [← this]; exact World.block_lt_of_cell? w _ h

theorem add_block (a : Addr) (i : Nat) : (a.add i).block = a.block := by unfold Addr.add; split <;> rfl

theorem K_mono {ok ok' : Nat → Prop} {w w' : World} (h : ∀ b, ok b → b < w.heap.size → w'.heap[b]? = w.heap[b]? ∧ ok' b) :
    ∀ (t : Ty) (x : t.D) (cs : List Value), K ok w t x cs → K ok' w' t x cs
  | .int _, _, _, h1 | .bool, _, _, h1 | .str, _, _, h1 => h1
  | .sl e, l, cs, h1 => by
    obtain ⟨A, c, rfl, hc, h2⟩ := h1
    refine ⟨A, c, rfl, hc, fun hn => ?_⟩
    obtain ⟨ad, rfl, hok, hj⟩ := h2 hn
    have hb : ad.block < w.heap.size := by
      obtain ⟨x, hx⟩ : ∃ x, l[0]? = some x := ⟨l[0], by simp⟩
      obtain ⟨vs, hk, hv⟩ := hj 0 x hx
      have hl := K_len e x vs hk
      have hp := e.n_pos
      exact block_of_cell (hv 0 (vs[0]'(by omega)) (by simp))
    refine ⟨ad, rfl, (h _ hok hb).2, fun j x hx => ?_⟩
    obtain ⟨vs, hk, hv⟩ := hj j x hx
    refine ⟨vs, K_mono h e x vs hk, fun i u hu => ?_⟩
    rw [World.cell?_of_block (w := w)]
    · exact hv i u hu
    · rw [add_block]; exact (h _ hok hb).1
  | .pair a b, x, cs, h1 => by
    obtain ⟨c1, c2, rfl, h2, h3⟩ := h1
    exact ⟨c1, c2, rfl, K_mono h a _ _ h2, K_mono h b _ _ h3⟩
  | .wrap a, x, cs, h1 => K_mono h a x cs h1

/-! ### 2. Lists, one by one -/
def L2 {α β : Type} (R : α → β → Prop) : List α → List β → Prop
  | [], [] => True
  | a :: as, b :: bs => R a b ∧ L2 R as bs
  | _, _ => False

theorem L2_mono {α β : Type} {R R' : α → β → Prop} (h : ∀ a b, R a b → R' a b) : ∀ {l : List α} {m : List β}, L2 R l m → L2 R' l m
  | [], [], _ => trivial
  | _ :: _, _ :: _, h1 => ⟨h _ _ h1.1, L2_mono h h1.2⟩
  | [], _ :: _, h1 | _ :: _, [], h1 => h1.elim

theorem L2_len {α β : Type} {R : α → β → Prop} : ∀ {l : List α} {m : List β}, L2 R l m → l.length = m.length
  | [], [], _ => rfl
  | _ :: _, _ :: _, h1 => by simp [L2_len h1.2]
  | [], _ :: _, h1 | _ :: _, [], h1 => h1.elim

theorem L2_get {α β : Type} {R : α → β → Prop} : ∀ {l : List α} {m : List β} (_ : L2 R l m) {i : Nat} {a : α}, l[i]? = some a → ∃ b, m[i]? = some b ∧ R a b
  | [], [], _, i, a, h => by simp at h
  | x :: l, y :: m, h1, 0, a, h => by simp at h; subst h; exact ⟨y, rfl, h1.1⟩
  | x :: l, y :: m, h1, i + 1, a, h => by simp at h; obtain ⟨b, hb, hr⟩ := L2_get h1.2 h; exact ⟨b, by simpa using hb, hr⟩
  | [], _ :: _, h1, _, _, _ | _ :: _, [], h1, _, _, _ => h1.elim

theorem L2_append {α β : Type} {R : α → β → Prop} : ∀ {l l' : List α} {m m' : List β}, L2 R l m → L2 R l' m' → L2 R (l ++ l') (m ++ m')
  | [], _, [], _, _, h => h
  | _ :: _, _, _ :: _, _, h1, h => ⟨h1.1, L2_append h1.2 h⟩
  | [], _, _ :: _, _, h1, _ | _ :: _, _, [], _, h1, _ => h1.elim

theorem L2_drop {α β : Type} {R : α → β → Prop} : ∀ {l : List α} {m : List β} (n : Nat), L2 R l m → L2 R (l.drop n) (m.drop n)
  | _, _, 0, h => h
  | [], [], _ + 1, _ => trivial
  | _ :: _, _ :: _, n + 1, h => by simpa using L2_drop n h.2
  | [], _ :: _, _, h | _ :: _, [], _, h => h.elim

theorem L2_take {α β : Type} {R : α → β → Prop} : ∀ {l : List α} {m : List β} (n : Nat), L2 R l m → L2 R (l.take n) (m.take n)
  | _, _, 0, _ => trivial
  | [], [], _ + 1, _ => trivial
  | _ :: _, _ :: _, n + 1, h => ⟨h.1, L2_take n h.2⟩
  | [], _ :: _, _, h | _ :: _, [], _, h => h.elim

theorem L2_set {α β : Type} {R : α → β → Prop} {a : α} {b : β} (hr : R a b) : ∀ {l : List α} {m : List β} (n : Nat), L2 R l m → L2 R (l.set n a) (m.set n b)
  | [], [], _, _ => trivial
  | _ :: _, _ :: _, 0, h => ⟨hr, h.2⟩
  | _ :: _, _ :: _, n + 1, h => ⟨h.1, L2_set hr n h.2⟩
  | [], _ :: _, _, h | _ :: _, [], _, h => h.elim

/-! ### 3. Where objects lie -/
inductive Place
  | nil
  | at (b sz cap len : Nat)
  | set (S : Nat → Prop) (w : World)

/-- The blocks that an object has for itself. -/
def Place.S : Place → Nat → Prop
  | .nil, _ => False
  | .at b _ _ _, x => x = b
  | .set S _, x => S x

abbrev Phi := Nat → Option Place
abbrev Hp := List (Nat × Ob)

/-- No object's own block. -/
def okb (φ : Phi) (hp : Hp) (b : Nat) : Prop := ∀ id o p, lookA hp id = some o → φ id = some p → ¬ p.S b

def isPtr (φ : Phi) (id off : Nat) (v : Value) : Prop := ∃ b sz cap n, φ id = some (.at b sz cap n) ∧ v = .pointer (some ⟨b, off, none⟩)

def Crel (φ : Phi) (ok : Nat → Prop) (w : World) : C → Value → Prop
  | .un, _ => True
  | .sk, v => v = undef
  | .int k n, v => v = .int k n
  | .bool b, v | .sym b, v => v = .bool b
  | .str s, v => v = .string s
  | .sl e l, v => K ok w (.sl e) l [v]
  | .nils, v => v = .slice none 0 0
  | .own id len, v => (φ id = some .nil ∧ len = 0 ∧ ∃ A, v = .slice A 0 0) ∨ ∃ b sz cap n, φ id = some (.at b sz cap n) ∧ len ≤ n ∧ v = .slice (some ⟨b, 0, none⟩) len cap
  | .ptr id off, v => isPtr φ id off v
  | .elp id i off, v => ∃ b sz cap n, φ id = some (.at b sz cap n) ∧ v = .pointer (some ⟨b, i * sz + off, none⟩)
  | .nilp, v => v = .pointer none
  | .fn f caps, v => ∃ vs, v = .func (.func f) #[] (List.toArray vs) ∧ L2 (fun id u => isPtr φ id 0 u) caps vs
  | .nilf, v => v = .nilFunc
  | .map id, v => ∃ b sz cap n, φ id = some (.at b sz cap n) ∧ v = .map (some b)
  | .nilm, v => v = .map none
  | .ifn, v => v = .nilIface
  | .ife t k n, v => v = .iface t (.int k n)
  | .ifo, v => ∃ t u, v = .iface t u
  | .selfp id, v => v = .pointer none ∨ isPtr φ id 0 v
  | .yld l, v => v = .func (.yield l) #[] #[]

def tupRel (R : C → Value → Prop) (x : Bool × List C) (v : Value) : Prop :=
  if x.1 then ∃ vs, v = .agg (List.toArray vs) ∧ L2 R x.2 vs else ∃ c, x.2 = [c] ∧ R c v

def Vrel (φ : Phi) (ok : Nat → Prop) (w : World) : V → Value → Prop
  | .c x, v => Crel φ ok w x v
  | .agg l, v => ∃ vs, v = .agg (List.toArray vs) ∧ L2 (Crel φ ok w) l vs
  | .tup l, v => ∃ vs, v = .tuple (List.toArray vs) ∧ L2 (tupRel (Crel φ ok w)) l vs
  | .ipt l, v => ∃ ad vs, v = .pointer (some ad) ∧ L2 (Crel φ ok w) l vs ∧ ∀ i u, vs[i]? = some u → ok ad.block ∧ w.cell? (ad.add i) = some u

def Orel (φ : Phi) (ok : Nat → Prop) (w : World) (id : Nat) : Ob → Prop
  | .box t cs => ∃ b vs, φ id = some (.at b 1 0 0) ∧ w.heap[b]? = some (.cells (List.toArray vs) t (0, 0)) ∧ L2 (Crel φ ok w) cs vs
  | .row t e l => (φ id = some .nil ∧ l = []) ∨ ∃ b cap arr, φ id = some (.at b e.n cap (List.length (α := e.D) l)) ∧ w.heap[b]? = some (.cells arr t (0, 0)) ∧ arr.size = cap * e.n ∧ List.length (α := e.D) l ≤ cap ∧
      ∀ j (x : e.D), l[j]? = some x → ∃ vs, K ok w e x vs ∧ ∀ i u, vs[i]? = some u → arr[j * e.n + i]? = some u

  | .rowf t e l j cs => ∃ b cap arr, φ id = some (.at b e.n cap (List.length (α := e.D) l)) ∧ w.heap[b]? = some (.cells arr t (0, 0)) ∧ arr.size = cap * e.n ∧ List.length (α := e.D) l ≤ cap ∧
      (∀ q (x : e.D), q ≠ j → l[q]? = some x → ∃ vs, K ok w e x vs ∧ ∀ i u, vs[i]? = some u → arr[q * e.n + i]? = some u) ∧
      j < List.length (α := e.D) l ∧ cs.length = e.n ∧ ∃ vs, L2 (Crel φ ok w) cs vs ∧ ∀ i u, vs[i]? = some u → arr[j * e.n + i]? = some u
  | .map k v l => ∃ b es clock, φ id = some (.at b 1 0 0) ∧ w.heap[b]? = some (.map es clock) ∧ L2 (fun (x : k.D × v.D) (e : MapEntry) => K ok w k x.1 [e.key] ∧ K ok w v x.2 [e.val]) l es.toList
  | .mapc l => ∃ b es clock, φ id = some (.at b 1 0 0) ∧ w.heap[b]? = some (.map es clock) ∧ L2 (fun (x : C × C) (e : MapEntry) => Crel φ ok w x.1 e.key ∧ Crel φ ok w x.2 e.val) l es.toList
  | .amb => ∃ S w0, φ id = some (.set S w0) ∧ Gl w0 S ∧ ∀ b, S b → b < w.heap.size ∧ w.heap[b]? = w0.heap[b]?

/-- The mark of a range over a function. -/
def mkD (D : Nat) : Deferred := { target := .collected D, args := #[] }
/-- What an activation has put off: the marks of its ranges over functions alone. -/
def Dfs (B : Nat × Bool) (ok : Nat → Prop) (w : World) (ds : List Deferred) : Prop := ∃ l : List Nat, ds = l.map mkD ∧ l.Nodup ∧ (B.2 = false → l = []) ∧ ∀ D ∈ l, B.1 ≤ D ∧ w.heap[D]? = some (.deferred (some [])) ∧ ok D

structure Rel (B : Nat × Bool) (φ : Phi) (st : St) (a : Act) (w : World) : Prop where
  sz : a.tmps.size = st.n
  bs : B.1 ≤ w.heap.size
  df : Dfs B (okb φ st.hp) w a.defers
  sl : ∀ j v, lookA st.sl j = some v → Vrel φ (okb φ st.hp) w v (a.tmps.getD j undef)
  ob : ∀ id o, lookA st.hp id = some o → Orel φ (okb φ st.hp) w id o
  fr : ∀ id, st.nx ≤ id → φ id = none
  dj : ∀ i j o o' p q b, lookA st.hp i = some o → lookA st.hp j = some o' → i ≠ j → φ i = some p → φ j = some q → p.S b → ¬ q.S b

/-- How memory goes on: what no object had for itself stays as it was. -/
structure Evo (φ : Phi) (hp : Hp) (w : World) (φ' : Phi) (hp' : Hp) (w' : World) : Prop where
  os : w'.os = w.os
  tape : w'.tape = w.tape
  output : w'.output = w.output
  size : w.heap.size ≤ w'.heap.size
  ph : ∀ id p, φ id = some p → φ' id = some p
  ow : ∀ id o p b, lookA hp' id = some o → φ' id = some p → p.S b → w.heap.size ≤ b ∨ ¬ okb φ hp b
  bl : ∀ b, b < w.heap.size → okb φ hp b → w'.heap[b]? = w.heap[b]?

section
variable {φ φ' φ'' : Phi} {hp hp' hp'' : Hp} {w w' w'' : World}

theorem Evo.refl (φ : Phi) (hp : Hp) (w : World) : Evo φ hp w φ hp w :=
  ⟨rfl, rfl, rfl, Nat.le_refl _, fun _ _ h => h, fun id o p b h1 h2 h3 => .inr (fun h => h id o p h1 h2 h3), fun _ _ _ => rfl⟩

theorem Evo.ok (h : Evo φ hp w φ' hp' w') {b : Nat} (hb : okb φ hp b) (hl : b < w.heap.size) : okb φ' hp' b := fun id o p h1 h2 h3 => by
  rcases h.ow id o p b h1 h2 h3 with h4 | h4
  · omega
  · exact h4 hb

theorem Evo.trans (h : Evo φ hp w φ' hp' w') (k : Evo φ' hp' w' φ'' hp'' w'') : Evo φ hp w φ'' hp'' w'' where
  os := k.os.trans h.os
  tape := k.tape.trans h.tape
  output := k.output.trans h.output
  size := Nat.le_trans h.size k.size
  ph := fun id p hp => k.ph id p (h.ph id p hp)
  ow := fun id o p b h1 h2 h3 => by
    rcases k.ow id o p b h1 h2 h3 with h4 | h4
    · exact .inl (Nat.le_trans h.size h4)
    · by_cases hl : w.heap.size ≤ b
      · exact .inl hl
      · exact .inr fun hb => h4 (h.ok hb (by omega))
  bl := fun b hl hb => (k.bl b (Nat.lt_of_lt_of_le hl h.size) (h.ok hb hl)).trans (h.bl b hl hb)

theorem Evo.K (h : Evo φ hp w φ' hp' w') (t : Ty) (x : t.D) (cs : List Value) (hk : K (okb φ hp) w t x cs) : K (okb φ' hp') w' t x cs :=
  K_mono (fun b hb hl => ⟨h.bl b hl hb, h.ok hb hl⟩) t x cs hk

theorem isPtr_evo (h : ∀ id p, φ id = some p → φ' id = some p) {id off : Nat} {v : Value} (hp : isPtr φ id off v) : isPtr φ' id off v := by
  obtain ⟨b, sz, cap, n, h1, h2⟩ := hp; exact ⟨b, sz, cap, n, h _ _ h1, h2⟩

theorem Evo.C (h : Evo φ hp w φ' hp' w') {x : C} {v : Value} (hc : Crel φ (okb φ hp) w x v) : Crel φ' (okb φ' hp') w' x v := by
  cases x with
  | sl e l => exact h.K _ _ _ hc
  | own id len =>
    rcases hc with ⟨h1, h2, h3⟩ | ⟨b, sz, cap, n, h1, h2⟩
    · exact .inl ⟨h.ph _ _ h1, h2, h3⟩
    · exact .inr ⟨b, sz, cap, n, h.ph _ _ h1, h2⟩
  | ptr id off => exact isPtr_evo h.ph hc
  | selfp id => exact hc.imp (fun h => h) (fun hc => isPtr_evo h.ph hc)
  | elp id i off => obtain ⟨b, sz, cap, n, h1, h2⟩ := hc; exact ⟨b, sz, cap, n, h.ph _ _ h1, h2⟩
  | fn f caps => obtain ⟨vs, h1, h2⟩ := hc; exact ⟨vs, h1, L2_mono (fun _ _ hh => isPtr_evo h.ph hh) h2⟩
  | map id => obtain ⟨b, sz, cap, n, h1, h2⟩ := hc; exact ⟨b, sz, cap, n, h.ph _ _ h1, h2⟩
  | _ => exact hc

theorem Evo.V (h : Evo φ hp w φ' hp' w') {x : V} {v : Value} (hc : Vrel φ (okb φ hp) w x v) : Vrel φ' (okb φ' hp') w' x v := by
  cases x with
  | c x => exact h.C hc
  | agg l => obtain ⟨vs, h1, h2⟩ := hc; exact ⟨vs, h1, L2_mono (fun _ _ hh => h.C hh) h2⟩
  | tup l =>
    obtain ⟨vs, h1, h2⟩ := hc
    refine ⟨vs, h1, L2_mono (fun y u hh => ?_) h2⟩
    unfold tupRel at hh ⊢
    split at hh
    · rename_i hy
      rw [if_pos hy]
      obtain ⟨us, e, hh⟩ := hh
      exact ⟨us, e, L2_mono (fun _ _ hh => h.C hh) hh⟩
    · rename_i hy
      rw [if_neg hy]
      obtain ⟨c, e, hh⟩ := hh
      exact ⟨c, e, h.C hh⟩
  | ipt l =>
    obtain ⟨ad, vs, h1, h2, h3⟩ := hc
    refine ⟨ad, vs, h1, L2_mono (fun _ _ hh => h.C hh) h2, fun i u hu => ?_⟩
    obtain ⟨hok, hcell⟩ := h3 i u hu
    have hl := block_of_cell hcell
    refine ⟨h.ok hok hl, ?_⟩
    rw [World.cell?_of_block (w := w)]
    · exact hcell
    · rw [add_block]; exact h.bl _ hl hok

theorem Evo.D (h : Evo φ hp w φ' hp' w') {B : Nat × Bool} {ds : List Deferred} (hd : Dfs B (okb φ hp) w ds) : Dfs B (okb φ' hp') w' ds := by
  obtain ⟨l, h1, h2, h4, h3⟩ := hd
  refine ⟨l, h1, h2, h4, fun D hm => ?_⟩
  obtain ⟨q1, q2, q3⟩ := h3 D hm
  have hl : D < w.heap.size := (Array.getElem?_eq_some_iff.1 q2).1
  exact ⟨q1, by rw [h.bl D hl q3]; exact q2, h.ok q3 hl⟩

theorem Dfs.mono {B : Nat × Bool} {ok ok' : Nat → Prop} {w : World} {ds : List Deferred} (h : Dfs B ok w ds) (hk : ∀ b, ok b → ok' b) : Dfs B ok' w ds := by
  obtain ⟨l, h1, h2, h4, h3⟩ := h
  exact ⟨l, h1, h2, h4, fun D hm => ⟨(h3 D hm).1, (h3 D hm).2.1, hk D (h3 D hm).2.2⟩⟩

theorem Dfs.nil (B : Nat × Bool) (ok : Nat → Prop) (w : World) : Dfs B ok w [] := ⟨[], rfl, List.nodup_nil, fun _ => rfl, fun _ h => by cases h⟩

/-- Nothing is written: memory is made. -/
theorem Evo.below (hb : Go.RowKit.Below w.heap.size w w') (hph : ∀ id p, φ id = some p → φ' id = some p)
    (how : ∀ id o p b, lookA hp' id = some o → φ' id = some p → p.S b → w.heap.size ≤ b ∨ ¬ okb φ hp b) : Evo φ hp w φ' hp' w' :=
  ⟨hb.os, hb.tape, hb.output, hb.size, hph, how, fun b hl _ => hb.block b hl⟩
end
end Go.VM
set_option autoImplicit false
set_option linter.all false
namespace Go.VM
open Go

/-! ### 1. Leaves -/
structure Lv where
  ar : BinOp → IntKind → Int → Int → Int
  dv : BinOp → IntKind → Int → Int → Int
  shf : BinOp → IntKind → Int → Int → Int
  cmp : BinOp → Int → Int → Bool
  conv : IntKind → Int → Int
  mn : Int → Int → Int
  mx : Int → Int → Int
  beq : Bool → Bool → Bool
  bnot : Bool → Bool
  band : Bool → Bool → Bool
  scat : ByteArray → ByteArray → ByteArray
  scmp : BinOp → ByteArray → ByteArray → Bool
  byte : ByteArray → Int → Int
  ext : ByteArray → Nat → Nat → ByteArray
  slen : ByteArray → Nat
  strOf : List Int → ByteArray
  bytes : ByteArray → List Int
  llen : (e : Ty) → List e.D → Nat
  get : (e : Ty) → List e.D → Nat → e.D
  setl : (e : Ty) → List e.D → Nat → e.D → List e.D
  app : (e : Ty) → List e.D → List e.D → List e.D
  take : (e : Ty) → List e.D → Nat → List e.D
  drop : (e : Ty) → List e.D → Nat → List e.D
  rep : (e : Ty) → Nat → e.D → List e.D
  mhas : (k v : Ty) → List (k.D × v.D) → k.D → Bool
  mval : (k v : Ty) → List (k.D × v.D) → k.D → v.D
  mput : (k v : Ty) → List (k.D × v.D) → k.D → v.D → List (k.D × v.D)
  cast : Nat → Int
  toN : Int → Nat
  sub : Nat → Nat → Nat
  add : Nat → Nat → Nat
  inR : Int → Nat → Prop          -- an index of so many
  le3 : Int → Int → Nat → Prop    -- bounds of a slice
  leN : Nat → Nat → Prop
  ltN : Nat → Nat → Prop
  ne0 : Int → Prop
  nonneg : Int → Prop
  catOk : ByteArray → ByteArray → Prop
  room : Nat → Nat → Prop         -- so many elements of so many bytes find room
  mkOk : Int → Int → Nat → Prop
  nth : (α : Type) → List α → Nat → α → Prop
  cnt : (α : Type) → List α → Nat

def byteAt (s : ByteArray) (i : Int) : Int := if h : i.toNat < s.size then ((s[i.toNat]'h).toNat : Int) else 0
def bytesOf (s : ByteArray) : List Int := s.data.toList.map fun b => (b.toNat : Int)
def strOfL (l : List Int) : ByteArray := ⟨(l.map fun n => UInt8.ofNat n.toNat).toArray⟩
def arith (op : BinOp) (k : IntKind) (x y : Int) : Int :=
  match op with
  | .add => k.wrap (x + y)
  | .sub => k.wrap (x - y)
  | .mul => k.wrap (x * y)
  | .and => k.wrap (BitVec.ofInt k.bits x &&& BitVec.ofInt k.bits y).toNat
  | .or => k.wrap (BitVec.ofInt k.bits x ||| BitVec.ofInt k.bits y).toNat
  | .xor => k.wrap (BitVec.ofInt k.bits x ^^^ BitVec.ofInt k.bits y).toNat
  | _ => k.wrap (BitVec.ofInt k.bits x &&& ~~~(BitVec.ofInt k.bits y)).toNat
def divide (op : BinOp) (k : IntKind) (x y : Int) : Int :=
  match op with
  | .quo => k.wrap (x.tdiv y)
  | _ => x.tmod y
def shift (op : BinOp) (k : IntKind) (x y : Int) : Int :=
  match op with
  | .shl => k.wrap (x * 2 ^ (min y.toNat k.bits))
  | _ => x.fdiv (2 ^ (min y.toNat k.bits))
def compare (op : BinOp) (x y : Int) : Bool :=
  match op with
  | .eql => x == y
  | .neq => x != y
  | .lss => x < y
  | .leq => x ≤ y
  | .gtr => x > y
  | _ => x ≥ y
def scompare (op : BinOp) (x y : ByteArray) : Bool :=
  let eq := x.toList == y.toList
  let lt := Op.bytesLess x.toList y.toList
  match op with
  | .eql => eq
  | .neq => !eq
  | .lss => lt
  | .leq => lt || eq
  | .gtr => !(lt || eq)
  | _ => !lt

def keq : (k : Ty) → k.D → k.D → Bool
  | .int _, a, b => let a : Int := a; let b : Int := b; a == b
  | .str, a, b => let a : ByteArray := a; let b : ByteArray := b; a == b
  | _, _, _ => false
def mhasL (k v : Ty) (l : List (k.D × v.D)) (x : k.D) : Bool := l.any fun p => keq k x p.1
def mvalL (k v : Ty) : List (k.D × v.D) → k.D → v.D
  | [], _ => v.dflt
  | p :: r, x => if keq k x p.1 then p.2 else mvalL k v r x
def mputL (k v : Ty) : List (k.D × v.D) → k.D → v.D → List (k.D × v.D)
  | [], x, y => [(x, y)]
  | p :: r, x, y => if keq k x p.1 then (x, y) :: r else p :: mputL k v r x y

def Lv.std : Lv where
  ar := arith
  dv := divide
  shf := shift
  cmp := compare
  conv := fun k n => k.wrap n
  mn := fun x y => if y < x then y else x
  mx := fun x y => if y > x then y else x
  beq := fun a b => a == b
  bnot := fun a => !a
  band := fun a b => a && b
  scat := fun a b => a ++ b
  scmp := scompare
  byte := byteAt
  ext := fun s a b => s.extract a b
  slen := fun s => s.size
  strOf := strOfL
  bytes := bytesOf
  llen := fun _ l => l.length
  get := fun e l i => (l[i]?).getD e.dflt
  setl := fun _ l i x => l.set i x
  app := fun _ a b => a ++ b
  take := fun _ l n => l.take n
  drop := fun _ l n => l.drop n
  rep := fun _ n x => List.replicate n x
  mhas := mhasL
  mval := mvalL
  mput := mputL
  cast := fun n => (n : Int)
  toN := Int.toNat
  sub := fun a b => a - b
  add := fun a b => a + b
  inR := fun i n => 0 ≤ i ∧ i < (n : Int)
  le3 := fun a b n => 0 ≤ a ∧ a ≤ b ∧ b ≤ (n : Int)
  leN := fun a b => a ≤ b
  ltN := fun a b => a < b
  ne0 := fun y => y ≠ 0
  nonneg := fun y => 0 ≤ y
  catOk := fun a b => a.size + b.size ≤ 9223372036854775807
  room := fun n b => n ≤ 140737488355328 ∧ n * b ≤ 140737488355328
  mkOk := fun n c b => 0 ≤ n ∧ n ≤ c ∧ c ≤ 140737488355328 ∧ c * b ≤ 140737488355328
  nth := fun _ l i y => l[i]? = some y
  cnt := fun _ l => l.length

/-! ### 2. The types of a program, as far as they are needed -/
inductive Z | int (k : IntKind) | bool | str | sl | ptr | fn | map | ifc | slf
  deriving DecidableEq
def Z.val : Z → Value
  | .int k => .int k 0
  | .bool => .bool false
  | .str => .string .empty
  | .sl => .slice none 0 0
  | .ptr => .pointer none
  | .fn => .nilFunc
  | .map => .map none
  | .ifc => .nilIface
  | .slf => .pointer none
def Z.c : Z → C
  | .int k => .int k 0
  | .bool => .bool false
  | .str => .str .empty
  | .sl => .nils
  | .ptr => .nilp
  | .fn => .nilf
  | .map => .nilm
  | .ifc => .ifn
  | .slf => .nilp
/-- In a variable of the object f: a pointer that is nil, or points to that variable. -/
def Z.cAt (f : Nat) : Z → C
  | .slf => .selfp f
  | z => z.c

inductive Kd
  | int (k : IntKind) | bool | str | sl (e : TypeId) | st (fs : List (Nat × TypeId)) | ptr (e : TypeId) | fn | map (k e : TypeId) | arr (n : Nat) (e : TypeId) | ifc (ts : List TypeId)
  deriving DecidableEq

structure TI where
  kd : Kd
  size : Nat
  bytes : Nat
  zero : List Z
  ty : Ty

def Kd.isAgg : Kd → Bool
  | .st _ | .arr _ _ => true
  | _ => false

/-- What a row of the table says of the program. -/
structure TIok (P : Program) (t : TypeId) (i : TI) : Prop where
  info : ∃ x, P.info? t = some x ∧ x.size = i.size ∧ x.bytes = i.bytes ∧ x.zero.map (fun z => z.cells.toList) = some (i.zero.map Z.val)
  zsz : i.zero.length = i.size
  za : i.kd.isAgg = false → ∀ x z, P.info? t = some x → x.zero = some z → z.oneCell' = true
  ne : 0 < i.size
  one : i.kd.isAgg = false → i.size = 1
  und : match i.kd with
    | .int k => P.underlying t = some (.int k)
    | .bool => P.underlying t = some .bool
    | .str => P.underlying t = some .string
    | .sl e => P.underlying t = some (.slice e)
    | .st fs => ∃ a : Array Field, P.underlying t = some (.struct a) ∧ a.toList.map (fun f => (f.offset, f.type)) = fs ∧ a.toList.all (fun f => f.name != "_") = true ∧ P.stoodInHeld t = false ∧ P.eqGuardType P.depth t = false
    | .ptr e => P.underlying t = some (.pointer e)
    | .fn => ∃ a b c, P.underlying t = some (.func a b c)
    | .map k e => P.underlying t = some (.map k e)
    | .arr n e => P.underlying t = some (.array n e)
    | .ifc ts => ∃ ms, P.underlying t = some (.interface ms) ∧ ∀ x ∈ ts, (P.info? x).map (·.comparable) = some true ∧ ∃ q, P.underlying x = some (.int q)

/-! ### 3. Typed data as cells, and cells as typed data -/
def expl : (t : Ty) → t.D → List C
  | .int k, x => [.int k x]
  | .bool, x => [.sym x]
  | .str, x => [.str x]
  | .sl e, l => [.sl e l]
  | .pair a b, x => expl a x.1 ++ expl b x.2
  | .wrap a, x => expl a x

abbrev H := Nat → Option Ob

def castL {e e' : Ty} (h : e = e') (l : List e.D) : List e'.D := h ▸ l

/-- Cells as a datum: the datum, what is left, and the ids of the rows that it is made of. -/
def vInt (k : IntKind) : List C → Option (Int × List C × List Nat)
  | .int k' n :: r => if k = k' then some (n, r, []) else none
  | _ => none
def vBool : List C → Option (Bool × List C × List Nat)
  | .bool b :: r | .sym b :: r => some (b, r, [])
  | _ => none
def vStr : List C → Option (ByteArray × List C × List Nat)
  | .str s :: r => some (s, r, [])
  | _ => none
def vRow (L : Lv) (e : Ty) (vw : List C → Option (e.D × List C × List Nat)) (id n : Nat) : Option Ob → Option (List e.D × List Nat)
  | some (.row _ e' l) => if q : e' = e then some (L.take e (castL q l) n, [id]) else none
  | some (.rowf _ e' l j cs) => if q : e' = e then match vw cs with
      | some (y, [], ids) => some (L.take e (L.setl e (castL q l) j y) n, id :: ids)
      | _ => none
    else none
  | _ => none
def vSl (L : Lv) (h : H) (e : Ty) (vw : List C → Option (e.D × List C × List Nat)) : List C → Option (List e.D × List C × List Nat)
  | .sl e' l :: r => if q : e' = e then some (castL q l, r, []) else none
  | .nils :: r => some ([], r, [])
  | .own id n :: r => match vRow L e vw id n (h id) with
    | some (l, ids) => some (l, r, ids)
    | none => none
  | _ => none
def view (L : Lv) (h : H) : (t : Ty) → List C → Option (t.D × List C × List Nat)
  | .int k, cs => vInt k cs
  | .bool, cs => vBool cs
  | .str, cs => vStr cs
  | .sl e, cs => vSl L h e (view L h e) cs
  | .pair a b, cs => match view L h a cs with
    | some (x, r, i) => match view L h b r with
      | some (y, r', j) => some ((x, y), r', i ++ j)
      | none => none
    | none => none
  | .wrap a, cs => view L h a cs

/-! ### 4. Operands -/
def absC : Value → C
  | .int k n => .int k n
  | .bool b => .bool b
  | .string s => .str s
  | .slice none 0 0 => .nils
  | .pointer none => .nilp
  | .nilFunc => .nilf
  | .map none => .nilm
  | .nilIface => .ifn
  | _ => .un
def absV : Value → V
  | .agg cs => .agg (cs.toList.map absC)
  | v => .c (absC v)

def St.ev (st : St) : Operand → V
  | .tmp t => st.look t
  | .const v => absV v
  | .global _ => .c .un
  | .func f => .c (.fn f [])

/-! ### 5. What an operation yields -/
inductive FR
  | v (x : V)
  | b (c : Bool)
  | amb
  | br (c : Bool) (t f : FR)
  | o (p : Prop) (r : FR)
  | new (x : V) (news : List Ob) (kill : List Nat)
  | upd (id : Nat) (o : Ob) (kill : List Nat)
  | bad

def mkV (agg : Bool) (cs : List C) : FR :=
  if agg then .v (.agg cs) else match cs with
    | [x] => .v (.c x)
    | _ => .bad

def opOk : BinOp → Bool
  | .add | .sub | .mul | .and | .or | .xor | .andNot => true
  | _ => false
def opCmp : BinOp → Bool
  | .eql | .neq | .lss | .leq | .gtr | .geq => true
  | _ => false

abbrev Ev := TypeId → Option TI

def isKd (E : Ev) (t : TypeId) (k : Kd) : Bool := match E t with
  | some i => decide (i.kd = k)
  | none => false
def isSl (E : Ev) (t : TypeId) : Bool := match E t with
  | some i => match i.kd with
    | .sl _ => true
    | _ => false
  | none => false
/-- '==' of structs all of whose fields are numbers, strings, Bools, one cell each, in their order. -/
def boolC : C → Option Bool
  | .bool b | .sym b => some b
  | _ => none
def eqSt (L : Lv) (E : Ev) : Nat → List (Nat × TypeId) → List C → List C → Option Bool
  | _, [], [], [] => some true
  | k, (off, t) :: fs, x :: r, y :: r' => if Nat.beq off k then match E t with
      | some q => match eqSt L E (k + 1) fs r r' with
        | some c => match q.kd with
          | .int _ => match x, y with
            | .int k1 n, .int k2 m => if k1 = k2 then some (L.band (L.cmp .eql n m) c) else none
            | _, _ => none
          | .str => match x, y with
            | .str n, .str m => some (L.band (L.scmp .eql n m) c)
            | _, _ => none
          | .bool => match boolC x, boolC y with
            | some n, some m => some (L.band (L.beq n m) c)
            | _, _ => none
          | _ => none
        | none => none
      | none => none
    else none
  | _, _, _, _ => none
def eqAgg (L : Lv) (E : Ev) (t : TypeId) (a b : List C) : Option Bool := match E t with
  | some i => match i.kd with
    | .st fs => eqSt L E 0 fs a b
    | _ => none
  | none => none

/-- Is it an interface's type that may hold such numbers? -/
def isIfc (E : Ev) (t : TypeId) : Bool := match E t with
  | some i => match i.kd with
    | .ifc _ => true
    | _ => false
  | none => false
def isIfcOf (E : Ev) (t x : TypeId) : Bool := match E t with
  | some i => match i.kd with
    | .ifc ts => ts.any (Nat.beq x)
    | _ => false
  | none => false
/-- Against the literal nil. -/
def isNilLit : Operand → Bool
  | .const .nilIface => true
  | _ => false
def isNilC : V → Option Bool
  | .c .ifn => some true
  | .c (.ife _ _ _) | .c .ifo => some false
  | _ => none
def fnil (E : Ev) (op : BinOp) (t : TypeId) (x y : V) : FR := match isIfc E t, isNilC y, op, isNilC x with
  | true, some true, .eql, some b => .v (.c (.bool b))
  | true, some true, .neq, some b => .v (.c (.bool (!b)))
  | _, _, _, _ => .bad
def fmki (E : Ev) (t : TypeId) (x : V) : FR := match E t with
  | some i => match i.kd, x with
    | .int _, .c (.int k n) => .v (.c (.ife t k n))
    | .ptr _, _ => .v (.c .ifo)
    | _, _ => .bad
  | none => .bad

def fbin (L : Lv) (E : Ev) (op : BinOp) (t : TypeId) (x y : V) : FR :=
  match x, y with
  | .c (.int k a), .c (.int k' b) =>
    match op with
    | .shl | .shr => .o (L.nonneg b) (.v (.c (.int k (L.shf op k a b))))
    | .quo | .rem => if k = k' then .o (L.ne0 b) (.v (.c (.int k (L.dv op k a b)))) else .bad
    | _ => if k = k' then (if opOk op then .v (.c (.int k (L.ar op k a b))) else .b (L.cmp op a b)) else .bad
  | .c (.str a), .c (.str b) =>
    match op with
    | .add => .o (L.catOk a b) (.v (.c (.str (L.scat a b))))
    | _ => if opCmp op then .b (L.scmp op a b) else .bad
  | .c (.bool a), .c (.bool b) | .c (.sym a), .c (.bool b) | .c (.bool a), .c (.sym b) | .c (.sym a), .c (.sym b) =>
    if isKd E t .bool then match op with
      | .eql => .b (L.beq a b)
      | .neq => .b (L.bnot (L.beq a b))
      | _ => .bad
    else .bad
  | .c .nils, .c .nils => if isSl E t then match op with
      | .eql => .v (.c (.bool true))
      | .neq => .v (.c (.bool false))
      | _ => .bad
    else .bad
  | .c (.sl _ _), .c .nils | .c (.own _ _), .c .nils => if isSl E t then match op with
      | .eql | .neq => .amb
      | _ => .bad
    else .bad
  | .c (.ife t1 k a), .c (.ife t2 k' b) => if isIfcOf E t t1 && Nat.beq t1 t2 && decide (k = k') then match op with
      | .eql => .b (L.cmp .eql a b)
      | .neq => .b (L.bnot (L.cmp .eql a b))
      | _ => .bad
    else .bad
  | .agg a, .agg b => match op, eqAgg L E t a b with
      | .eql, some c => .b c
      | .neq, some c => .b (L.bnot c)
      | _, _ => .bad
  | _, _ => .bad

def knownV : V → Bool
  | .c .un | .c .sk => false
  | .c _ => true
  | .agg _ => true
  | _ => false

/-- Cells put in the place of others. -/
def putL {α : Type} (l : List α) (off : Nat) (xs : List α) : List α := l.take off ++ xs ++ l.drop (off + xs.length)

def szOf (E : Ev) (t : TypeId) : Nat := match E t with
  | some i => i.size
  | none => 0

def fieldOf (E : Ev) (t : TypeId) (f : Nat) : Option (Nat × TypeId) := match E t with
  | some i => match i.kd with
    | .st fs => fs[f]?
    | _ => none
  | none => none

def elemOf (E : Ev) (t : TypeId) : Option TypeId := match E t with
  | some i => match i.kd with
    | .sl e => some e
    | _ => none
  | none => none

def arrOf (E : Ev) (t : TypeId) : Option (Nat × TypeId) := match E t with
  | some i => match i.kd with
    | .arr n e => some (n, e)
    | _ => none
  | none => none
def arrFs (sz : Nat) (e : TypeId) : Nat → Nat → List (Nat × TypeId)
  | _, 0 => []
  | k, n + 1 => (k * sz, e) :: arrFs sz e (k + 1) n

/-- The parts of a struct, laid one by one. -/
def fillC (E : Ev) (fs : List (Nat × TypeId)) : List C → List (Nat × V) → Option (List C)
  | cs, [] => some cs
  | cs, (i, v) :: r => match fs[i]? with
    | some (off, t) => if Nat.blt 0 (szOf E t) && knownV v && Nat.beq v.cells.length (szOf E t) && Nat.ble (off + v.cells.length) cs.length then fillC E fs (putL cs off v.cells) r else none
    | none => none

def fbuild (E : Ev) (t : TypeId) (parts : List (Nat × V)) : FR := match E t with
  | some i => match i.kd with
    | .st fs => if fs.all (fun p => Nat.blt 0 (szOf E p.2)) then match fillC E fs (i.zero.map Z.c) parts with
        | some cs => .v (.agg cs)
        | none => .bad
      else .bad
    | .arr n e => if Nat.blt 0 (szOf E e) then match fillC E (arrFs (szOf E e) e 0 n) (i.zero.map Z.c) parts with
        | some cs => .v (.agg cs)
        | none => .bad
      else .bad
    | _ => .bad
  | none => .bad

/-- The elements of a literal, in their order: each named once, from 0 on. -/
def litC (L : Lv) (h : H) (e : Ty) : Nat → List (Nat × V) → Option (List e.D × List Nat)
  | _, [] => some ([], [])
  | k, (i, v) :: r => if Nat.beq i k && knownV v then match view L h e v.cells with
      | some (x, [], ids) => match litC L h e (k + 1) r with
        | some (l, ids') => some (x :: l, ids ++ ids')
        | none => none
      | _ => none
    else none

def fbuildSlice (L : Lv) (E : Ev) (h : H) (f : Nat) (t : TypeId) (len : Nat) (parts : List (Nat × V)) : FR := match elemOf E t with
  | some et => match E et with
    | some i => if Nat.beq i.ty.n i.size && Nat.beq parts.length len && Nat.ble (len * i.size) 16777216 then match litC L h i.ty 0 parts with
        | some (l, ids) => .new (.c (.own f len)) [.row et i.ty l] ids
        | none => .bad
      else .bad
    | none => .bad
  | none => .bad

def fload (L : Lv) (E : Ev) (h : H) (t : TypeId) (a : V) : FR := match E t with
  | some i => match a with
    | .c (.ptr id off) => match h id with
      | some (.box _ cs) => if Nat.ble (off + i.size) cs.length then mkV i.kd.isAgg ((cs.drop off).take i.size) else .bad
      | _ => .bad
    | .c (.elp id j off) => match h id with
      | some (.row _ e l) => let cs := expl e (L.get e l j); if Nat.ble (off + i.size) e.n then .o (L.ltN j (L.llen e l)) (mkV i.kd.isAgg ((cs.drop off).take i.size)) else .bad
      | some (.rowf _ e _ q cs) => if Nat.ble (off + i.size) e.n then .o (j = q) (mkV i.kd.isAgg ((cs.drop off).take i.size)) else .bad
      | _ => .bad
    | .ipt cs => if Nat.ble i.size cs.length then mkV i.kd.isAgg (cs.take i.size) else .bad
    | _ => .bad
  | none => .bad

def ffieldAddr (E : Ev) (s : TypeId) (a : V) (f : Nat) : FR := match fieldOf E s f with
  | some (off, t) => if Nat.blt 0 (szOf E t) then match a with
      | .c (.ptr id o) => .v (.c (.ptr id (o + off)))
      | .c (.elp id j o) => .v (.c (.elp id j (o + off)))
      | .ipt cs => .v (.ipt (cs.drop off))
      | _ => .bad
    else .bad
  | none => .bad

def ffield (E : Ev) (s : TypeId) (x : V) (f : Nat) : FR := match fieldOf E s f with
  | some (off, t) => match E t with
    | some i => match x with
      | .agg cs => if Nat.ble (off + i.size) cs.length then mkV i.kd.isAgg ((cs.drop off).take i.size) else .bad
      | _ => .bad
    | none => .bad
  | none => .bad

/-- The places of an array's elements: which one, is asked of the index. -/
def farr (L : Lv) (n : Int) (id off sz : Nat) : Nat → Nat → FR
  | _, 0 => .bad
  | j, r + 1 => .br (L.cmp .eql n (Int.ofNat j)) (.v (.c (.ptr id (off + j * sz)))) (farr L n id off sz (j + 1) r)
def findexArr (L : Lv) (E : Ev) (t : TypeId) (x i : V) : FR := match arrOf E t with
  | some (m, et) => match x, i with
    | .c (.ptr id off), .c (.int _ n) => if Nat.blt 0 (szOf E et) then .o (L.inR n m) (farr L n id off (szOf E et) 0 m) else .bad
    | _, _ => .bad
  | none => .bad
def findexAddr (L : Lv) (E : Ev) (h : H) (t : TypeId) (x i : V) : FR := match elemOf E t with
  | some et => match x, i with
    | .c (.own id len), .c (.int _ n) => match h id with
      | some (.row _ e _) | some (.rowf _ e _ _ _) => if Nat.beq e.n (szOf E et) then .o (L.inR n len) (.v (.c (.elp id (L.toN n) 0))) else .bad
      | _ => .bad
    | .c (.sl e l), .c (.int _ n) => if Nat.beq e.n (szOf E et) then .o (L.inR n (L.llen e l)) (.v (.ipt (expl e (L.get e l (L.toN n))))) else .bad
    | _, _ => .bad
  | none => findexArr L E t x i

def findex (L : Lv) (E : Ev) (t : TypeId) (x i : V) : FR := match E t, x, i with
  | some q, .c (.str s), .c (.int _ n) => match q.kd with
    | .str => .o (L.inR n (L.slen s)) (.v (.c (.int .u8 (L.byte s n))))
    | _ => .bad
  | _, _, _ => .bad

def bound (dflt : Int) : Option V → Option Int
  | none => some dflt
  | some (.c (.int _ n)) => some n
  | _ => none

def fslice (L : Lv) (E : Ev) (h : H) (t : TypeId) (x : V) (lo hi : Option V) : FR := match E t with
  | some q => match q.kd, x with
    | .str, .c (.str s) => match bound (L.cast 0) lo, bound (L.cast (L.slen s)) hi with
      | some a, some b => .o (L.le3 a b (L.slen s)) (.v (.c (.str (L.ext s (L.toN a) (L.toN b)))))
      | _, _ => .bad
    | .sl et, .c (.sl e l) => if Nat.beq e.n (szOf E et) then match bound (L.cast 0) lo, bound (L.cast (L.llen e l)) hi with
        | some a, some b => .o (L.le3 a b (L.llen e l)) (.v (.c (.sl e (L.drop e (L.take e l (L.toN b)) (L.toN a)))))
        | _, _ => .bad
      else .bad
    | .sl et, .c (.own id len) => match h id with
      | some (.row _ e l) => if Nat.beq e.n (szOf E et) then match lo with
          | none => match bound (L.cast len) hi with
            | some b => .o (L.le3 (L.cast 0) b len) (.v (.c (.own id (L.toN b))))
            | _ => .bad
          | some lo => match bound (L.cast 0) (some lo), bound (L.cast len) hi with
            | some a, some b => .o (L.le3 a b len) (.new (.c (.sl e (L.drop e (L.take e l (L.toN b)) (L.toN a)))) [] [id])
            | _, _ => .bad
        else .bad
      | _ => .bad
    | _, _ => .bad
  | none => .bad

def funop (L : Lv) (op : UnOp) (x : V) : FR := match op, x with
  | .not, .c (.bool b) => .v (.c (.bool (!b)))
  | .not, .c (.sym b) => .v (.c (.sym (L.bnot b)))
  | .neg, .c (.int k n) => .v (.c (.int k (L.ar .sub k 0 n)))
  | _, _ => .bad

def fconvert (L : Lv) (E : Ev) (h : H) (src dst : TypeId) (x : V) : FR := match E src, E dst, x with
  | some _, some d, .c (.int _ n) => match d.kd with
    | .int k => .v (.c (.int k (L.conv k n)))
    | _ => .bad
  | some _, some d, .c (.str s) => match d.kd with
    | .str => .v (.c (.str s))
    | _ => .bad
  | some s, some d, .c (.sl (.int .u8) l) => match s.kd, d.kd with
    | .sl e, .str => if E e |>.any (fun i => decide (i.kd = .int .u8)) then .v (.c (.str (L.strOf l))) else .bad
    | _, _ => .bad
  | some s, some d, .c (.own id len) => match s.kd, d.kd with
    | .sl e, .str => if E e |>.any (fun i => decide (i.kd = .int .u8)) then match h id with
        | some (.row _ (.int .u8) l) => .v (.c (.str (L.strOf (L.take (.int .u8) l len))))
        | _ => .bad
      else .bad
    | _, _ => .bad
  | _, _, _ => .bad

def falloc (E : Ev) (f : Nat) (t : TypeId) : FR := match E t with
  | some i => .new (.c (.ptr f 0)) [.box t (i.zero.map (Z.cAt f))] []
  | none => .bad

def fbox (f : Nat) (t : TypeId) (x : V) : FR := if knownV x then .new (.c (.ptr f 0)) [.box t x.cells] [] else .bad

def ptrIds : List V → Option (List Nat)
  | [] => some []
  | .c (.ptr id 0) :: r => (ptrIds r).map (id :: ·)
  | _ => none

def zeroTy : Ty → List Z
  | .int k => [.int k]
  | .bool => [.bool]
  | .str => [.str]
  | .sl _ => [.sl]
  | .pair a b => zeroTy a ++ zeroTy b
  | .wrap a => zeroTy a

def fmakeSlice (L : Lv) (E : Ev) (f : Nat) (t : TypeId) (x y : V) : FR := match elemOf E t with
  | some et => match E et, x, y with
    | some i, .c (.int _ n), .c (.int _ m) =>
      if decide (zeroTy i.ty = i.zero) then .o (L.mkOk n m i.bytes) (.new (.c (.own f (L.toN n))) [.row et i.ty (L.rep i.ty (L.toN n) i.ty.dflt)] []) else .bad
    | _, _, _ => .bad
  | none => .bad

/-- What is appended, as a list; and what it is appended to. -/
def fsrc (L : Lv) (h : H) (e : Ty) : V → Option (List e.D)
  | .c (.sl e' l) => if q : e' = e then some (castL q l) else none
  | .c .nils => some []
  | .c (.own id n) => match h id with
    | some (.row _ e' l) => if q : e' = e then some (L.take e (castL q l) n) else none
    | _ => none
  | .c (.str s) => if q : Ty.int .u8 = e then some (castL q (L.bytes s)) else none
  | _ => none
def fbase (L : Lv) (h : H) (et : TypeId) (e : Ty) : V → Option (List e.D × List Nat)
  | .c .nils => some ([], [])
  | .c (.own id n) => match h id with
    | some (.row t e' l) => if q : e' = e then (if Nat.beq t et then some (L.take e (castL q l) n, [id]) else none) else none
    | _ => none
  | _ => none
def noInt (E : Ev) (t : TypeId) : Bool := match E t with
  | some i => match i.kd with
    | .sl _ | .str => true
    | _ => false
  | none => false
def fappend (L : Lv) (E : Ev) (h : H) (f : Nat) (t tx : TypeId) (x y : V) : FR := match elemOf E t with
  | some et => match E et with
    | some i => if Nat.beq i.ty.n i.size && noInt E tx then match fbase L h et i.ty x, fsrc L h i.ty y with
        | some (l, kill), some m => .o (L.room (L.add (L.llen i.ty l) (L.llen i.ty m)) i.bytes) (.new (.c (.own f (L.add (L.llen i.ty l) (L.llen i.ty m)))) [.row et i.ty (L.app i.ty l m)] kill)
        | _, _ => .bad
      else .bad
    | none => .bad
  | none => .bad

/-- All cells are known. -/
def knownCs : List C → Bool
  | [] => true
  | x :: r => knownV (.c x) && knownCs r

def hasOwn : List C → Bool
  | [] => false
  | .own _ _ :: _ | .map _ :: _ => true
  | _ :: r => hasOwn r

def fstore (L : Lv) (E : Ev) (h : H) (t : TypeId) (a x : V) : FR := match E t with
  | some i => if knownV x && knownCs x.cells && Nat.beq x.cells.length i.size then match a with
    | .c (.ptr id off) => match h id with
      | some (.box tt cs) => if Nat.ble (off + i.size) cs.length then .upd id (.box tt (putL cs off x.cells)) [] else .bad
      | _ => .bad
    | .c (.elp id j off) => match h id with
      | some (.row tt e l) => if Nat.ble (off + i.size) e.n then
          if hasOwn x.cells && !(Nat.beq i.size e.n) then .o (L.ltN j (L.llen e l)) (.upd id (.rowf tt e l j (putL (expl e (L.get e l j)) off x.cells)) [])
          else match view L h e (putL (expl e (L.get e l j)) off x.cells) with
            | some (y, [], ids) => if ids.contains id then .bad else .o (L.ltN j (L.llen e l)) (.upd id (.row tt e (L.setl e l j y)) ids)
            | _ => .bad
        else .bad
      | some (.rowf tt e l q cs) => if Nat.ble (off + i.size) e.n then .o (j = q) (.upd id (.rowf tt e l q (putL cs off x.cells)) []) else .bad
      | _ => .bad
    | _ => .bad
    else .bad
  | none => .bad

def fmakeFunc (fn : Fn) (first caps : List V) : FR := match fn, first, ptrIds caps with
  | .func f, [], some ids => .v (.c (.fn f ids))
  | _, _, _ => .bad

def fextract (x : V) (i : Nat) : FR := match x with
  | .tup l => match l[i]? with
    | some (b, cs) => mkV b cs
    | none => .bad
  | _ => .bad

def fpick (c a b : V) : FR := match c with
  | .c (.bool true) => .v a
  | .c (.bool false) => .v b
  | .c (.sym c) => .br c (.v a) (.v b)
  | _ => .bad

/-! ### maps -/
def mapOf (E : Ev) (t : TypeId) : Option (TypeId × TypeId) := match E t with
  | some i => match i.kd with
    | .map k e => some (k, e)
    | _ => none
  | none => none
/-- Is it the kind of the keys? -/
def keyOk (E : Ev) (kt : TypeId) : Ty → Bool
  | .int k => isKd E kt (.int k)
  | .str => isKd E kt .str
  | _ => false
def keysK (k : IntKind) : List (C × C) → Bool
  | [] => true
  | (.int k' _, _) :: r => decide (k' = k) && keysK k r
  | _ => false
def neKeys (L : Lv) (n : Int) : List (C × C) → Prop
  | [] => True
  | (.int _ m, _) :: r => L.cmp .eql n m = false ∧ neKeys L n r
  | _ => False
def fpicks (L : Lv) (ok : Bool) (k : IntKind) (n : Int) (z : Option C) : List (C × C) → FR
  | [] => match z with
    | some z => if ok then .v (.tup [(false, [z]), (false, [.bool false])]) else .v (.c z)
    | none => .bad
  | (.int k' m, x) :: r => if k = k' then .br (L.cmp .eql n m) (if ok then .v (.tup [(false, [x]), (false, [.bool true])]) else .v (.c x)) (fpicks L ok k n z r) else .bad
  | _ => .bad
def flookup (L : Lv) (E : Ev) (h : H) (t : TypeId) (x i : V) (ok : Bool) : FR := match mapOf E t with
  | some (kt, et) => match E et, x, i with
    | some ie, .c (.map id), .c ix => match h id with
      | some (.map k v l) => if keyOk E kt k && Nat.beq v.n 1 && !ie.kd.isAgg && decide (zeroTy v = ie.zero) then match view L h k [ix] with
          | some (key, [], []) => if ok then .v (.tup [(false, expl v (L.mval k v l key)), (false, [.sym (L.mhas k v l key)])]) else mkV false (expl v (L.mval k v l key))
          | _ => .bad
        else .bad
      | some (.mapc l) => match ix with
        | .int k n => if isKd E kt (.int k) && !ie.kd.isAgg then fpicks L ok k n (match ie.zero with
          | [z] => some z.c
          | _ => none) l else .bad
        | _ => .bad
      | _ => .bad
    | _, _, _ => .bad
  | none => .bad
def fmapUpdate (L : Lv) (E : Ev) (h : H) (t : TypeId) (m i x : V) : FR := match mapOf E t with
  | some (kt, et) => match m, i, x with
    | .c (.map id), .c ix, .c x => match h id with
      | some (.map k v l) => if keyOk E kt k && Nat.beq v.n 1 && !v.agg then match view L h k [ix], view L h v [x] with
          | some (key, [], []), some (y, [], []) => .upd id (.map k v (L.mput k v l key y)) []
          | _, _ => .bad
        else .bad
      | some (.mapc l) => match ix with
        | .int k n => if isKd E kt (.int k) && knownV (.c x) && keysK k l then .o (neKeys L n l) (.upd id (.mapc (l ++ [(.int k n, x)])) []) else .bad
        | _ => .bad
      | _ => .bad
    | _, _, _ => .bad
  | none => .bad
def fmakeMap (E : Ev) (f : Nat) (t : TypeId) : FR := match mapOf E t with
  | some (kt, et) => match E kt, E et with
    | some ik, some ie => match ie.kd with
      | .fn => .new (.c (.map f)) [.mapc []] []
      | _ => .new (.c (.map f)) [.map ik.ty ie.ty []] []
    | _, _ => .bad
  | none => .bad

def fnilCheck (x : V) : FR := match x with
  | .c (.ptr _ _) | .c (.elp _ _ _) | .ipt _ => .v x
  | _ => .bad

def flen (L : Lv) (E : Ev) (t : TypeId) (x : V) : FR := match E t with
  | some i => match i.kd, x with
    | .str, .c (.str s) => .v (.c (.int .i64 (L.cast (L.slen s))))
    | .sl _, .c (.sl e l) => .v (.c (.int .i64 (L.cast (L.llen e l))))
    | .sl _, .c (.own _ n) => .v (.c (.int .i64 (L.cast n)))
    | .sl _, .c .nils => .v (.c (.int .i64 0))
    | _, _ => .bad
  | none => .bad

def fmin (L : Lv) (x y : V) : FR := match x, y with
  | .c (.int k a), .c (.int _ b) => .v (.c (.int k (L.mn a b)))
  | _, _ => .bad

def fmax (L : Lv) (x y : V) : FR := match x, y with
  | .c (.int k a), .c (.int _ b) => .v (.c (.int k (L.mx a b)))
  | _, _ => .bad

end Go.VM
set_option autoImplicit false
set_option linter.all false
namespace Go.VM
open Go
variable {B : Nat × Bool}

/-- What is so of the objects. -/
structure HRel (φ : Phi) (hp : Hp) (nx : Nat) (w : World) : Prop where
  ob : ∀ id o, lookA hp id = some o → Orel φ (okb φ hp) w id o
  fr : ∀ id, nx ≤ id → φ id = none
  dj : ∀ i j o o' p q b, lookA hp i = some o → lookA hp j = some o' → i ≠ j → φ i = some p → φ j = some q → p.S b → ¬ q.S b

theorem Rel.h {φ : Phi} {st : St} {a : Act} {w : World} (r : Rel B φ st a w) : HRel φ st.hp st.nx w := ⟨r.ob, r.fr, r.dj⟩

theorem Orel.has {φ : Phi} {ok : Nat → Prop} {w : World} {id : Nat} {o : Ob} (h : Orel φ ok w id o) : ∃ p, φ id = some p ∧ ∀ b, p.S b → b < w.heap.size := by
  cases o with
  | box t cs =>
    obtain ⟨b, vs, h1, h2, _⟩ := h
    exact ⟨_, h1, fun x hx => by cases hx; exact (Array.getElem?_eq_some_iff.1 h2).1⟩
  | row t e l =>
    rcases h with ⟨h1, _⟩ | ⟨b, cap, arr, h1, h2, _⟩
    · exact ⟨_, h1, fun x hx => hx.elim⟩
    · exact ⟨_, h1, fun x hx => by cases hx; exact (Array.getElem?_eq_some_iff.1 h2).1⟩
  | rowf t e l j cs =>
    obtain ⟨b, cap, arr, h1, h2, _⟩ := h
    exact ⟨_, h1, fun x hx => by cases hx; exact (Array.getElem?_eq_some_iff.1 h2).1⟩
  | map k v l =>
    obtain ⟨b, es, clock, h1, h2, _⟩ := h
    exact ⟨_, h1, fun x hx => by cases hx; exact (Array.getElem?_eq_some_iff.1 h2).1⟩
  | mapc l =>
    obtain ⟨b, es, clock, h1, h2, _⟩ := h
    exact ⟨_, h1, fun x hx => by cases hx; exact (Array.getElem?_eq_some_iff.1 h2).1⟩
  | amb =>
    obtain ⟨S, w0, h1, _, h2⟩ := h
    exact ⟨_, h1, fun x hx => (h2 x hx).1⟩

theorem HRel.lt {φ : Phi} {hp : Hp} {nx : Nat} {w : World} (h : HRel φ hp nx w) {id : Nat} {o : Ob} (ho : lookA hp id = some o) : id < nx := by
  obtain ⟨p, hp', _⟩ := (h.ob id o ho).has
  by_cases hl : nx ≤ id
  · rw [h.fr id hl] at hp'; cases hp'
  · omega

/-- An object whose own block is as it was stays what it is. -/
theorem Orel.evo {φ φ' : Phi} {hp hp' : Hp} {w w' : World} (e : Evo φ hp w φ' hp' w') {id : Nat} {o : Ob} (h : Orel φ (okb φ hp) w id o)
    (hb : ∀ p b, φ id = some p → p.S b → w'.heap[b]? = w.heap[b]?) : Orel φ' (okb φ' hp') w' id o := by
  cases o with
  | box t cs =>
    obtain ⟨b, vs, h1, h2, h3⟩ := h
    exact ⟨b, vs, e.ph _ _ h1, (hb _ b h1 rfl).trans h2, L2_mono (fun _ _ hh => e.C hh) h3⟩
  | row t ty l =>
    rcases h with ⟨h1, h2⟩ | ⟨b, cap, arr, h1, h2, h3, h4, h5⟩
    · exact .inl ⟨e.ph _ _ h1, h2⟩
    · refine .inr ⟨b, cap, arr, e.ph _ _ h1, (hb _ b h1 rfl).trans h2, h3, h4, fun j x hx => ?_⟩
      obtain ⟨vs, hk, hv⟩ := h5 j x hx
      exact ⟨vs, e.K _ _ _ hk, hv⟩
  | rowf t ty l q cs =>
    obtain ⟨b, cap, arr, h1, h2, h3, h4, h5, h6, h7, vs, h8, h9⟩ := h
    refine ⟨b, cap, arr, e.ph _ _ h1, (hb _ b h1 rfl).trans h2, h3, h4, fun j x hne hx => ?_, h6, h7, vs, L2_mono (fun _ _ hh => e.C hh) h8, h9⟩
    obtain ⟨vs, hk, hv⟩ := h5 j x hne hx
    exact ⟨vs, e.K _ _ _ hk, hv⟩
  | map k v l =>
    obtain ⟨b, es, clock, h1, h2, h3⟩ := h
    exact ⟨b, es, clock, e.ph _ _ h1, (hb _ b h1 rfl).trans h2, L2_mono (fun _ _ hh => ⟨e.K _ _ _ hh.1, e.K _ _ _ hh.2⟩) h3⟩
  | mapc l =>
    obtain ⟨b, es, clock, h1, h2, h3⟩ := h
    exact ⟨b, es, clock, e.ph _ _ h1, (hb _ b h1 rfl).trans h2, L2_mono (fun _ _ hh => ⟨e.C hh.1, e.C hh.2⟩) h3⟩
  | amb =>
    obtain ⟨S, w0, h1, h0, h2⟩ := h
    exact ⟨S, w0, e.ph _ _ h1, h0, fun b hS => ⟨Nat.lt_of_lt_of_le (h2 b hS).1 e.size, (hb _ b h1 hS).trans (h2 b hS).2⟩⟩

/-! ### giving up -/
theorem okb_del {φ : Phi} {hp : Hp} {id b : Nat} (h : okb φ hp b) : okb φ (delA hp id) b := fun i o p h1 h2 h3 => by
  rw [lookA_delA] at h1
  split at h1
  · cases h1
  · exact h i o p h1 h2 h3

theorem evo_del (φ : Phi) (hp : Hp) (w : World) (id : Nat) : Evo φ hp w φ (delA hp id) w :=
  ⟨rfl, rfl, rfl, Nat.le_refl _, fun _ _ h => h, fun i o p b h1 h2 h3 => .inr fun hb => okb_del hb i o p h1 h2 h3, fun _ _ _ => rfl⟩

theorem HRel.del {φ : Phi} {hp : Hp} {nx : Nat} {w : World} (h : HRel φ hp nx w) (id : Nat) : HRel φ (delA hp id) nx w where
  ob := fun i o ho => by
    rw [lookA_delA] at ho
    split at ho
    · cases ho
    · exact (h.ob i o ho).evo (evo_del φ hp w id) (fun _ _ _ _ => rfl)
  fr := h.fr
  dj := fun i j o o' p q b h1 h2 => by
    rw [lookA_delA] at h1 h2
    split at h1
    · cases h1
    · split at h2
      · cases h2
      · exact h.dj i j o o' p q b h1 h2

def delAll (hp : Hp) : List Nat → Hp
  | [] => hp
  | i :: r => delAll (delA hp i) r

theorem evo_delAll (φ : Phi) (w : World) : ∀ (ids : List Nat) (hp : Hp), Evo φ hp w φ (delAll hp ids) w
  | [], hp => Evo.refl _ _ _
  | i :: r, hp => (evo_del φ hp w i).trans (evo_delAll φ w r (delA hp i))

theorem HRel.delAll {φ : Phi} {nx : Nat} {w : World} : ∀ (ids : List Nat) {hp : Hp} (_ : HRel φ hp nx w), HRel φ (VM.delAll hp ids) nx w
  | [], _, h => h
  | i :: r, _, h => HRel.delAll r (h.del i)

theorem lookA_delAll : ∀ (ids : List Nat) (hp : Hp) (i : Nat), lookA (delAll hp ids) i = if i ∈ ids then none else lookA hp i
  | [], hp, i => by simp [delAll]
  | k :: r, hp, i => by
    simp only [delAll, lookA_delAll r, lookA_delA, List.mem_cons]
    by_cases h1 : i ∈ r <;> by_cases h2 : i = k <;> simp [h1, h2]

/-! ### making -/
def phiSet (φ : Phi) (f : Nat) (p : Place) : Phi := fun i => if i = f then some p else φ i

theorem evo_new {φ : Phi} {hp : Hp} {nx : Nat} {w w' : World} (h : HRel φ hp nx w) {f : Nat} (hf : nx ≤ f) (o : Ob) (p : Place) (hb : Go.RowKit.Below w.heap.size w w')
    (hpl : ∀ b, p.S b → w.heap.size ≤ b) : Evo φ hp w (phiSet φ f p) ((f, o) :: hp) w' := by
  refine Evo.below hb (fun id q hq => ?_) (fun id o' q b h1 h2 h3 => ?_)
  · unfold phiSet
    split
    · rename_i e; subst e; rw [h.fr id hf] at hq; cases hq
    · exact hq
  · unfold phiSet at h2
    simp only [lookA, ifb] at h1
    split at h2
    · cases h2; exact .inl (hpl b h3)
    · rename_i hne
      rw [if_neg (fun e => hne e.symm)] at h1
      exact .inr fun hk => hk id o' q h1 h2 h3

theorem HRel.new {φ : Phi} {hp : Hp} {nx : Nat} {w w' : World} (h : HRel φ hp nx w) {f : Nat} (hf : nx ≤ f) (o : Ob) (p : Place) (hb : Go.RowKit.Below w.heap.size w w')
    (hpl : ∀ b, p.S b → w.heap.size ≤ b) (ho : Orel (phiSet φ f p) (okb (phiSet φ f p) ((f, o) :: hp)) w' f o) : HRel (phiSet φ f p) ((f, o) :: hp) (f + 1) w' where
  ob := fun id o' h1 => by
    simp only [lookA, ifb] at h1
    split at h1
    · rename_i e; subst e; cases h1; exact ho
    · refine (h.ob id o' h1).evo (evo_new h hf o p hb hpl) (fun q b hq hS => ?_)
      obtain ⟨q', hq', hl⟩ := (h.ob id o' h1).has
      rw [hq] at hq'; cases hq'
      exact hb.block b (hl b hS)
  fr := fun id hl => by
    unfold phiSet
    rw [if_neg (by omega)]
    exact h.fr id (by omega)
  dj := fun i j o1 o2 p1 p2 b h1 h2 hne h3 h4 h5 h6 => by
    simp only [lookA, ifb] at h1 h2
    unfold phiSet at h3 h4
    by_cases hi : i = f
    · subst hi
      rw [if_pos rfl] at h3; cases h3
      have hj : ¬ i = j := hne
      rw [if_neg hj] at h2
      rw [if_neg (fun e => hj e.symm)] at h4
      obtain ⟨q', hq', hl⟩ := (h.ob j o2 h2).has
      rw [h4] at hq'; cases hq'
      have := hl b h6; have := hpl b h5; omega
    · rw [if_neg (fun e => hi e.symm)] at h1
      rw [if_neg hi] at h3
      by_cases hj : j = f
      · subst hj
        rw [if_pos rfl] at h4; cases h4
        obtain ⟨q', hq', hl⟩ := (h.ob i o1 h1).has
        rw [h3] at hq'; cases hq'
        have := hl b h5; have := hpl b h6; omega
      · rw [if_neg (fun e => hj e.symm)] at h2
        rw [if_neg hj] at h4
        exact h.dj i j o1 o2 p1 p2 b h1 h2 hne h3 h4 h5 h6

/-- What an object has for itself is turned: the object is given up, a new one is there. -/
structure Turned (w w' : World) (g : Nat) : Prop where
  os : w'.os = w.os
  tape : w'.tape = w.tape
  output : w'.output = w.output
  size : w'.heap.size = w.heap.size
  bl : ∀ k, k ≠ g → w'.heap[k]? = w.heap[k]?

theorem evo_turn {φ : Phi} {hp : Hp} {nx : Nat} {w w' : World} (h : HRel φ hp nx w) {g id : Nat} {o : Ob} {p : Place} (ho : lookA hp id = some o) (hpl : φ id = some p) (hS : p.S g) (ht : Turned w w' g)
    (kill : List Nat) (o' : Ob) {p' : Place} {f : Nat} (hf : nx ≤ f) (hp' : ∀ b, p'.S b → b = g) : Evo φ hp w (phiSet φ f p') ((f, o') :: delAll hp (id :: kill)) w' where
  os := ht.os
  tape := ht.tape
  output := ht.output
  size := Nat.le_of_eq ht.size.symm
  ph := fun i q hq => by
    unfold phiSet
    split
    · rename_i e; subst e; rw [h.fr i hf] at hq; cases hq
    · exact hq
  ow := fun i o1 q b h1 h2 h3 => by
    simp only [lookA, ifb] at h1
    unfold phiSet at h2
    split at h1
    · rename_i e; subst e
      rw [if_pos rfl] at h2; cases h2
      rw [hp' b h3]
      exact .inr fun hk => hk id o p ho hpl hS
    · rename_i hne
      rw [if_neg (fun e => hne e.symm)] at h2
      rw [lookA_delAll] at h1
      split at h1
      · cases h1
      · exact .inr fun hk => hk i o1 q h1 h2 h3
  bl := fun b _ hb => ht.bl b fun e => by subst e; exact hb id o p ho hpl hS

theorem HRel.turn {φ : Phi} {hp : Hp} {nx : Nat} {w w' : World} (h : HRel φ hp nx w) {g id : Nat} {o : Ob} {p : Place} (ho : lookA hp id = some o) (hpl : φ id = some p) (hS : p.S g) (ht : Turned w w' g)
    (kill : List Nat) (o' : Ob) {p' : Place} {f : Nat} (hf : nx ≤ f) (hp' : ∀ b, p'.S b → b = g)
    (hn : Orel (phiSet φ f p') (okb (phiSet φ f p') ((f, o') :: VM.delAll hp (id :: kill))) w' f o') : HRel (phiSet φ f p') ((f, o') :: VM.delAll hp (id :: kill)) (f + 1) w' where
  ob := fun i o1 h1 => by
    simp only [lookA, ifb] at h1
    split at h1
    · rename_i e; subst e; cases h1; exact hn
    · rw [lookA_delAll] at h1
      split at h1
      · cases h1
      · rename_i hm
        refine (h.ob i o1 h1).evo (evo_turn h ho hpl hS ht kill o' hf hp') (fun q b hq hb => ht.bl b fun e => ?_)
        subst e
        exact h.dj i id o1 o q p b h1 ho (fun e => hm (by simp [e])) hq hpl hb hS
  fr := fun i hl => by
    unfold phiSet
    rw [if_neg (by omega)]
    exact h.fr i (by omega)
  dj := fun i j o1 o2 p1 p2 b h1 h2 hne h3 h4 h5 h6 => by
    simp only [lookA, ifb] at h1 h2
    unfold phiSet at h3 h4
    by_cases hi : i = f
    · subst hi
      rw [if_pos rfl] at h3; cases h3
      have hj : ¬ i = j := hne
      rw [if_neg hj, lookA_delAll] at h2
      rw [if_neg (fun e => hj e.symm)] at h4
      split at h2
      · cases h2
      · rename_i hm
        rw [hp' b h5] at h6
        exact h.dj j id o2 o p2 p g h2 ho (fun e => hm (by simp [e])) h4 hpl h6 hS
    · rw [if_neg (fun e => hi e.symm), lookA_delAll] at h1
      rw [if_neg hi] at h3
      split at h1
      · cases h1
      · rename_i hm
        by_cases hj : j = f
        · subst hj
          rw [if_pos rfl] at h4; cases h4
          rw [hp' b h6] at h5
          exact h.dj i id o1 o p1 p g h1 ho (fun e => hm (by simp [e])) h3 hpl h5 hS
        · rw [if_neg (fun e => hj e.symm), lookA_delAll] at h2
          rw [if_neg hj] at h4
          split at h2
          · cases h2
          · exact h.dj i j o1 o2 p1 p2 b h1 h2 hne h3 h4 h5 h6

/-- What an object has for itself is turned in place. -/
theorem look_upd {hp : Hp} {id i : Nat} {o o' o1 : Ob} {kill : List Nat} (ho : lookA hp id = some o) (h : lookA (setA (VM.delAll hp kill) id o') i = some o1) : (i = id ∧ o1 = o') ∨ (i ≠ id ∧ i ∉ kill ∧ lookA hp i = some o1) := by
  rw [lookA_setA] at h
  split at h
  · rename_i e; cases h; exact .inl ⟨e, rfl⟩
  · rename_i hne
    rw [lookA_delAll] at h
    split at h
    · cases h
    · rename_i hm; exact .inr ⟨hne, hm, h⟩

theorem evo_upd {φ : Phi} {hp : Hp} {w w' : World} {g id : Nat} {o : Ob} {p : Place} (ho : lookA hp id = some o) (hpl : φ id = some p) (hS : p.S g) (ht : Turned w w' g)
    (kill : List Nat) (o' : Ob) : Evo φ hp w φ (setA (VM.delAll hp kill) id o') w' where
  os := ht.os
  tape := ht.tape
  output := ht.output
  size := Nat.le_of_eq ht.size.symm
  ph := fun i q hq => hq
  ow := fun i o1 q b h1 h2 h3 => by
    rcases look_upd ho h1 with ⟨rfl, rfl⟩ | ⟨_, _, h4⟩
    · exact .inr fun hk => hk i o q ho h2 h3
    · exact .inr fun hk => hk i o1 q h4 h2 h3
  bl := fun b _ hb => ht.bl b fun e => by subst e; exact hb id o p ho hpl hS

theorem HRel.upd {φ : Phi} {hp : Hp} {nx : Nat} {w w' : World} (h : HRel φ hp nx w) {g id : Nat} {o : Ob} {p : Place} (ho : lookA hp id = some o) (hpl : φ id = some p) (hS : p.S g) (ht : Turned w w' g)
    (kill : List Nat) (o' : Ob) (hn : Orel φ (okb φ (setA (VM.delAll hp kill) id o')) w' id o') : HRel φ (setA (VM.delAll hp kill) id o') nx w' where
  ob := fun i o1 h1 => by
    rcases look_upd ho h1 with ⟨rfl, rfl⟩ | ⟨hne, _, h4⟩
    · exact hn
    · refine (h.ob i o1 h4).evo (evo_upd ho hpl hS ht kill o') (fun q b hq hb => ht.bl b fun e => ?_)
      subst e
      exact h.dj i id o1 o q p b h4 ho hne hq hpl hb hS
  fr := h.fr
  dj := fun i j o1 o2 p1 p2 b h1 h2 hne h3 h4 h5 => by
    rcases look_upd ho h1 with ⟨rfl, rfl⟩ | ⟨_, _, k1⟩ <;> rcases look_upd ho h2 with ⟨rfl, rfl⟩ | ⟨_, _, k2⟩
    · exact absurd rfl hne
    · exact h.dj i j o o2 p1 p2 b ho k2 hne h3 h4 h5
    · exact h.dj i j o1 o p1 p2 b k1 ho hne h3 h4 h5
    · exact h.dj i j o1 o2 p1 p2 b k1 k2 hne h3 h4 h5

/-! ### what a step yields -/
/-- The value stands for x; the objects: those that are given up are gone, new ones have come. -/
def Good (φ : Phi) (hp : Hp) (w : World) (f : Nat) (x : V) (news : List Ob) (kill : List Nat) (run : Result Value) : Prop :=
  ∃ v w' φ' hp', run = .ok v w' ∧ hp' = (news.zipIdx.map fun p => (f + p.2, p.1)) ++ delAll hp kill ∧ HRel φ' hp' (f + news.length) w' ∧ Evo φ hp w φ' hp' w' ∧ Vrel φ' (okb φ' hp') w' x v ∧ ∀ id, id < f → φ' id = φ id

theorem good_pure {φ : Phi} {hp : Hp} {w : World} {f : Nat} {x : V} {v : Value} {run : Result Value} (h : HRel φ hp f w) (hr : run = .ok v w) (hv : Vrel φ (okb φ hp) w x v) :
    Good φ hp w f x [] [] run := ⟨v, w, φ, hp, hr, rfl, h, Evo.refl _ _ _, hv, fun _ _ => rfl⟩

theorem good_new {φ : Phi} {hp : Hp} {w w' : World} {f : Nat} {x : V} {v : Value} {run : Result Value} (h : HRel φ hp f w) (o : Ob) (p : Place) (hr : run = .ok v w')
    (hb : Go.RowKit.Below w.heap.size w w') (hpl : ∀ b, p.S b → w.heap.size ≤ b)
    (ho : Orel (phiSet φ f p) (okb (phiSet φ f p) ((f, o) :: hp)) w' f o) (hv : Vrel (phiSet φ f p) (okb (phiSet φ f p) ((f, o) :: hp)) w' x v) :
    Good φ hp w f x [o] [] run :=
  ⟨v, w', _, _, hr, rfl, h.new (Nat.le_refl _) o p hb hpl ho, evo_new h (Nat.le_refl _) o p hb hpl, hv, fun id hid => by unfold phiSet; rw [if_neg (by omega)]⟩

theorem good_turn {φ : Phi} {hp : Hp} {w w' : World} {f : Nat} {x : V} {v : Value} {run : Result Value} (h : HRel φ hp f w) {g id : Nat} {o : Ob} {p : Place} (ho : lookA hp id = some o) (hpl : φ id = some p) (hS : p.S g) (ht : Turned w w' g)
    (kill : List Nat) (o' : Ob) {p' : Place} (hp' : ∀ b, p'.S b → b = g) (hr : run = .ok v w')
    (hn : Orel (phiSet φ f p') (okb (phiSet φ f p') ((f, o') :: delAll hp (id :: kill))) w' f o') (hv : Vrel (phiSet φ f p') (okb (phiSet φ f p') ((f, o') :: delAll hp (id :: kill))) w' x v) :
    Good φ hp w f x [o'] (id :: kill) run :=
  ⟨v, w', _, _, hr, rfl, h.turn ho hpl hS ht kill o' (Nat.le_refl _) hp' hn, evo_turn h ho hpl hS ht kill o' (Nat.le_refl _) hp', hv, fun id hid => by unfold phiSet; rw [if_neg (by omega)]⟩

/-- What an operation's result asks, and gives. -/
def FRok (φ : Phi) (hp : Hp) (w : World) (f : Nat) : FR → Result Value → Prop
  | .v x, run => Good φ hp w f x [] [] run
  | .b c, run => Good φ hp w f (.c (.bool c)) [] [] run
  | .amb, run => ∃ c, Good φ hp w f (.c (.bool c)) [] [] run
  | .br c r r', run => (c = true → FRok φ hp w f r run) ∧ (c = false → FRok φ hp w f r' run)
  | .o p r, run => p → FRok φ hp w f r run
  | .new x news kill, run => Good φ hp w f x news kill run
  | .upd id o kill, run => ∃ v w', run = .ok v w' ∧ HRel φ (setA (delAll hp kill) id o) f w' ∧ Evo φ hp w φ (setA (delAll hp kill) id o) w'
  | .bad, _ => True
end Go.VM
set_option autoImplicit false
set_option linter.all false
namespace Go.VM
open Go

section
variable {P : Program} {E : Ev} {φ : Phi} {ok : Nat → Prop} {w : World}

theorem run_info {t : TypeId} {x : TypeInfo} (h : P.info? t = some x) (w : World) : (typeInfo t).run P w = .ok x w := by
  simp [typeInfo, h]
theorem run_size {t : TypeId} {i : TI} (h : TIok P t i) (w : World) : (sizeOf t).run P w = .ok i.size w := by
  obtain ⟨x, hx, h1, _⟩ := h.info
  simp [sizeOf, run_info hx, h1]
theorem run_und {t : TypeId} {d : TypeDesc} (h : P.underlying t = some d) (w : World) : (underlying t).run P w = .ok d w := run_underlying h w
theorem run_isAgg {t : TypeId} {i : TI} (h : TIok P t i) (w : World) : (isAgg t).run P w = .ok i.kd.isAgg w := by
  have hu := h.und
  unfold isAgg
  cases hk : i.kd <;> simp only [hk] at hu <;>
    first
      | (simp [run_und hu, Kd.isAgg]; done)
      | (obtain ⟨a, h1, _⟩ := hu; simp [run_und h1, Kd.isAgg]; done)
      | (obtain ⟨a, b, c, h1⟩ := hu; simp [run_und h1, Kd.isAgg]; done)
theorem run_zero {t : TypeId} {i : TI} (h : TIok P t i) (w : World) : ∃ z, (zeroValue t).run P w = .ok z w ∧ z.cells.toList = i.zero.map Z.val := by
  obtain ⟨x, hx, _, _, h3⟩ := h.info
  cases hz : x.zero with
  | none => simp [hz] at h3
  | some z =>
    refine ⟨z, ?_, ?_⟩
    · simp [zeroValue, run_info hx, hz]
    · simpa [hz] using h3

/-- A variable is read: its cells. -/
theorem run_loadVar {t : TypeId} {i : TI} (h : TIok P t i) (a : Addr) (vs : List Value) (hl : vs.length = i.size) (hc : ∀ j v, vs[j]? = some v → w.cell? (a.add j) = some v) :
    ∃ v, (loadVar t a).run P w = .ok v w ∧ (if i.kd.isAgg then v = .agg vs.toArray else vs = [v]) := by
  by_cases ha : i.kd.isAgg = true
  · refine ⟨.agg vs.toArray, ?_, by simp [ha]⟩
    have := run_loadCells_list (P := P) w a vs hc
    rw [hl] at this
    simp [loadVar, run_isAgg h, ha, run_size h, this]
  · have ha' : i.kd.isAgg = false := by simpa using ha
    have h1 : i.size = 1 := h.one ha'
    match vs, hl with
    | [v], _ =>
      refine ⟨v, ?_, by simp [ha']⟩
      have := hc 0 v rfl
      have ha0 : a.add 0 = a := by simp [Addr.add]
      rw [ha0] at this
      simp [loadVar, run_isAgg h, ha', this]
    | [], hl => simp [h1] at hl
    | _ :: _ :: _, hl => simp [h1] at hl

theorem mkV_ok {hp : Hp} {f : Nat} (hh : HRel φ hp f w) {b : Bool} {cs : List C} {vs : List Value} (hl : L2 (Crel φ (okb φ hp) w) cs vs) {v : Value} {run : Result Value} (hr : run = .ok v w)
    (hv : if b then v = .agg vs.toArray else vs = [v]) : FRok φ hp w f (mkV b cs) run := by
  unfold mkV
  cases b
  · simp only [Bool.false_eq_true, if_false] at hv ⊢
    subst hv
    match cs, hl with
    | [x], hl => exact good_pure hh hr hl.1
  · simp only [if_true] at hv ⊢
    exact good_pure hh hr ⟨vs, hv, hl⟩

theorem add_plain (b o j : Nat) : (⟨b, o, none⟩ : Addr).add j = ⟨b, o + j, none⟩ := by unfold Addr.add; split <;> simp_all

theorem add_add (a : Addr) (m n : Nat) : (a.add m).add n = a.add (m + n) := by
  unfold Addr.add
  by_cases h0 : m = 0
  · subst h0; simp
  · by_cases h1 : n = 0
    · subst h1; simp
    · simp [h0, h1, Nat.add_assoc]

theorem cell_at {b o : Nat} {arr : Array Value} {t : TypeId} {fz : Nat × Nat} (h : w.heap[b]? = some (.cells arr t fz)) : w.cell? ⟨b, o, none⟩ = arr[o]? := by
  simp [World.cell?, h]

theorem expl_ok {φ : Phi} {ok : Nat → Prop} {w : World} : ∀ (t : Ty) (x : t.D) (vs : List Value), K ok w t x vs → L2 (Crel φ ok w) (expl t x) vs
  | .int _, _, _, h => by simp only [K] at h; subst h; exact ⟨rfl, trivial⟩
  | .bool, _, _, h => by simp only [K] at h; subst h; exact ⟨rfl, trivial⟩
  | .str, _, _, h => by simp only [K] at h; subst h; exact ⟨rfl, trivial⟩
  | .sl e, l, vs, h => by
    have h' := h
    obtain ⟨A, c, rfl, _⟩ := h'
    exact ⟨h, trivial⟩
  | .pair a b, x, vs, h => by
    obtain ⟨c1, c2, rfl, h1, h2⟩ := h
    exact L2_append (expl_ok a _ _ h1) (expl_ok b _ _ h2)
  | .wrap a, x, vs, h => expl_ok a x vs h

variable {hp : Hp} {f : Nat}

theorem getElem?_drop_take {α : Type} {l : List α} {a n i : Nat} {x : α} (h : ((l.drop a).take n)[i]? = some x) : l[a + i]? = some x := by
  rw [List.getElem?_take] at h
  split at h
  · rwa [List.getElem?_drop] at h
  · cases h

theorem load_ok (hE : ∀ t i, E t = some i → TIok P t i) (hh : HRel φ hp f w) (t : TypeId) (a : V) (v : Value) (hv : Vrel φ (okb φ hp) w a v) :
    FRok φ hp w f (fload Lv.std E (lookA hp) t a) ((Instr.loadAt t v).run P w) := by
  unfold fload
  cases hi : E t with
  | none => exact trivial
  | some i =>
    have hI := hE t i hi
    cases a with
    | ipt cs =>
      simp only
      split
      · rename_i hle
        have hle' : i.size ≤ cs.length := Nat.le_of_ble_eq_true hle
        obtain ⟨ad, vs, rfl, hl, hc⟩ := hv
        have hlen := L2_len hl
        obtain ⟨u, hr, hu⟩ := run_loadVar (P := P) (w := w) hI ad (vs.take i.size) (by rw [List.length_take]; omega) (fun j x hx => by
          have : vs[j]? = some x := by
            rw [List.getElem?_take] at hx
            split at hx
            · exact hx
            · cases hx
          exact (hc j x this).2)
        exact mkV_ok hh (L2_take i.size hl) (v := u) (by simp [Instr.loadAt, Instr.sureAddr, hr]) hu
      · exact trivial
    | c x =>
      cases x with
      | ptr id off =>
        simp only
        cases ho : lookA hp id with
        | none => exact trivial
        | some o =>
          cases o with
          | box t' cs =>
            simp only
            split
            · rename_i hle
              have hle' : off + i.size ≤ cs.length := Nat.le_of_ble_eq_true hle
              obtain ⟨b, sz, cap, nn, h1, rfl⟩ := hv
              obtain ⟨b', vs, h2, h3, h4⟩ := hh.ob id _ ho
              rw [h1] at h2; cases h2
              have hlen := L2_len h4
              obtain ⟨u, hr, hu⟩ := run_loadVar (P := P) (w := w) hI ⟨b, off, none⟩ ((vs.drop off).take i.size) (by rw [List.length_take, List.length_drop]; omega) (fun j x hx => by
                rw [add_plain, cell_at h3]
                have := getElem?_drop_take hx
                simpa using this)
              exact mkV_ok hh (L2_take i.size (L2_drop off h4)) (v := u) (by simp [Instr.loadAt, Instr.sureAddr, hr]) hu
            · exact trivial
          | _ => exact trivial
      | elp id j off =>
        simp only
        cases ho : lookA hp id with
        | none => exact trivial
        | some o =>
          cases o with
          | box t' cs => exact trivial
          | rowf t' e l q cs =>
            simp only
            split
            · rename_i hle
              have hle' : off + i.size ≤ e.n := Nat.le_of_ble_eq_true hle
              intro hq
              subst hq
              obtain ⟨b, sz, cap, nn, h1, rfl⟩ := hv
              obtain ⟨b', cap', arr, h2, h3, h4, h5, h6, h7, h8, vs, h9, h10⟩ := hh.ob id _ ho
              rw [h1] at h2; cases h2
              have hlen := L2_len h9
              obtain ⟨u, hr, hu⟩ := run_loadVar (P := P) (w := w) hI ⟨b, j * e.n + off, none⟩ ((vs.drop off).take i.size) (by rw [List.length_take, List.length_drop]; omega) (fun q y hy => by
                rw [add_plain, cell_at h3]
                have := h10 _ _ (getElem?_drop_take hy)
                rw [show j * e.n + off + q = j * e.n + (off + q) by omega]; exact this)
              exact mkV_ok hh (L2_take i.size (L2_drop off h9)) (v := u) (by simp [Instr.loadAt, Instr.sureAddr, hr]) hu
            · exact trivial
          | map k' v' l => exact trivial
          | mapc l => exact trivial
          | amb => exact trivial
          | row t' e l =>
            simp only
            split
            · rename_i hle
              have hle' : off + i.size ≤ e.n := Nat.le_of_ble_eq_true hle
              intro hlt
              have hlt' : j < List.length (α := e.D) l := hlt
              obtain ⟨b, sz, cap, nn, h1, rfl⟩ := hv
              rcases hh.ob id _ ho with ⟨h2, h3⟩ | ⟨b', cap', arr, h2, h3, h4, h5, h6⟩
              · rw [h1] at h2; cases h2
              · rw [h1] at h2; cases h2
                obtain ⟨x, hx⟩ : ∃ x, l[j]? = some x := ⟨_, List.getElem?_eq_getElem hlt'⟩
                obtain ⟨vs, hk, hvs⟩ := h6 j x hx
                have hlen := K_len e x vs hk
                have hg : Lv.std.get e l j = x := by show (l[j]?).getD e.dflt = x; rw [hx]; rfl
                rw [hg]
                obtain ⟨u, hr, hu⟩ := run_loadVar (P := P) (w := w) hI ⟨b, j * e.n + off, none⟩ ((vs.drop off).take i.size) (by rw [List.length_take, List.length_drop]; omega) (fun q y hy => by
                  rw [add_plain, cell_at h3]
                  have := hvs _ _ (getElem?_drop_take hy)
                  rw [show j * e.n + off + q = j * e.n + (off + q) by omega]; exact this)
                exact mkV_ok hh (L2_take i.size (L2_drop off (expl_ok e x vs hk))) (v := u) (by simp [Instr.loadAt, Instr.sureAddr, hr]) hu
            · exact trivial
      | _ => exact trivial
    | _ => exact trivial
end
end Go.VM
set_option autoImplicit false
set_option linter.all false
namespace Go.VM
open Go

section
variable {P : Program} {E : Ev} {φ : Phi} {w : World} {hp : Hp} {f : Nat}

theorem fieldOf_ok (hE : ∀ t i, E t = some i → TIok P t i) {s : TypeId} {k off : Nat} {t : TypeId} (h : fieldOf E s k = some (off, t)) :
    ∃ (a : Array Field) (g : Field), P.underlying s = some (.struct a) ∧ a[k]? = some g ∧ g.offset = off ∧ g.type = t := by
  unfold fieldOf at h
  cases hi : E s with
  | none => rw [hi] at h; cases h
  | some i =>
    rw [hi] at h
    simp only at h
    cases hk : i.kd <;> rw [hk] at h <;> simp only at h <;> try cases h
    have hu := (hE s i hi).und
    rw [hk] at hu
    obtain ⟨a, h1, h2, _⟩ := hu
    rw [← h2, List.getElem?_map] at h
    cases hg : a.toList[k]? with
    | none => rw [hg] at h; cases h
    | some g =>
      rw [hg] at h
      simp only [Option.map_some, Option.some.injEq, Prod.mk.injEq] at h
      exact ⟨a, g, h1, by rw [← Array.getElem?_toList]; exact hg, h.1, h.2⟩

theorem szOf_pos (hE : ∀ t i, E t = some i → TIok P t i) {t : TypeId} (h : 0 < szOf E t) : ∃ i, E t = some i ∧ szOf E t = i.size ∧ TIok P t i := by
  unfold szOf at h ⊢
  cases hi : E t with
  | none => rw [hi] at h; simp at h
  | some i => exact ⟨i, rfl, rfl, hE t i hi⟩

theorem fieldAddr_ok (hE : ∀ t i, E t = some i → TIok P t i) (hh : HRel φ hp f w) (s : TypeId) (a : V) (k : Nat) (v : Value) (hv : Vrel φ (okb φ hp) w a v) :
    FRok φ hp w f (ffieldAddr E s a k) ((Instr.fieldAt s v k).run P w) := by
  unfold ffieldAddr
  cases hf : fieldOf E s k with
  | none => exact trivial
  | some p =>
    obtain ⟨off, t⟩ := p
    simp only
    split
    · rename_i hb
      have hb' : 0 < szOf E t := by
        have := hb
        simp only [Nat.blt] at this
        exact Nat.le_of_ble_eq_true this
      obtain ⟨i, hi, hsz, hI⟩ := szOf_pos hE hb'
      obtain ⟨fa, g, h1, h2, h3, h4⟩ := fieldOf_ok hE hf
      have hrun : ∀ ad : Addr, (Instr.fieldAt s (.pointer (some ad)) k).run P w = .ok (.pointer (some (ad.add off))) w := fun ad => by
        have hne : ¬ i.size = 0 := by have := hI.ne; omega
        have hsz : (sizeOf g.type).run P w = .ok i.size w := by rw [h4]; exact run_size hI w
        simp [Instr.fieldAt, run_und h1, h2, Instr.sureAddr, fieldPlace, hsz, hne, h3]
      cases a with
      | c x =>
        cases x with
        | ptr id o =>
          obtain ⟨b, sz, cap, nn, h5, rfl⟩ := hv
          exact good_pure hh (hrun _) ⟨b, sz, cap, nn, h5, by rw [add_plain]⟩
        | elp id j o =>
          obtain ⟨b, sz, cap, nn, h5, rfl⟩ := hv
          exact good_pure hh (hrun _) ⟨b, sz, cap, nn, h5, by rw [add_plain]; rw [Nat.add_assoc]⟩
        | _ => exact trivial
      | ipt cs =>
        obtain ⟨ad, vs, rfl, hl, hc⟩ := hv
        refine good_pure hh (hrun _) ⟨_, vs.drop off, rfl, L2_drop off hl, fun i u hu => ?_⟩
        rw [List.getElem?_drop] at hu
        obtain ⟨hok, hcell⟩ := hc _ _ hu
        refine ⟨by rw [add_block]; exact hok, ?_⟩
        rw [add_add]; exact hcell
      | _ => exact trivial
    · exact trivial

theorem run_part {t : TypeId} {i : TI} (hI : TIok P t i) (vs : List Value) (off : Nat) (hl : off + i.size ≤ vs.length) :
    ∃ v, (part t vs.toArray off).run P w = .ok v w ∧ (if i.kd.isAgg then v = .agg ((vs.drop off).take i.size).toArray else (vs.drop off).take i.size = [v]) := by
  by_cases ha : i.kd.isAgg = true
  · refine ⟨_, ?_, by simp [ha]; rfl⟩
    simp only [part, Sem.run_bind, run_isAgg hI, ha, Result.andThen_ok, if_true, run_size hI, Sem.run_pure]
    congr 2
    apply Array.ext'
    simp [Nat.add_sub_cancel_left]
  · have ha' : i.kd.isAgg = false := by simpa using ha
    have h1 := hI.one ha'
    have hlt : off < vs.length := by omega
    refine ⟨vs[off], ?_, ?_⟩
    · simp [part, run_isAgg hI, ha', hlt]
    · simp only [ha', Bool.false_eq_true, if_false, h1]
      rw [List.drop_eq_getElem_cons hlt]; rfl

theorem field_ok (hE : ∀ t i, E t = some i → TIok P t i) (hh : HRel φ hp f w) (s : TypeId) (a : V) (k : Nat) (v : Value) (hv : Vrel φ (okb φ hp) w a v) :
    FRok φ hp w f (ffield E s a k) ((Instr.field s v k).run P w) := by
  unfold ffield
  cases hf : fieldOf E s k with
  | none => exact trivial
  | some p =>
    obtain ⟨off, t⟩ := p
    simp only
    cases hi : E t with
    | none => exact trivial
    | some i =>
      simp only
      cases a with
      | agg cs =>
        simp only
        split
        · rename_i hle
          have hle' := Nat.le_of_ble_eq_true hle
          have hI := hE t i hi
          obtain ⟨fa, g, h1, h2, h3, h4⟩ := fieldOf_ok hE hf
          obtain ⟨vs, rfl, hl⟩ := hv
          have hlen := L2_len hl
          obtain ⟨u, hr, hu⟩ := run_part (P := P) (w := w) hI vs off (by omega)
          refine mkV_ok hh (L2_take i.size (L2_drop off hl)) (v := u) ?_ hu
          simp [Instr.field, run_und h1, h2, asAgg, h3, h4, hr]
        · exact trivial
      | _ => exact trivial

theorem elemOf_ok (hE : ∀ t i, E t = some i → TIok P t i) {t et : TypeId} (h : elemOf E t = some et) : P.underlying t = some (.slice et) := by
  unfold elemOf at h
  cases hi : E t with
  | none => rw [hi] at h; cases h
  | some i =>
    rw [hi] at h
    simp only at h
    cases hk : i.kd <;> rw [hk] at h <;> simp only at h <;> try cases h
    have hu := (hE t i hi).und
    rw [hk] at hu
    exact hu

theorem beq_eq {a b : Nat} (h : Nat.beq a b = true) : a = b := Nat.eq_of_beq_eq_true h

theorem arrOf_ok (hE : ∀ t i, E t = some i → TIok P t i) {t et : TypeId} {m : Nat} (h : arrOf E t = some (m, et)) : P.underlying t = some (.array m et) := by
  unfold arrOf at h
  cases hi : E t with
  | none => rw [hi] at h; cases h
  | some i =>
    rw [hi] at h
    simp only at h
    cases hk : i.kd <;> rw [hk] at h <;> simp only at h <;> try cases h
    have hu := (hE t i hi).und
    rw [hk] at hu
    exact hu

theorem farr_ok (hh : HRel φ hp f w) {id off sz : Nat} {n : Int} {b s2 cap nn : Nat} (hφ : φ id = some (.at b s2 cap nn)) {run : Result Value} (hr : run = .ok (.pointer (some ⟨b, off + n.toNat * sz, none⟩)) w) : ∀ (r j : Nat), FRok φ hp w f (farr Lv.std n id off sz j r) run
  | 0, j => trivial
  | r + 1, j => by
    refine ⟨fun hc => ?_, fun _ => farr_ok hh hφ hr r (j + 1)⟩
    have hj : n = (j : Int) := by
      have : (n == Int.ofNat j) = true := hc
      simpa using this
    subst hj
    exact good_pure hh hr ⟨b, s2, cap, nn, hφ, rfl⟩

theorem indexArr_ok (hE : ∀ t i, E t = some i → TIok P t i) (hh : HRel φ hp f w) (t : TypeId) (x i : V) (vx vi : Value) (hx : Vrel φ (okb φ hp) w x vx) (hi : Vrel φ (okb φ hp) w i vi) :
    FRok φ hp w f (findexArr Lv.std E t x i) ((Instr.indexAt t vx vi).run P w) := by
  unfold findexArr
  split
  · rename_i m et he
    have hu := arrOf_ok hE he
    split
    · rename_i id off k n
      split
      · rename_i hb
        intro hin
        obtain ⟨h0, h1⟩ : 0 ≤ n ∧ n < (m : Int) := hin
        obtain rfl : vi = .int k n := hi
        obtain ⟨b, s2, cap, nn, hφ, rfl⟩ := hx
        obtain ⟨ii, hii, hszi, hI⟩ := szOf_pos hE (Nat.le_of_ble_eq_true hb)
        refine farr_ok hh hφ ?_ m 0
        have hs : (sizeOf et).run P w = .ok (szOf E et) w := by rw [run_size hI, ← hszi]
        simp [Instr.indexAt, asIntOf, run_und hu, h0, h1, hs, add_plain, Instr.sureAddr]
      · exact trivial
    · exact trivial
  · exact trivial

theorem indexAddr_ok (hE : ∀ t i, E t = some i → TIok P t i) (hh : HRel φ hp f w) (t : TypeId) (x i : V) (vx vi : Value) (hx : Vrel φ (okb φ hp) w x vx) (hi : Vrel φ (okb φ hp) w i vi) :
    FRok φ hp w f (findexAddr Lv.std E (lookA hp) t x i) ((Instr.indexAt t vx vi).run P w) := by
  unfold findexAddr
  cases he : elemOf E t with
  | none => exact indexArr_ok hE hh t x i vx vi hx hi
  | some et =>
    have hu := elemOf_ok hE he
    simp only
    split
    · rename_i id len k n
      cases ho : lookA hp id with
      | none => exact trivial
      | some o =>
        cases o with
        | box t' cs => exact trivial
        | rowf t' e l q cs =>
          simp only
          split
          · rename_i hb
            have hsz := beq_eq hb
            intro hin
            obtain ⟨h0, h1⟩ : 0 ≤ n ∧ n < (len : Int) := hin
            obtain rfl : vi = .int k n := hi
            obtain ⟨ii, hii, hszi, hI⟩ := szOf_pos hE (by rw [← hsz]; exact e.n_pos)
            rcases hx with ⟨h2, h3, A, rfl⟩ | ⟨b, sz, cap, nn, h2, h3, rfl⟩
            · omega
            · obtain ⟨b', cap', arr, h4, h5, _⟩ := hh.ob id _ ho
              rw [h2] at h4; cases h4
              refine good_pure hh (v := .pointer (some ⟨b, n.toNat * e.n, none⟩)) ?_ ⟨b, e.n, cap, _, h2, rfl⟩
              have hs : (sizeOf et).run P w = .ok e.n w := by rw [run_size hI, ← hszi, ← hsz]
              simp [Instr.indexAt, asIntOf, run_und hu, h0, h1, hs, add_plain]
          · exact trivial
        | map k' v' l => exact trivial
        | mapc l => exact trivial
        | amb => exact trivial
        | row t' e l =>
          simp only
          split
          · rename_i hb
            have hsz := beq_eq hb
            intro hin
            obtain ⟨h0, h1⟩ : 0 ≤ n ∧ n < (len : Int) := hin
            obtain rfl : vi = .int k n := hi
            obtain ⟨ii, hii, hszi, hI⟩ := szOf_pos hE (by rw [← hsz]; exact e.n_pos)
            rcases hx with ⟨h2, h3, A, rfl⟩ | ⟨b, sz, cap, nn, h2, h3, rfl⟩
            · omega
            · rcases hh.ob id _ ho with ⟨h4, _⟩ | ⟨b', cap', arr, h4, h5, _⟩
              · rw [h2] at h4; cases h4
              · rw [h2] at h4; cases h4
                refine good_pure hh (v := .pointer (some ⟨b, n.toNat * e.n, none⟩)) ?_ ⟨b, e.n, cap, _, h2, rfl⟩
                have hs : (sizeOf et).run P w = .ok e.n w := by rw [run_size hI, ← hszi, ← hsz]
                simp [Instr.indexAt, asIntOf, run_und hu, h0, h1, hs, add_plain]
          · exact trivial
    · rename_i e l k n
      split
      · rename_i hb
        have hsz := beq_eq hb
        intro hin
        obtain ⟨h0, h1⟩ : 0 ≤ n ∧ n < ((List.length (α := e.D) l : Nat) : Int) := hin
        obtain rfl : vi = .int k n := hi
        obtain ⟨ii, hii, hszi, hI⟩ := szOf_pos hE (by rw [← hsz]; exact e.n_pos)
        obtain ⟨A, c, hc1, hc2, hc3⟩ := hx
        obtain rfl : vx = .slice A (List.length (α := e.D) l) c := by simpa using hc1
        obtain ⟨ad, rfl, hok, hj⟩ := hc3 (by omega)
        have hlt : n.toNat < List.length (α := e.D) l := by omega
        obtain ⟨y, hy⟩ : ∃ y, l[n.toNat]? = some y := ⟨_, List.getElem?_eq_getElem hlt⟩
        obtain ⟨vs, hk, hvs⟩ := hj _ _ hy
        have hg : Lv.std.get e l (Lv.std.toN n) = y := by show (l[n.toNat]?).getD e.dflt = y; rw [hy]; rfl
        rw [hg]
        refine good_pure hh (v := .pointer (some (ad.add (n.toNat * e.n)))) ?_ ⟨_, vs, rfl, expl_ok e y vs hk, fun i u hu => ?_⟩
        · have hs : (sizeOf et).run P w = .ok e.n w := by rw [run_size hI, ← hszi, ← hsz]
          simp [Instr.indexAt, asIntOf, run_und hu, h0, h1, hs]
        · refine ⟨by rw [add_block]; exact hok, ?_⟩
          rw [add_add]; exact hvs i u hu
      · exact trivial
    · exact trivial

theorem index_ok (hE : ∀ t i, E t = some i → TIok P t i) (hh : HRel φ hp f w) (t : TypeId) (x i : V) (vx vi : Value) (hx : Vrel φ (okb φ hp) w x vx) (hi : Vrel φ (okb φ hp) w i vi) :
    FRok φ hp w f (findex Lv.std E t x i) ((Instr.index t vx vi).run P w) := by
  unfold findex
  split
  · rename_i q s k n hq
    cases hk : q.kd <;> simp only <;> try exact trivial
    have hu := (hE t q hq).und
    rw [hk] at hu
    simp only at hu
    intro hin
    obtain ⟨h0, h1⟩ : 0 ≤ n ∧ n < (s.size : Int) := hin
    obtain rfl : vi = .int k n := hi
    obtain rfl : vx = .string s := hx
    have hlt : n.toNat < s.size := by omega
    have hb : s[n.toNat]? = some s[n.toNat] := by
      simp [getElem?_pos, hlt]
    refine good_pure hh (v := .int .u8 (s[n.toNat]).toNat) ?_ ?_
    · simp [Instr.index, asIntOf, run_und hu, h0, hb]
    · show Value.int .u8 _ = .int .u8 (byteAt s n)
      simp [byteAt, hlt]
  · exact trivial
end
end Go.VM
set_option autoImplicit false
set_option linter.all false
namespace Go.VM
open Go

section
variable {P : Program} {E : Ev} {φ : Phi} {w : World} {hp : Hp} {f : Nat}

theorem K_take {ok : Nat → Prop} {e : Ty} {l : List e.D} {A : Option Addr} {c : Nat} (n m : Nat) (hn : n ≤ m) (hm : m ≤ l.length) (h : K ok w (.sl e) l [.slice A (List.length (α := e.D) l) c]) (A' : Option Addr)
    (hA : n < m → A' = A.map (·.add (n * e.n))) : K ok w (.sl e) (List.drop (α := e.D) n (List.take (α := e.D) m l)) [.slice A' (m - n) (c - n)] := by
  obtain ⟨A0, c0, h1, h2, h3⟩ := h
  simp only [List.cons.injEq, Value.slice.injEq, and_true, true_and] at h1
  obtain ⟨rfl, rfl⟩ := h1
  have hlen : List.length (α := e.D) (List.drop (α := e.D) n (List.take (α := e.D) m l)) = m - n := by
    rw [List.length_drop, List.length_take]; omega
  refine ⟨A', c - n, by rw [hlen], by rw [hlen]; omega, fun hp => ?_⟩
  rw [hlen] at hp
  obtain ⟨ad, rfl, hok, hj⟩ := h3 (by omega)
  refine ⟨ad.add (n * e.n), by simpa using hA (by omega), by rw [add_block]; exact hok, fun j x hx => ?_⟩
  rw [List.getElem?_drop, List.getElem?_take] at hx
  split at hx
  · obtain ⟨vs, hk, hvs⟩ := hj _ _ hx
    refine ⟨vs, hk, fun i u hu => ?_⟩
    rw [add_add, ← Nat.add_assoc, ← Nat.add_mul]; exact hvs i u hu
  · cases hx

def orel (φ : Phi) (ok : Nat → Prop) (w : World) (o : Option V) (ov : Option Value) : Prop := match o, ov with
  | none, none => True
  | some x, some v => Vrel φ ok w x v
  | _, _ => False

/-- A row that is given up reads as its list. -/
theorem row_K {nx : Nat} (hh : HRel φ hp nx w) {id : Nat} {t : TypeId} {e : Ty} {l : List e.D} (ho : lookA hp id = some (.row t e l)) {b sz cap n : Nat} (hφ : φ id = some (.at b sz cap n)) :
    n = l.length ∧ sz = e.n ∧ n ≤ cap ∧ K (okb φ (delA hp id)) w (.sl e) l [.slice (some ⟨b, 0, none⟩) (List.length (α := e.D) l) cap] := by
  rcases hh.ob id _ ho with ⟨h5, _⟩ | ⟨b', cap', arr, h5, h6, h7, h8, h9⟩
  · rw [hφ] at h5; cases h5
  · rw [hφ] at h5; cases h5
    refine ⟨rfl, rfl, h8, _, cap, rfl, h8, fun hp0 => ⟨_, rfl, ?_, fun j x hx => ?_⟩⟩
    · intro i o p h1 h2 h3
      rw [lookA_delA] at h1
      split at h1
      · cases h1
      · rename_i hne
        exact hh.dj i id o _ p _ b h1 ho hne h2 hφ h3 rfl
    · obtain ⟨vs, hk, hvs⟩ := h9 j x hx
      refine ⟨vs, (evo_del φ hp w id).K _ _ _ hk, fun i u hu => ?_⟩
      rw [add_plain, Nat.zero_add, cell_at h6]
      exact hvs i u hu

/-- Bounds that are given, or not. -/
theorem bound_ok {ok : Nat → Prop} {d a : Int} {o : Option V} {ov : Option Value} (h : bound d o = some a) (hv : orel φ ok w o ov) :
    (ov = none ∧ a = d) ∨ ∃ k, ov = some (.int k a) := by
  unfold bound at h
  split at h
  · cases ov with
    | none => exact .inl ⟨rfl, by cases h; rfl⟩
    | some v => exact hv.elim
  · cases ov with
    | none => exact hv.elim
    | some v => cases h; exact .inr ⟨_, by rw [show v = _ from hv]⟩
  · cases h

theorem run_bounds {b : Bool} {len cap : Nat} {a c : Int} {lo hi : Option Value} (h1 : (lo = none ∧ a = 0) ∨ ∃ k, lo = some (.int k a)) (h2 : (hi = none ∧ c = (len : Int)) ∨ ∃ k, hi = some (.int k c))
    (h0 : 0 ≤ a) (hac : a ≤ c) (hcl : c ≤ len) (hlc : len ≤ cap) : (Instr.sliceBounds b len cap lo hi none).run P w = .ok (a.toNat, c.toNat, cap) w := by
  have hb : ∀ (k : IntKind) (x : Int) (y : Nat) (code : BoundsCode), 0 ≤ x → x ≤ (y : Int) → (Instr.sliceBound (.int k x) y code).run P w = .ok x.toNat w := fun k x y code hx hy => by
    simp [Instr.sliceBound, asIntOf, hx, hy]
  have hc0 : (0 : Int) ≤ c := by omega
  have hcc : c ≤ (cap : Int) := by omega
  have hct : ((c.toNat : Nat) : Int) = c := by omega
  unfold Instr.sliceBounds
  rcases h1 with ⟨rfl, rfl⟩ | ⟨k1, rfl⟩ <;> rcases h2 with ⟨rfl, rfl⟩ | ⟨k2, rfl⟩
  · simp
  · simp [hb k2 c cap _ hc0 hcc]
  · have := hb k1 a len .sliceB h0 (by omega)
    simp [this]
  · have := hb k1 a c.toNat .sliceB h0 (by omega)
    simp [hb k2 c cap _ hc0 hcc, this]

theorem slice_ok (hE : ∀ t i, E t = some i → TIok P t i) (hh : HRel φ hp f w) (t : TypeId) (x : V) (lo hi : Option V) (v : Value) (vl vh : Option Value) (hx : Vrel φ (okb φ hp) w x v)
    (hlo : orel φ (okb φ hp) w lo vl) (hhi : orel φ (okb φ hp) w hi vh) : FRok φ hp w f (fslice Lv.std E (lookA hp) t x lo hi) ((Instr.sliceAt t v vl vh none).run P w) := by
  unfold fslice
  cases hq : E t with
  | none => exact trivial
  | some q =>
    have hI := hE t q hq
    have hu := hI.und
    simp only
    split
    · rename_i s hk
      rw [hk] at hu
      simp only at hu
      split
      · rename_i a b ha hb
        intro hin
        obtain ⟨h0, h1, h2⟩ : 0 ≤ a ∧ a ≤ b ∧ b ≤ (s.size : Int) := hin
        obtain rfl : v = .string s := hx
        have hr := run_bounds (P := P) (w := w) (b := false) (len := s.size) (cap := s.size) (bound_ok ha hlo) (bound_ok hb hhi) h0 h1 h2 (Nat.le_refl _)
        refine good_pure hh (v := .string (s.extract a.toNat b.toNat)) ?_ rfl
        simp [Instr.sliceAt, run_und hu, Instr.slice, hr]
      · exact trivial
    · rename_i et e l hk
      rw [hk] at hu
      simp only at hu
      split
      · rename_i hb
        have hsz := beq_eq hb
        obtain ⟨ii, hii, hszi, hI'⟩ := szOf_pos hE (by rw [← hsz]; exact e.n_pos)
        have hs : (sizeOf et).run P w = .ok e.n w := by rw [run_size hI', ← hszi, ← hsz]
        split
        · rename_i a b ha hb
          intro hin
          obtain ⟨h0, h1, h2⟩ : 0 ≤ a ∧ a ≤ b ∧ b ≤ ((List.length (α := e.D) l : Nat) : Int) := hin
          have hx' := hx
          obtain ⟨A, c, hc1, hc2, _⟩ := hx
          obtain rfl : v = .slice A (List.length (α := e.D) l) c := by simpa using hc1
          have hr := run_bounds (P := P) (w := w) (b := true) (len := List.length (α := e.D) l) (cap := c) (bound_ok ha hlo) (bound_ok hb hhi) h0 h1 h2 hc2
          refine good_pure hh (v := .slice (if c = a.toNat then A else A.map (·.add (a.toNat * e.n))) (b.toNat - a.toNat) (c - a.toNat)) ?_ ?_
          · simp [Instr.sliceAt, run_und hu, Instr.slice, hr, hs]
          · refine K_take (w := w) a.toNat b.toNat (by omega) (by show b.toNat ≤ List.length (α := e.D) l; omega) hx' _ (fun hlt => ?_)
            rw [if_neg (by omega)]
        · exact trivial
      · exact trivial
    · rename_i et id len hk
      rw [hk] at hu
      simp only at hu
      cases ho : lookA hp id with
      | none => exact trivial
      | some o =>
        cases o with
        | box t' cs => exact trivial
        | rowf t' e l q cs => exact trivial
        | map k' v' l => exact trivial
        | mapc l => exact trivial
        | amb => exact trivial
        | row t' e l =>
          simp only
          split
          · rename_i hb
            have hsz := beq_eq hb
            obtain ⟨ii, hii, hszi, hI'⟩ := szOf_pos hE (by rw [← hsz]; exact e.n_pos)
            have hs : (sizeOf et).run P w = .ok e.n w := by rw [run_size hI', ← hszi, ← hsz]
            cases lo with
            | none =>
              simp only
              split
              · rename_i b hb
                intro hin
                obtain ⟨h0, h1, h2⟩ : (0 : Int) ≤ ((0 : Nat) : Int) ∧ ((0 : Nat) : Int) ≤ b ∧ b ≤ (len : Int) := hin
                cases vl with
                | some _ => exact hlo.elim
                | none =>
                  rcases hx with ⟨h3, rfl, A, rfl⟩ | ⟨bb, sz, cap, nn, h3, h4, rfl⟩
                  · have hr := run_bounds (P := P) (w := w) (b := true) (len := 0) (cap := 0) (a := 0) (c := b) (lo := none) (.inl ⟨rfl, rfl⟩) (bound_ok hb hhi) (by omega) (by omega) h2 (Nat.le_refl _)
                    have hb0 : b.toNat = 0 := by omega
                    refine good_pure hh (v := .slice A 0 0) ?_ (.inl ⟨h3, hb0, A, rfl⟩)
                    simp [Instr.sliceAt, run_und hu, Instr.slice, hr, hs, hb0]
                  · have hr := run_bounds (P := P) (w := w) (b := true) (len := len) (cap := cap) (a := 0) (c := b) (lo := none) (.inl ⟨rfl, rfl⟩) (bound_ok hb hhi) (by omega) (by omega) h2 (by obtain ⟨q1, q2, q3, _⟩ := row_K hh ho h3; omega)
                    refine good_pure hh (v := .slice (some ⟨bb, 0, none⟩) b.toNat cap) ?_ (.inr ⟨bb, sz, cap, nn, h3, by show b.toNat ≤ nn; omega, rfl⟩)
                    simp [Instr.sliceAt, run_und hu, Instr.slice, hr, hs, Addr.add]
              · exact trivial
            | some lo =>
              simp only
              split
              · rename_i a b ha hb
                intro hin
                obtain ⟨h0, h1, h2⟩ : 0 ≤ a ∧ a ≤ b ∧ b ≤ (len : Int) := hin
                have hdel := evo_del φ hp w id
                rcases hx with ⟨h3, rfl, A, rfl⟩ | ⟨bb, sz, cap, nn, h3, h4, rfl⟩
                · have hr := run_bounds (P := P) (w := w) (b := true) (len := 0) (cap := 0) (bound_ok ha hlo) (bound_ok hb hhi) h0 h1 h2 (Nat.le_refl _)
                  have ha0 : a.toNat = 0 := by omega
                  have hb0 : b.toNat = 0 := by omega
                  refine ⟨.slice A 0 0, w, φ, _, ?_, rfl, hh.del id, hdel, ?_, fun _ _ => rfl⟩
                  · simp [Instr.sliceAt, run_und hu, Instr.slice, hr, hs, hb0, ha0]
                  · refine ⟨A, 0, ?_, ?_, fun hpos => ?_⟩
                    · show [Value.slice A 0 0] = [Value.slice A (List.length (List.drop a.toNat (List.take b.toNat l))) 0]
                      rw [ha0, hb0]; rfl
                    · show List.length (List.drop a.toNat (List.take b.toNat l)) ≤ 0
                      rw [ha0, hb0]; simp
                    · have : List.length (List.drop a.toNat (List.take b.toNat l)) = 0 := by rw [ha0, hb0]; simp
                      change 0 < List.length (List.drop a.toNat (List.take b.toNat l)) at hpos
                      omega
                · obtain ⟨q1, q2, q3, q4⟩ := row_K hh ho h3
                  subst q2
                  have hr := run_bounds (P := P) (w := w) (b := true) (len := len) (cap := cap) (bound_ok ha hlo) (bound_ok hb hhi) h0 h1 h2 (by omega)
                  refine ⟨.slice (if cap = a.toNat then some ⟨bb, 0, none⟩ else (some (⟨bb, 0, none⟩ : Addr)).map (·.add (a.toNat * e.n))) (b.toNat - a.toNat) (cap - a.toNat), w, φ, _, ?_, rfl, hh.del id, hdel, ?_, fun _ _ => rfl⟩
                  · simp [Instr.sliceAt, run_und hu, Instr.slice, hr, hs]
                  · refine K_take (w := w) a.toNat b.toNat (by omega) (by omega) q4 _ (fun hlt => ?_)
                    rw [if_neg (by omega)]
              · exact trivial
          · exact trivial
    · exact trivial

theorem unop_ok (hh : HRel φ hp f w) (op : UnOp) (x : V) (v : Value) (hx : Vrel φ (okb φ hp) w x v) : FRok φ hp w f (funop Lv.std op x) ((Op.unary op v).run P w) := by
  unfold funop
  split
  · obtain rfl : v = _ := hx
    exact good_pure hh rfl rfl
  · obtain rfl : v = _ := hx
    exact good_pure hh rfl rfl
  · obtain rfl : v = _ := hx
    exact good_pure hh (v := .int _ _) rfl rfl
  · exact trivial

theorem nilCheck_ok (x : V) (v : Value) (hx : Vrel φ (okb φ hp) w x v) : fnilCheck x = .bad ∨ (fnilCheck x = .v x ∧ ∃ ad, v = .pointer (some ad)) := by
  unfold fnilCheck
  split
  · obtain ⟨b, sz, cap, n, h1, rfl⟩ := hx; exact .inr ⟨rfl, _, rfl⟩
  · obtain ⟨b, sz, cap, n, h1, rfl⟩ := hx; exact .inr ⟨rfl, _, rfl⟩
  · obtain ⟨ad, vs, rfl, _⟩ := hx; exact .inr ⟨rfl, _, rfl⟩
  · exact .inl rfl

theorem len_ok (hE : ∀ t i, E t = some i → TIok P t i) (hh : HRel φ hp f w) (t ty : TypeId) (x : V) (v : Value) (hx : Vrel φ (okb φ hp) w x v) :
    FRok φ hp w f (flen Lv.std E t x) ((Builtin.len_ #[t] ty #[v]).run P w) := by
  unfold flen
  cases hi : E t with
  | none => exact trivial
  | some i =>
    have hu := (hE t i hi).und
    simp only
    split
    · rename_i s hk
      rw [hk] at hu
      simp only at hu
      obtain rfl : v = .string s := hx
      exact good_pure hh (v := .int .i64 s.size) (by simp [Builtin.len_, run_und hu, goInt]) rfl
    · rename_i et e l hk
      rw [hk] at hu
      simp only at hu
      obtain ⟨A, c, h1, _⟩ := hx
      obtain rfl : v = .slice A (List.length (α := e.D) l) c := by simpa using h1
      exact good_pure hh (v := .int .i64 (List.length (α := e.D) l : Nat)) (by simp [Builtin.len_, run_und hu, goInt]) rfl
    · rename_i et id n hk
      rw [hk] at hu
      simp only at hu
      rcases hx with ⟨h1, rfl, A, rfl⟩ | ⟨b, sz, cap, nn, h1, h2, rfl⟩
      · exact good_pure hh (v := .int .i64 (0 : Nat)) (by simp [Builtin.len_, run_und hu, goInt]) rfl
      · exact good_pure hh (v := .int .i64 (n : Nat)) (by simp [Builtin.len_, run_und hu, goInt]) rfl
    · rename_i et hk
      rw [hk] at hu
      simp only at hu
      obtain rfl : v = _ := hx
      exact good_pure hh (v := .int .i64 0) (by simp [Builtin.len_, run_und hu, goInt]) rfl
    · exact trivial

theorem min_ok (hh : HRel φ hp f w) (ts : Array TypeId) (ty : TypeId) (x y : V) (v u : Value) (hx : Vrel φ (okb φ hp) w x v) (hy : Vrel φ (okb φ hp) w y u) :
    FRok φ hp w f (fmin Lv.std x y) ((Builtin.min_ ts ty #[v, u]).run P w) := by
  unfold fmin
  split
  · obtain rfl : v = _ := hx
    obtain rfl : u = _ := hy
    refine good_pure hh (v := .int _ _) ?_ rfl
    simp [Builtin.min_, Builtin.min2, Lv.std]
  · exact trivial

theorem max_ok (hh : HRel φ hp f w) (ts : Array TypeId) (ty : TypeId) (x y : V) (v u : Value) (hx : Vrel φ (okb φ hp) w x v) (hy : Vrel φ (okb φ hp) w y u) :
    FRok φ hp w f (fmax Lv.std x y) ((Builtin.max_ ts ty #[v, u]).run P w) := by
  unfold fmax
  split
  · obtain rfl : v = _ := hx
    obtain rfl : u = _ := hy
    refine good_pure hh (v := .int _ _) ?_ rfl
    simp [Builtin.max_, Builtin.max2, Lv.std]
  · exact trivial
end
end Go.VM
set_option autoImplicit false
set_option linter.all false
namespace Go.VM
open Go

section
variable {P : Program} {E : Ev} {φ : Phi} {w : World} {hp : Hp} {f : Nat}

theorem bind_ok {α β : Type} {x : Sem α} {g : α → Sem β} {a : α} {w' : World} (h : x.run P w = .ok a w') : (x >>= g).run P w = (g a).run P w' := by
  simp [h]

theorem int_binOp (op : BinOp) (t : TypeId) (k : IntKind) (a b : Int) (h1 : opOk op = true) : (binOp op t (.int k a) (.int k b)).run P w = .ok (.int k (arith op k a b)) w := by
  cases op <;> first
    | (simp [opOk] at h1; done)
    | (simp [binOp, Op.intArith, Op.intBits, arith]; done)
    | rfl

theorem int_cmp (op : BinOp) (t : TypeId) (k : IntKind) (a b : Int) (h1 : opCmp op = true) : (binOp op t (.int k a) (.int k b)).run P w = .ok (.bool (compare op a b)) w := by
  cases op <;> first
    | (simp [opCmp] at h1; done)
    | (simp [binOp, Op.intCmp, compare]; done)

theorem str_cmp (op : BinOp) (t : TypeId) (a b : ByteArray) (h1 : opCmp op = true) : (binOp op t (.string a) (.string b)).run P w = .ok (.bool (scompare op a b)) w := by
  cases op <;> first
    | (simp [opCmp] at h1; done)
    | (simp [binOp, Op.stringOp, scompare]; done)

theorem noGuard (op : BinOp) (t : TypeId) (x y : Operand) (a b : Value) (h : ∀ c d, a = .agg c → b = .agg d → False) (h' : a ≠ .nilIface) : (eqGuard op t x y a b).run P w = .ok () w := by
  unfold eqGuard
  cases op <;> first
    | rfl
    | (cases a <;> cases b <;> first | rfl | exact absurd rfl h' | exact (h _ _ rfl rfl).elim)

theorem isKd_ok (hE : ∀ t i, E t = some i → TIok P t i) {t : TypeId} {k : Kd} (h : isKd E t k = true) : ∃ i, TIok P t i ∧ i.kd = k := by
  unfold isKd at h
  cases hi : E t with
  | none => rw [hi] at h; cases h
  | some i => rw [hi] at h; exact ⟨i, hE t i hi, of_decide_eq_true h⟩

theorem isSl_ok (hE : ∀ t i, E t = some i → TIok P t i) {t : TypeId} (h : isSl E t = true) : ∃ e, P.underlying t = some (.slice e) := by
  unfold isSl at h
  cases hi : E t with
  | none => rw [hi] at h; cases h
  | some i =>
    rw [hi] at h
    simp only at h
    have hu := (hE t i hi).und
    cases hk : i.kd <;> rw [hk] at h hu <;> simp only at h <;> first | exact ⟨_, hu⟩ | cases h

theorem run_equal_bool {t : TypeId} (hu : P.underlying t = some .bool) (a b : Bool) : (Op.equal t (.bool a) (.bool b)).run P w = .ok (a == b) w := by
  have : Op.equal t (.bool a) (.bool b) = Op.equalIn (9999 + 1) t (.bool a) (.bool b) := rfl
  rw [this, Op.equalIn]
  simp [run_und hu]

theorem run_equal_nil {t e : TypeId} (hu : P.underlying t = some (.slice e)) (A : Option Addr) (n c : Nat) : (Op.equal t (.slice A n c) (.slice none 0 0)).run P w = .ok A.isNone w := by
  have : Op.equal t (.slice A n c) (.slice none 0 0) = Op.equalIn (9999 + 1) t (.slice A n c) (.slice none 0 0) := rfl
  rw [this, Op.equalIn]
  cases A <;> simp [run_und hu]

theorem bool_bin {t : TypeId} (hu : P.underlying t = some .bool) (hh : HRel φ hp f w) (op : BinOp) (ox oy : Operand) (a b : Bool) :
    FRok φ hp w f (match op with | .eql => .b (Lv.std.beq a b) | .neq => .b (Lv.std.bnot (Lv.std.beq a b)) | _ => .bad) ((do eqGuard op t ox oy (.bool a) (.bool b); binOp op t (.bool a) (.bool b) : Sem Value).run P w) := by
  rw [bind_ok (noGuard op t ox oy _ _ (by intro c d h; cases h) (by simp))]
  have := run_equal_bool (w := w) hu a b
  cases op
  case eql => exact good_pure hh (v := .bool (a == b)) (by simp [binOp, this]) rfl
  case neq => exact good_pure hh (v := .bool (!(a == b))) (by simp [binOp, this]) rfl
  all_goals exact trivial

theorem nil_bin {t e : TypeId} (hu : P.underlying t = some (.slice e)) (hh : HRel φ hp f w) (op : BinOp) (ox oy : Operand) (A : Option Addr) (n c : Nat) :
    FRok φ hp w f (match op with | .eql | .neq => .amb | _ => .bad) ((do eqGuard op t ox oy (.slice A n c) (.slice none 0 0); binOp op t (.slice A n c) (.slice none 0 0) : Sem Value).run P w) := by
  rw [bind_ok (noGuard op t ox oy _ _ (by intro c d h; cases h) (by simp))]
  have := run_equal_nil (w := w) hu A n c
  cases op
  case eql => exact ⟨_, good_pure hh (v := .bool A.isNone) (by simp [binOp, this]) rfl⟩
  case neq => exact ⟨_, good_pure hh (v := .bool (!A.isNone)) (by simp [binOp, this]) rfl⟩
  all_goals exact trivial

theorem boolC_ok {φ : Phi} {ok : Nat → Prop} {w : World} {c : C} {b : Bool} (h : boolC c = some b) {v : Value} (hv : Crel φ ok w c v) : v = .bool b := by
  cases c <;> simp only [boolC] at h <;> first
    | (cases h; exact hv)
    | cases h

theorem eqF {P : Program} {E : Ev} {w : World} {φ : Phi} (hE : ∀ t i, E t = some i → TIok P t i) {ok : Nat → Prop} (d : Nat) (xs ys : List Value) : ∀ (fs : List Field) (k : Nat) (as bs : List C) (c : Bool), eqSt Lv.std E k (fs.map fun f => (f.offset, f.type)) as bs = some c →
    (∀ fd ∈ fs, (fd.name != "_") = true) → L2 (Crel φ ok w) as (xs.drop k) → L2 (Crel φ ok w) bs (ys.drop k) → (Op.eqFields (d + 1) xs.toArray ys.toArray fs).run P w = .ok c w
  | [], k, as, bs, c, h, _, ha, hb => by
    cases as with
    | cons _ _ => cases h
    | nil => cases bs with
      | cons _ _ => cases h
      | nil => cases h; rfl
  | fd :: fs, k, as, bs, c, h, hn, ha, hb => by
    cases as with
    | nil => cases h
    | cons a as =>
      cases bs with
      | nil => cases h
      | cons b bs =>
        match hxd : xs.drop k, ha with
        | x :: xr, ha =>
          match hyd : ys.drop k, hb with
          | y :: yr, hb =>
            have hx : xs[k]? = some x := by rw [← List.head?_drop, hxd]; rfl
            have hy : ys[k]? = some y := by rw [← List.head?_drop, hyd]; rfl
            have hxr : xs.drop (k + 1) = xr := by rw [← List.tail_drop, hxd]; rfl
            have hyr : ys.drop (k + 1) = yr := by rw [← List.tail_drop, hyd]; rfl
            simp only [List.map_cons] at h
            unfold eqSt at h
            split at h
            · rename_i hoff
              have hoff' := Nat.eq_of_beq_eq_true hoff
              cases hi : E fd.type with
              | none => rw [hi] at h; cases h
              | some q =>
                rw [hi] at h
                simp only at h
                cases hc' : eqSt Lv.std E (k + 1) (fs.map fun f => (f.offset, f.type)) as bs with
                | none => rw [hc'] at h; cases h
                | some c' =>
                  rw [hc'] at h
                  simp only at h
                  have ih := eqF hE d xs ys fs (k + 1) as bs c' hc' (fun fd' hm => hn fd' (by simp [hm])) (by rw [hxr]; exact ha.2) (by rw [hyr]; exact hb.2)
                  have hne : fd.name ≠ "_" := by simpa using hn fd (by simp)
                  have hI := hE _ _ hi
                  have hu := hI.und
                  have hpart : q.kd.isAgg = false → ∀ (zs : List Value) (z : Value), zs[k]? = some z → (part fd.type zs.toArray fd.offset).run P w = .ok z w := fun hagg zs z hz => by
                    have hsz := hI.one hagg
                    have hlt := (List.getElem?_eq_some_iff.1 hz).1
                    obtain ⟨v, g1, g2⟩ := run_part (P := P) (w := w) hI zs fd.offset (by omega)
                    rw [hagg] at g2
                    simp only [Bool.false_eq_true, if_false] at g2
                    rw [g1]
                    have : (List.take q.size (zs.drop fd.offset))[0]? = some z := by
                      rw [List.getElem?_take, if_pos (by omega), List.getElem?_drop, show fd.offset + 0 = k by omega]; exact hz
                    rw [g2] at this
                    simp only [List.getElem?_cons_zero, Option.some.injEq] at this
                    rw [this]
                  have fin : q.kd.isAgg = false → ∀ r : Bool, (Op.equalIn (d + 1) fd.type x y).run P w = .ok r w → c = (r && c') → (Op.eqFields (d + 1) xs.toArray ys.toArray (fd :: fs)).run P w = .ok c w := by
                    rintro hagg r hr rfl
                    rw [Op.eqFields, if_pos hne]
                    simp only [Sem.run_bind, hpart hagg xs x hx, hpart hagg ys y hy, hr, Result.andThen_ok]
                    cases r
                    · rfl
                    · simpa using ih
                  cases hk : q.kd <;> rw [hk] at h hu <;> simp only at h hu <;> try (cases h; done)
                  · cases a with
                    | int k1 n =>
                      cases b with
                      | int k2 m =>
                        simp only at h
                        split at h
                        · rename_i e
                          subst e
                          cases h
                          obtain rfl : x = .int k1 n := ha.1
                          obtain rfl : y = .int k1 m := hb.1
                          exact fin (by rw [hk]; rfl) (n == m) (run_equalIn_int w d fd.type k1 _ n m hu) rfl
                        · cases h
                      | _ => cases h
                    | _ => cases h
                  · cases h1 : boolC a with
                    | none => rw [h1] at h; cases h
                    | some p1 =>
                      cases h2 : boolC b with
                      | none => rw [h1, h2] at h; cases h
                      | some p2 =>
                        rw [h1, h2] at h
                        cases h
                        obtain rfl := boolC_ok h1 ha.1
                        obtain rfl := boolC_ok h2 hb.1
                        exact fin (by rw [hk]; rfl) (p1 == p2) (run_equalIn_bool' w d fd.type p1 p2 hu) rfl
                  · cases a with
                    | str p1 =>
                      cases b with
                      | str p2 =>
                        simp only at h
                        cases h
                        obtain rfl : x = .string p1 := ha.1
                        obtain rfl : y = .string p2 := hb.1
                        exact fin (by rw [hk]; rfl) (p1.toList == p2.toList) (run_equalIn_string w d fd.type p1 p2 hu) rfl
                      | _ => cases h
                    | _ => cases h
            · cases h

theorem agg_bin (hE : ∀ t i, E t = some i → TIok P t i) {t : TypeId} {a b : List C} {c : Bool} (h : eqAgg Lv.std E t a b = some c) (op : BinOp) (ox oy : Operand) {xs ys : List Value} (hx : L2 (Crel φ (okb φ hp) w) a xs) (hy : L2 (Crel φ (okb φ hp) w) b ys) :
    (eqGuard op t ox oy (.agg xs.toArray) (.agg ys.toArray)).run P w = .ok () w ∧ (Op.equalIn 10000 t (.agg xs.toArray) (.agg ys.toArray)).run P w = .ok c w := by
  unfold eqAgg at h
  cases hi : E t with
  | none => rw [hi] at h; cases h
  | some i =>
    rw [hi] at h
    simp only at h
    have hu := (hE t i hi).und
    cases hk : i.kd <;> rw [hk] at h hu <;> simp only at h hu <;> try (cases h; done)
    obtain ⟨fsA, q1, q2, q3, q4, q5⟩ := hu
    have hf : P.fieldsOf t = fsA := by unfold Program.fieldsOf; rw [q1]
    refine ⟨run_eqGuard_agg w op t ox oy _ _ q5, ?_⟩
    have h1 := run_equalIn_struct (P := P) w 9999 t xs.toArray ys.toArray (by rw [hf]; exact q1) q4
    rw [show (10000 : Nat) = 9999 + 1 from rfl, h1, hf]
    rw [← q2] at h
    exact eqF hE 9998 xs ys fsA.toList 0 a b c h (List.all_eq_true.1 q3) hx hy

theorem isIfc_ok (hE : ∀ t i, E t = some i → TIok P t i) {t : TypeId} (h : isIfc E t = true) : ∃ ms, P.underlying t = some (.interface ms) := by
  unfold isIfc at h
  split at h
  · rename_i i e
    have hu := (hE _ _ e).und
    split at h
    · rename_i ts hk
      rw [hk] at hu
      obtain ⟨ms, h1, _⟩ := hu
      exact ⟨ms, h1⟩
    · cases h
  · cases h

theorem isIfcOf_ok (hE : ∀ t i, E t = some i → TIok P t i) {t x : TypeId} (h : isIfcOf E t x = true) : ∃ ms, P.underlying t = some (.interface ms) ∧ (P.info? x).map (·.comparable) = some true ∧ ∃ q, P.underlying x = some (.int q) := by
  unfold isIfcOf at h
  split at h
  · rename_i i e
    have hu := (hE _ _ e).und
    split at h
    · rename_i ts hk
      rw [hk] at hu
      obtain ⟨ms, h1, h2⟩ := hu
      rw [List.any_eq_true] at h
      obtain ⟨y, hy, hb⟩ := h
      have := beq_eq hb; subst this
      exact ⟨ms, h1, h2 _ hy⟩
    · cases h
  · cases h

theorem isNilC_ok {ok : Nat → Prop} {x : V} {a : Value} {b : Bool} (h : isNilC x = some b) (hx : Vrel φ ok w x a) : (b = true ∧ a = .nilIface) ∨ (b = false ∧ ∃ u z, a = .iface u z) := by
  unfold isNilC at h
  split at h
  · cases h; exact .inl ⟨rfl, hx⟩
  · cases h; exact .inr ⟨rfl, _, _, hx⟩
  · cases h; exact .inr ⟨rfl, hx⟩
  · cases h

theorem nil_ok (hE : ∀ t i, E t = some i → TIok P t i) (hh : HRel φ hp f w) (op : BinOp) (t : TypeId) (ox : Operand) (x y : V) (a b : Value) (hx : Vrel φ (okb φ hp) w x a) (hy : Vrel φ (okb φ hp) w y b) :
    FRok φ hp w f (fnil E op t x y) ((do eqGuard op t ox (.const .nilIface) a b; binOp op t a b : Sem Value).run P w) := by
  unfold fnil
  have key : ∀ c, isIfc E t = true → isNilC y = some true → isNilC x = some c → ((do eqGuard .eql t ox (.const .nilIface) a b; binOp .eql t a b : Sem Value).run P w = .ok (.bool c) w ∧ (do eqGuard .neq t ox (.const .nilIface) a b; binOp .neq t a b : Sem Value).run P w = .ok (.bool (!c)) w) := by
    intro c h1 h3 h2
    obtain ⟨ms, hm⟩ := isIfc_ok hE h1
    obtain rfl : b = .nilIface := by
      rcases isNilC_ok h3 hy with ⟨_, h⟩ | ⟨h, _⟩
      · exact h
      · cases h
    rcases isNilC_ok h2 hx with ⟨rfl, rfl⟩ | ⟨rfl, u, z, rfl⟩
    · have h : ∀ d : Nat, (Op.equalIn (d + 1) t .nilIface .nilIface).run P w = .ok true w := fun d => by simp [Op.equalIn, run_underlying hm]
      constructor <;> simp [eqGuard, binOp, Op.equal, Op.maxDepth, h 9999]
    · have h : ∀ d : Nat, (Op.equalIn (d + 1) t (.iface u z) .nilIface).run P w = .ok false w := fun d => by simp [Op.equalIn, run_underlying hm]
      constructor <;> simp [eqGuard, binOp, Op.equal, Op.maxDepth, h 9999]
  split
  · rename_i b h1 h2 h3
    exact good_pure hh (key _ h1 h2 h3).1 rfl
  · rename_i b h1 h2 h3
    exact good_pure hh (key _ h1 h2 h3).2 rfl
  · exact trivial

theorem mki_ok (hE : ∀ t i, E t = some i → TIok P t i) (hh : HRel φ hp f w) (t : TypeId) (x : V) (a : Value) (hx : Vrel φ (okb φ hp) w x a) :
    FRok φ hp w f (fmki E t x) ((Instr.makeInterface t a).run P w) := by
  unfold fmki
  split
  · rename_i i e
    have hu := (hE _ _ e).und
    split
    · rename_i k k' n hk
      rw [hk] at hu
      obtain rfl : a = .int k' n := hx
      exact good_pure hh (v := .iface t (.int k' n)) (by simp [Instr.makeInterface, run_underlying (show P.underlying t = some (.int k) from hu)]) rfl
    · rename_i e' hk
      rw [hk] at hu
      exact good_pure hh (v := .iface t a) (by simp [Instr.makeInterface, run_underlying (show P.underlying t = some (.pointer e') from hu)]) ⟨t, a, rfl⟩
    · exact trivial
  · exact trivial

theorem bin_ok (hE : ∀ t i, E t = some i → TIok P t i) (hh : HRel φ hp f w) (op : BinOp) (t : TypeId) (ox oy : Operand) (x y : V) (a b : Value) (hx : Vrel φ (okb φ hp) w x a) (hy : Vrel φ (okb φ hp) w y b) :
    FRok φ hp w f (fbin Lv.std E op t x y) ((do eqGuard op t ox oy a b; binOp op t a b : Sem Value).run P w) := by
  unfold fbin
  split
  · rename_i k p k' q
    obtain rfl : a = .int k p := hx
    obtain rfl : b = .int k' q := hy
    rw [bind_ok (noGuard op t ox oy _ _ (by intro c d h; cases h) (by simp))]
    split
    · intro h0
      have h0' : ¬ q < 0 := by have : (0 : Int) ≤ q := h0; omega
      exact good_pure hh (v := .int k (shift .shl k p q)) (by simp [binOp, Op.shift, h0', shift]) rfl
    · intro h0
      have h0' : ¬ q < 0 := by have : (0 : Int) ≤ q := h0; omega
      exact good_pure hh (v := .int k (shift .shr k p q)) (by simp [binOp, Op.shift, h0', shift]) rfl
    · split
      · rename_i e; subst e
        intro h0
        have h0' : q ≠ 0 := h0
        exact good_pure hh (v := .int k (divide .quo k p q)) (by simp [binOp, Op.intDiv, h0', divide]) rfl
      · exact trivial
    · split
      · rename_i e; subst e
        intro h0
        have h0' : q ≠ 0 := h0
        exact good_pure hh (v := .int k (divide .rem k p q)) (by simp [binOp, Op.intDiv, h0', divide]) rfl
      · exact trivial
    · rename_i n1 n2 n3 n4
      split
      · rename_i e; subst e
        split
        · rename_i h1
          exact good_pure hh (int_binOp op t k p q h1) rfl
        · rename_i h1
          have h2 : opCmp op = true := by cases op <;> simp_all [opOk, opCmp]
          exact good_pure hh (int_cmp op t k p q h2) rfl
      · exact trivial
  · rename_i p q
    obtain rfl : a = .string p := hx
    obtain rfl : b = .string q := hy
    rw [bind_ok (noGuard op t ox oy _ _ (by intro c d h; cases h) (by simp))]
    split
    · intro h0
      have h0' : p.size + q.size ≤ 9223372036854775807 := h0
      have hm : ¬ ((p.size + q.size : Nat) : Int) > IntKind.i64.max := by
        have : IntKind.i64.max = 9223372036854775807 := by decide
        omega
      refine good_pure hh (v := .string (p ++ q)) ?_ rfl
      simp only [binOp, Op.stringOp]
      rw [Sem.run_ite, if_neg hm]; rfl
    · split
      · rename_i h1; exact good_pure hh (str_cmp op t p q h1) rfl
      · exact trivial
  iterate 4
    · rename_i p q
      obtain rfl : a = .bool p := hx
      obtain rfl : b = .bool q := hy
      split
      · rename_i hk
        obtain ⟨i, hI, hk⟩ := isKd_ok hE hk
        have hu := hI.und
        rw [hk] at hu
        exact bool_bin hu hh op ox oy p q
      · exact trivial
  · obtain rfl : a = _ := hx
    obtain rfl : b = _ := hy
    split
    · rename_i hk
      obtain ⟨e, hu⟩ := isSl_ok hE hk
      rw [bind_ok (noGuard op t ox oy _ _ (by intro c d h; cases h) (by simp))]
      have := run_equal_nil (w := w) hu none 0 0
      cases op
      case eql => exact good_pure hh (v := .bool true) (by simp [binOp, this]) rfl
      case neq => exact good_pure hh (v := .bool false) (by simp [binOp, this]) rfl
      all_goals exact trivial
    · exact trivial
  · obtain ⟨A, c, h1, _⟩ := hx
    obtain rfl : a = _ := by simpa using h1
    obtain rfl : b = _ := hy
    split
    · rename_i hk
      obtain ⟨e, hu⟩ := isSl_ok hE hk
      exact nil_bin hu hh op ox oy _ _ _
    · exact trivial
  · obtain rfl : b = _ := hy
    split
    · rename_i hk
      obtain ⟨e, hu⟩ := isSl_ok hE hk
      rcases hx with ⟨_, _, A, rfl⟩ | ⟨_, _, _, _, _, _, rfl⟩
      · exact nil_bin hu hh op ox oy _ _ _
      · exact nil_bin hu hh op ox oy _ _ _
    · exact trivial
  · rename_i t1 k p t2 k' q
    obtain rfl : a = .iface t1 (.int k p) := hx
    obtain rfl : b = .iface t2 (.int k' q) := hy
    split
    · rename_i hk
      simp only [Bool.and_eq_true, decide_eq_true_eq] at hk
      obtain ⟨⟨hk1, hk2⟩, rfl⟩ := hk
      have := beq_eq hk2; subst this
      obtain ⟨ms, h1, h2, q', h3⟩ := isIfcOf_ok hE hk1
      rw [bind_ok (noGuard op t ox oy _ _ (by intro c d h; cases h) (by simp))]
      have hE1 := Lib.run_eql_iface_int (P := P) w (k := k) p q h1 h2 h3
      have hE2 := Lib.run_neq_iface_int (P := P) w (k := k) p q h1 h2 h3
      cases op
      case eql => exact good_pure hh (v := .bool (p == q)) hE1 rfl
      case neq => exact good_pure hh (v := .bool (!(p == q))) hE2 rfl
      all_goals exact trivial
    · exact trivial
  · obtain ⟨xs, rfl, hxs⟩ := hx
    obtain ⟨ys, rfl, hys⟩ := hy
    split
    · rename_i c hc
      obtain ⟨h1, h2⟩ := agg_bin hE hc .eql ox oy hxs hys
      rw [bind_ok h1]
      exact good_pure hh (v := .bool c) (by rw [run_eql_struct, h2]; rfl) rfl
    · rename_i c hc
      obtain ⟨h1, h2⟩ := agg_bin hE hc .neq ox oy hxs hys
      rw [bind_ok h1]
      exact good_pure hh (v := .bool (!c)) (by rw [run_neq_struct, h2]; rfl) rfl
    · exact trivial
  · exact trivial
end
end Go.VM
set_option autoImplicit false
set_option linter.all false
namespace Go.VM
open Go

section
variable {P : Program} {E : Ev} {φ : Phi} {w : World} {hp : Hp} {f : Nat}

theorem cells_rel {ok : Nat → Prop} {x : V} {v : Value} (h : Vrel φ ok w x v) (hk : knownV x = true) : L2 (Crel φ ok w) x.cells v.cells.toList := by
  cases x with
  | c x =>
    have : v.cells = #[v] := by
      cases x <;> simp only [knownV, Bool.false_eq_true] at hk <;> simp only [Vrel, Crel] at h
      case int => rw [h]; rfl
      case bool => rw [h]; rfl
      case sym => rw [h]; rfl
      case str => rw [h]; rfl
      case sl =>
        obtain ⟨A, c, h1, _⟩ := h
        simp only [List.cons.injEq, and_true] at h1
        rw [h1]; rfl
      case nils => rw [h]; rfl
      case own => rcases h with ⟨_, _, _, rfl⟩ | ⟨_, _, _, _, _, _, rfl⟩ <;> rfl
      case ptr => obtain ⟨_, _, _, _, _, rfl⟩ := h; rfl
      case elp => obtain ⟨_, _, _, _, _, rfl⟩ := h; rfl
      case nilp => rw [h]; rfl
      case fn => obtain ⟨_, rfl, _⟩ := h; rfl
      case nilf => rw [h]; rfl
      case map => obtain ⟨_, _, _, _, _, rfl⟩ := h; rfl
      case nilm => rw [h]; rfl
      case ifn => rw [h]; rfl
      case ife => rw [h]; rfl
      case ifo => obtain ⟨_, _, rfl⟩ := h; rfl
      case selfp => rcases h with rfl | ⟨_, _, _, _, _, rfl⟩ <;> rfl
      case yld => rw [h]; rfl
    rw [this]
    exact ⟨h, trivial⟩
  | agg l =>
    obtain ⟨vs, rfl, hl⟩ := h
    exact hl
  | tup l => cases hk
  | ipt l => cases hk

theorem ok_delAll {b : Nat} (ids : List Nat) (h : okb φ hp b) : okb φ (delAll hp ids) b := fun i o p h1 h2 h3 => by
  rw [lookA_delAll] at h1
  split at h1
  · cases h1
  · exact h i o p h1 h2 h3

theorem K_delAll {t : Ty} {x : t.D} {vs : List Value} (ids : List Nat) (h : K (okb φ hp) w t x vs) : K (okb φ (delAll hp ids)) w t x vs := (evo_delAll φ w ids hp).K _ _ _ h
theorem C_delAll {x : C} {v : Value} (ids : List Nat) (h : Crel φ (okb φ hp) w x v) : Crel φ (okb φ (delAll hp ids)) w x v := (evo_delAll φ w ids hp).C h

theorem delAll_append : ∀ (i j : List Nat) (hp : Hp), delAll hp (i ++ j) = delAll (delAll hp i) j
  | [], _, _ => rfl
  | a :: r, j, hp => by simp only [List.cons_append, delAll]; exact delAll_append r j _

theorem mem_nodup_look {ids : List Nat} {i : Nat} (h : i ∉ ids) (hp : Hp) : lookA (delAll hp ids) i = lookA hp i := by
  rw [lookA_delAll, if_neg h]

/-- Cells seen as a datum. (The rows that it is made of are given up; h: what the rows are, as they were at the beginning.) -/
theorem view_ok (hh : HRel φ hp f w) : ∀ (t : Ty) (cs : List C) (vs : List Value) (x : t.D) (r : List C) (ids : List Nat), view Lv.std (lookA hp) t cs = some (x, r, ids) → L2 (Crel φ (okb φ hp) w) cs vs →
    ∃ vs1 vs2, vs = vs1 ++ vs2 ∧ K (okb φ (delAll hp ids)) w t x vs1 ∧ L2 (Crel φ (okb φ hp) w) r vs2
  | .int k, cs, vs, x, r, ids, h, hl => by
    simp only [view] at h
    unfold vInt at h
    split at h
    · split at h
      · rename_i e; subst e
        simp only [Option.some.injEq, Prod.mk.injEq] at h
        obtain ⟨rfl, rfl, rfl⟩ := h
        match vs, hl with
        | v :: vs', hl => exact ⟨[v], vs', rfl, by rw [show v = _ from hl.1]; rfl, hl.2⟩
      · cases h
    · cases h
  | .bool, cs, vs, x, r, ids, h, hl => by
    simp only [view] at h
    unfold vBool at h
    split at h
    · simp only [Option.some.injEq, Prod.mk.injEq] at h
      obtain ⟨rfl, rfl, rfl⟩ := h
      match vs, hl with
      | v :: vs', hl => exact ⟨[v], vs', rfl, by rw [show v = _ from hl.1]; rfl, hl.2⟩
    · simp only [Option.some.injEq, Prod.mk.injEq] at h
      obtain ⟨rfl, rfl, rfl⟩ := h
      match vs, hl with
      | v :: vs', hl => exact ⟨[v], vs', rfl, by rw [show v = _ from hl.1]; rfl, hl.2⟩
    · cases h
  | .str, cs, vs, x, r, ids, h, hl => by
    simp only [view] at h
    unfold vStr at h
    split at h
    · simp only [Option.some.injEq, Prod.mk.injEq] at h
      obtain ⟨rfl, rfl, rfl⟩ := h
      match vs, hl with
      | v :: vs', hl => exact ⟨[v], vs', rfl, by rw [show v = _ from hl.1]; rfl, hl.2⟩
    · cases h
  | .sl e, cs, vs, x, r, ids, h, hl => by
    simp only [view] at h
    unfold vSl at h
    split at h
    · split at h
      · rename_i q; subst q
        simp only [Option.some.injEq, Prod.mk.injEq] at h
        obtain ⟨rfl, rfl, rfl⟩ := h
        match vs, hl with
        | v :: vs', hl => exact ⟨[v], vs', rfl, hl.1, hl.2⟩
      · cases h
    · simp only [Option.some.injEq, Prod.mk.injEq] at h
      obtain ⟨rfl, rfl, rfl⟩ := h
      match vs, hl with
      | v :: vs', hl => exact ⟨[v], vs', rfl, ⟨none, 0, by rw [show v = _ from hl.1]; rfl, Nat.le_refl _, fun h0 => absurd h0 (by simp)⟩, hl.2⟩
    · rename_i id n r' 
      split at h
      · rename_i l ids' hv
        simp only [Option.some.injEq, Prod.mk.injEq] at h
        obtain ⟨rfl, rfl, rfl⟩ := h
        unfold vRow at hv
        split at hv
        · rename_i t' e' l' ho
          split at hv
          · rename_i q; subst q
            simp only [Option.some.injEq, Prod.mk.injEq] at hv
            obtain ⟨rfl, rfl⟩ := hv
            match vs, hl with
            | v :: vs', hl =>
              refine ⟨[v], vs', rfl, ?_, hl.2⟩
              rcases hl.1 with ⟨h1, rfl, A, rfl⟩ | ⟨b, sz, cap, nn, h1, h2, rfl⟩
              · exact ⟨A, 0, by show _ = [Value.slice A (List.length (List.take 0 l')) 0]; simp, by show List.length (List.take 0 l') ≤ 0; simp, fun h0 => by change 0 < List.length (List.take 0 l') at h0; simp at h0⟩
              · obtain ⟨q1, q2, q3, q4⟩ := row_K hh ho h1
                have := K_take (w := w) 0 n (Nat.zero_le _) (by omega) q4 (some ⟨b, 0, none⟩) (fun _ => by simp [Addr.add])
                exact (by simpa using this : K (okb φ (delA hp id)) w (.sl e') (List.take n l') [.slice (some ⟨b, 0, none⟩) n cap])
          · cases hv
        · rename_i t' e' l' j0 cs0 ho
          split at hv
          · rename_i q; subst q
            split at hv
            · rename_i y ids0 hvw
              simp only [Option.some.injEq, Prod.mk.injEq] at hv
              obtain ⟨rfl, rfl⟩ := hv
              match vs, hl with
              | v :: vs', hl =>
                refine ⟨[v], vs', rfl, ?_, hl.2⟩
                obtain ⟨b, cap, arr, g1, g2, g3, g4, g5, g6, g7, us, g8, g9⟩ := hh.ob id _ ho
                rcases hl.1 with ⟨h1, _⟩ | ⟨b', sz, cap', nn, h1, h2, rfl⟩
                · rw [g1] at h1; cases h1
                · rw [g1] at h1; cases h1
                  obtain ⟨va, vb, rfl, ha, hb⟩ := view_ok hh e' cs0 us y [] ids0 hvw g8
                  have : vb = [] := by
                    cases vb with
                    | nil => rfl
                    | cons _ _ => exact hb.elim
                  subst this
                  rw [List.append_nil] at g9
                  have hokb : okb φ (delAll hp (id :: ids0)) b := by
                    intro i o p k1 k2 k3
                    rw [lookA_delAll] at k1
                    split at k1
                    · cases k1
                    · rename_i hn
                      exact hh.dj i id o _ p _ b k1 ho (fun e => hn (by simp [e])) k2 g1 k3 rfl
                  have hmono : ∀ (t : Ty) (x : t.D) (cs : List Value), K (okb φ hp) w t x cs → K (okb φ (delAll hp (id :: ids0))) w t x cs := fun t x cs hk => K_delAll _ hk
                  have hlen : List.length (List.set l' j0 y) = List.length (α := e'.D) l' := List.length_set
                  have hfull : K (okb φ (delAll hp (id :: ids0))) w (.sl e') (List.set l' j0 y) [.slice (some ⟨b, 0, none⟩) (List.length (α := e'.D) (List.set l' j0 y)) cap] := by
                    refine ⟨_, cap, rfl, by rw [hlen]; exact g4, fun _ => ⟨_, rfl, hokb, fun q x hx => ?_⟩⟩
                    by_cases hq : q = j0
                    · subst hq
                      rw [List.getElem?_set_self g6] at hx
                      cases hx
                      refine ⟨va, ?_, fun i u hu => ?_⟩
                      · refine K_mono (fun bl hbl _ => ⟨rfl, ?_⟩) e' _ _ ha
                        intro i o p k1 k2 k3
                        rw [lookA_delAll] at k1
                        split at k1
                        · cases k1
                        · rename_i hn
                          refine hbl i o p ?_ k2 k3
                          rw [lookA_delAll, if_neg (fun hm => hn (by simp [hm]))]
                          exact k1
                      · rw [add_plain, Nat.zero_add, cell_at g2]
                        exact g9 i u hu
                    · rw [List.getElem?_set_ne (fun e => hq e.symm)] at hx
                      obtain ⟨vs1, q1, q2⟩ := g5 q x hq hx
                      refine ⟨vs1, hmono _ _ _ q1, fun i u hu => ?_⟩
                      rw [add_plain, Nat.zero_add, cell_at g2]
                      exact q2 i u hu
                  have := K_take (w := w) 0 n (Nat.zero_le _) (by rw [hlen]; exact h2) hfull (some ⟨b, 0, none⟩) (fun _ => by simp [Addr.add])
                  exact (by simpa using this : K (okb φ (delAll hp (id :: ids0))) w (.sl e') (List.take n (List.set l' j0 y)) [.slice (some ⟨b, 0, none⟩) n cap])
            · cases hv
          · cases hv
        · cases hv
      · cases h
    · cases h
  | .pair a b, cs, vs, x, r, ids, h, hl => by
    simp only [view] at h
    split at h
    · rename_i x1 r1 i1 h1
      split at h
      · rename_i y1 r2 j1 h2
        simp only [Option.some.injEq, Prod.mk.injEq] at h
        obtain ⟨rfl, rfl, rfl⟩ := h
        obtain ⟨va, vb, rfl, ha, hb⟩ := view_ok hh a cs vs x1 r1 i1 h1 hl
        obtain ⟨vc, vd, rfl, hc, hd⟩ := view_ok hh b r1 vb y1 r2 j1 h2 hb
        refine ⟨va ++ vc, vd, by simp, ⟨va, vc, rfl, ?_, ?_⟩, hd⟩
        · rw [delAll_append]; exact K_delAll j1 ha
        · refine K_mono (fun bl hbl hlt => ⟨rfl, ?_⟩) b _ _ hc
          intro i o p g1 g2 g3
          rw [lookA_delAll] at g1
          split at g1
          · cases g1
          · rename_i hn
            refine hbl i o p ?_ g2 g3
            rw [lookA_delAll, if_neg (fun hm => hn (by simp [hm]))]
            exact g1
      · cases h
    · cases h
  | .wrap a, cs, vs, x, r, ids, h, hl => by
    simp only [view] at h
    exact view_ok hh a cs vs x r ids h hl

/-- A new object, behind others that are given up. -/
theorem good_newk {w' : World} {x : V} {v : Value} {run : Result Value} (h : HRel φ hp f w) (kill : List Nat) (o : Ob) (p : Place) (hr : run = .ok v w')
    (hb : Go.RowKit.Below w.heap.size w w') (hpl : ∀ b, p.S b → w.heap.size ≤ b)
    (ho : Orel (phiSet φ f p) (okb (phiSet φ f p) ((f, o) :: delAll hp kill)) w' f o) (hv : Vrel (phiSet φ f p) (okb (phiSet φ f p) ((f, o) :: delAll hp kill)) w' x v) :
    Good φ hp w f x [o] kill run :=
  ⟨v, w', _, _, hr, rfl, (h.delAll kill).new (Nat.le_refl _) o p hb hpl ho, (evo_delAll φ w kill hp).trans (evo_new (h.delAll kill) (Nat.le_refl _) o p hb hpl), hv, fun id hid => by unfold phiSet; rw [if_neg (by omega)]⟩

theorem run_newVar (t : TypeId) (v : Value) : (newVar t v).run P w = .ok ⟨w.heap.size, 0, none⟩ (w.alloc (.cells v.cells t (0, 0))) := by
  simp [newVar, newRow]

theorem heap_new (w : World) (o : Obj) : (w.alloc o).heap[w.heap.size]? = some o := by
  show (w.heap.push o)[w.heap.size]? = _
  simp

theorem below_new (w : World) (o : Obj) : Go.RowKit.Below w.heap.size w (w.alloc o) := (Go.RowKit.Below.refl _ _).alloc (Nat.le_refl _) o

theorem phiSet_self (φ : Phi) (f : Nat) (p : Place) : phiSet φ f p f = some p := by simp [phiSet]

theorem Z_rel {ok : Nat → Prop} (z : Z) : Crel φ ok w z.c z.val := by cases z <;> rfl

theorem Z_relAt {ok : Nat → Prop} (f : Nat) (z : Z) : Crel φ ok w (z.cAt f) z.val := by
  cases z <;> first | rfl | exact .inl rfl

theorem L2_map {α β γ : Type} {R : β → γ → Prop} {g : α → β} {h : α → γ} (hr : ∀ a, R (g a) (h a)) : ∀ l : List α, L2 R (l.map g) (l.map h)
  | [] => trivial
  | a :: r => ⟨hr a, L2_map hr r⟩

theorem alloc_ok (hE : ∀ t i, E t = some i → TIok P t i) (hh : HRel φ hp f w) (t : TypeId) (b : Bool) (o : Value) (hb : b = true) : FRok φ hp w f (falloc E f t) ((Instr.alloc t b o).run P w) := by
  subst hb
  unfold falloc
  cases hi : E t with
  | none => exact trivial
  | some i =>
    obtain ⟨z, hz, hzc⟩ := run_zero (hE t i hi) w
    refine good_newk hh [] _ (.at w.heap.size 1 0 0) (v := .pointer (some ⟨w.heap.size, 0, none⟩)) (w' := w.alloc (.cells z.cells t (0, 0))) ?_ (below_new _ _) (fun b hb => by cases hb; exact Nat.le_refl _) ?_ ?_
    · simp [Instr.alloc, hz, run_newVar]
    · refine ⟨w.heap.size, i.zero.map Z.val, phiSet_self _ _ _, ?_, L2_map (fun z => Z_relAt _ z) _⟩
      rw [heap_new, ← hzc]
    · exact ⟨_, _, _, _, phiSet_self _ _ _, rfl⟩

theorem box_ok (hh : HRel φ hp f w) (t : TypeId) (x : V) (v : Value) (hx : Vrel φ (okb φ hp) w x v) : FRok φ hp w f (fbox f t x) ((Instr.box t v).run P w) := by
  unfold fbox
  split
  · rename_i hk
    have hl := cells_rel hx hk
    have hb := below_new w (.cells v.cells t (0, 0))
    have hpl : ∀ b, (Place.at w.heap.size 1 0 0).S b → w.heap.size ≤ b := fun b hb => by cases hb; exact Nat.le_refl _
    have ev := evo_new hh (Nat.le_refl f) (.box t x.cells) (.at w.heap.size 1 0 0) hb hpl
    refine good_newk hh [] _ (.at w.heap.size 1 0 0) (v := .pointer (some ⟨w.heap.size, 0, none⟩)) (w' := w.alloc (.cells v.cells t (0, 0))) ?_ hb hpl ?_ ?_
    · simp [Instr.box, run_newVar]
    · exact ⟨w.heap.size, v.cells.toList, phiSet_self _ _ _, by rw [heap_new], L2_mono (fun _ _ hh => ev.C hh) hl⟩
    · exact ⟨_, _, _, _, phiSet_self _ _ _, rfl⟩
  · exact trivial
end
end Go.VM
set_option autoImplicit false
set_option linter.all false
namespace Go.VM
open Go

theorem putL_length {α : Type} (l xs : List α) (off : Nat) (h : off + xs.length ≤ l.length) : (putL l off xs).length = l.length := by
  simp only [putL, List.length_append, List.length_take, List.length_drop]; omega

theorem foldl_put {α : Type} : ∀ (vs : List α) (off j : Nat) (cs : Array α), off + j + vs.length ≤ cs.size →
    ((vs.zipIdx j).foldl (fun cs p => cs.setIfInBounds (off + p.2) p.1) cs).toList = putL cs.toList (off + j) vs
  | [], off, j, cs, h => by simp [putL]
  | v :: vs, off, j, cs, h => by
    simp only [List.length_cons] at h
    simp only [List.zipIdx_cons, List.foldl_cons]
    rw [foldl_put vs off (j + 1) _ (by simp; omega)]
    have hlt : off + j < cs.toList.length := by simp; omega
    simp only [putL, Array.toList_setIfInBounds, List.length_cons, ← Nat.add_assoc]
    rw [List.take_set, List.drop_set, if_pos (by omega)]
    rw [List.take_add_one, List.getElem?_eq_getElem hlt]
    simp only [Option.toList_some]
    rw [List.set_append]
    simp only [List.length_take, Nat.min_eq_left (Nat.le_of_lt hlt), Nat.lt_irrefl, if_false, Nat.sub_self, List.set_cons_zero]
    rw [show off + j + 1 + vs.length = off + j + (vs.length + 1) by omega]
    simp only [List.append_assoc, List.cons_append, List.nil_append]
    rfl

theorem fold_put {α : Type} (vs : Array α) (off : Nat) (cs : Array α) (h : off + vs.size ≤ cs.size) :
    (vs.zipIdx.foldl (fun cs p => cs.setIfInBounds (off + p.2) p.1) cs).toList = putL cs.toList off vs.toList := by
  rw [← Array.foldl_toList, Array.toList_zipIdx]
  simpa using foldl_put vs.toList off 0 cs (by simpa using h)

theorem L2_put {α β : Type} {R : α → β → Prop} {l xs : List α} {m ys : List β} (h : L2 R l m) (hx : L2 R xs ys) (off : Nat) : L2 R (putL l off xs) (putL m off ys) := by
  unfold putL
  rw [L2_len hx]
  exact L2_append (L2_append (L2_take off h) hx) (L2_drop _ h)

section
variable {P : Program} {E : Ev} {φ : Phi} {w : World} {hp : Hp} {f : Nat}

/-- One part of an aggregate is laid. -/
theorem fill_cons {place : Nat → Option (Nat × Nat)} {cells : Array Value} {i : Nat} {v : Value} {rest : List (Nat × Value)} {off size : Nat} (hpl : place i = some (off, size)) (hs : v.cells.size = size) (hl : off + size ≤ cells.size) :
    ∃ cells' : Array Value, cells'.toList = putL cells.toList off v.cells.toList ∧ Instr.fill place cells ((i, v) :: rest) = Instr.fill place cells' rest := by
  refine ⟨_, fold_put v.cells off cells (by omega), ?_⟩
  simp only [Instr.fill, hpl, hs, ne_eq, not_true, decide_false, Bool.false_or]
  rw [if_neg (by simp; omega)]

theorem fillC_ok (hE : ∀ t i, E t = some i → TIok P t i) {place : Nat → Option (Nat × Nat)} {fs : List (Nat × TypeId)} (hpl : ∀ i off t, fs[i]? = some (off, t) → 0 < szOf E t → place i = some (off, szOf E t)) :
    ∀ (parts : List (Nat × V)) (pv : List (Nat × Value)) (cs out : List C) (cells : Array Value), L2 (Crel φ (okb φ hp) w) cs cells.toList →
      L2 (fun p q => p.1 = q.1 ∧ Vrel φ (okb φ hp) w p.2 q.2) parts pv → fillC E fs cs parts = some out →
      ∃ cells', Instr.fill place cells pv = some cells' ∧ L2 (Crel φ (okb φ hp) w) out cells'.toList
  | [], [], cs, out, cells, hl, _, h => by
    simp only [fillC, Option.some.injEq] at h
    subst h
    exact ⟨cells, rfl, hl⟩
  | (i, v) :: r, (i', u) :: pr, cs, out, cells, hl, hp', h => by
    obtain ⟨⟨e, hv⟩, hr⟩ := hp'
    simp only at e hv
    subst e
    unfold fillC at h
    split at h
    · rename_i off t hf
      split at h
      · rename_i hc
        simp only [Bool.and_eq_true] at hc
        have hb := beq_eq hc.1.2
        have hle := Nat.le_of_ble_eq_true hc.2
        have hv' := cells_rel hv hc.1.1.2
        have hus : u.cells.toList.length = u.cells.size := by simp
        have hcs : cells.toList.length = cells.size := by simp
        have hvl := L2_len hv'
        have hcl := L2_len hl
        have hpos : 0 < szOf E t := Nat.le_of_ble_eq_true hc.1.1.1
        obtain ⟨cells', h1, h2⟩ := fill_cons (rest := pr) (cells := cells) (v := u) (hpl i off t hf hpos) (by omega) (by omega)
        rw [h2]
        exact fillC_ok hE hpl r pr _ out cells' (by rw [h1]; exact L2_put hl hv' off) hr h
      · cases h
    · cases h
  | [], _ :: _, _, _, _, _, hp', _ => hp'.elim
  | _ :: _, [], _, _, _, _, hp', _ => hp'.elim

theorem run_mapM {α β : Type} (g : α → Sem β) (h : α → β) (w : World) : ∀ l : List α, (∀ a ∈ l, (g a).run P w = .ok (h a) w) → (l.mapM g).run P w = .ok (l.map h) w
  | [], _ => by simp
  | a :: r, hr => by
    have h1 := hr a (by simp)
    have h2 := run_mapM g h w r (fun b hb => hr b (by simp [hb]))
    simp [h1, h2]

theorem run_mapA {α β : Type} (g : α → Sem β) (h : α → β) (w : World) (l : Array α) (hr : ∀ a ∈ l.toList, (g a).run P w = .ok (h a) w) : (l.mapM g).run P w = .ok (l.map h) w := by
  rw [Array.mapM_eq_mapM_toList]
  have := run_mapM (P := P) g h w l.toList hr
  simp only [Sem.run_map, this, Result.andThen_ok]
  congr 1
  apply Array.ext'
  simp

theorem arrFs_get (sz : Nat) (e : TypeId) : ∀ (n k0 k : Nat) (off : Nat) (t : TypeId), (arrFs sz e k0 n)[k]? = some (off, t) → off = (k0 + k) * sz ∧ t = e
  | 0, k0, k, off, t, h => by simp [arrFs] at h
  | n + 1, k0, 0, off, t, h => by simp [arrFs] at h; exact ⟨by rw [Nat.add_zero]; exact h.1.symm, h.2.symm⟩
  | n + 1, k0, k + 1, off, t, h => by
    simp only [arrFs, List.getElem?_cons_succ] at h
    obtain ⟨h1, h2⟩ := arrFs_get sz e n (k0 + 1) k off t h
    exact ⟨by rw [h1]; congr 1; omega, h2⟩

theorem build_ok (hE : ∀ t i, E t = some i → TIok P t i) (hh : HRel φ hp f w) (t : TypeId) (parts : List (Nat × V)) (pv : Array (Nat × Value))
    (hpv : L2 (fun p q => p.1 = q.1 ∧ Vrel φ (okb φ hp) w p.2 q.2) parts pv.toList) : FRok φ hp w f (fbuild E t parts) ((Instr.build t pv).run P w) := by
  unfold fbuild
  cases hi : E t with
  | none => exact trivial
  | some i =>
    have hI := hE t i hi
    simp only
    split
    · rename_i fs hk
      split
      · rename_i hall
        split
        · rename_i cs hf
          have hu := hI.und
          rw [hk] at hu
          obtain ⟨a, h1, h2, _⟩ := hu
          obtain ⟨z, hz, hzc⟩ := run_zero hI w
          have hm : (a.mapM (fun f => do pure (f.offset, ← sizeOf f.type) : Field → Sem (Nat × Nat))).run P w = .ok (a.map (fun f => (f.offset, szOf E f.type))) w := by
            refine run_mapA _ _ w a (fun fd hfd => ?_)
            have hmem : (fd.offset, fd.type) ∈ fs := by rw [← h2]; exact List.mem_map.2 ⟨fd, hfd, rfl⟩
            have hpos : 0 < szOf E fd.type := Nat.le_of_ble_eq_true (List.all_eq_true.1 hall _ hmem)
            obtain ⟨ii, hii, hsz, hI'⟩ := szOf_pos hE hpos
            simp [run_size hI', hsz]
          have hl0 : L2 (Crel φ (okb φ hp) w) (i.zero.map Z.c) z.cells.toList := by rw [hzc]; exact L2_map (fun z => Z_rel z) _
          obtain ⟨cells', h3, h4⟩ := fillC_ok (w := w) (φ := φ) (hp := hp) (place := fun k => (a.map (fun f => (f.offset, szOf E f.type)))[k]?) (fs := fs) hE (fun k off t' hk' hpos => by
            rw [← h2, List.getElem?_map] at hk'
            simp only [Array.getElem?_map]
            rw [← Array.getElem?_toList]
            cases hg : a.toList[k]? with
            | none => rw [hg] at hk'; cases hk'
            | some g =>
              rw [hg] at hk'
              simp only [Option.map_some, Option.some.injEq, Prod.mk.injEq] at hk'
              obtain ⟨rfl, rfl⟩ := hk'
              rfl) parts pv.toList _ cs z.cells hl0 hpv hf
          refine good_pure hh (v := .agg cells') ?_ ⟨cells'.toList, rfl, h4⟩
          unfold Instr.build
          simp only [Sem.run_bind, hz, Result.andThen_ok, run_und h1, hm, h3, Sem.run_pure]
        · exact trivial
      · exact trivial
    · rename_i n e hk
      split
      · rename_i hb
        split
        · rename_i cs hf
          have hu := hI.und
          rw [hk] at hu
          obtain ⟨z, hz, hzc⟩ := run_zero hI w
          obtain ⟨ii, hii, hszi, hI'⟩ := szOf_pos hE (Nat.le_of_ble_eq_true hb)
          have hs : (sizeOf e).run P w = .ok (szOf E e) w := by rw [run_size hI', ← hszi]
          have hl0 : L2 (Crel φ (okb φ hp) w) (i.zero.map Z.c) z.cells.toList := by rw [hzc]; exact L2_map (fun z => Z_rel z) _
          obtain ⟨cells', h3, h4⟩ := fillC_ok (w := w) (φ := φ) (hp := hp) (place := fun k => some (k * szOf E e, szOf E e)) (fs := arrFs (szOf E e) e 0 n) hE (fun k off t' hk' hpos => by
            obtain ⟨rfl, rfl⟩ := arrFs_get _ _ n 0 k off t' hk'
            simp) parts pv.toList _ cs z.cells hl0 hpv hf
          refine good_pure hh (v := .agg cells') ?_ ⟨cells'.toList, rfl, h4⟩
          unfold Instr.build
          simp only [Sem.run_bind, hz, Result.andThen_ok, run_und hu, hs, h3, Sem.run_pure]
        · exact trivial
      · exact trivial
    · exact trivial

theorem putL_get_lt {α : Type} {l xs : List α} {off i : Nat} (h : i < off) (hl : off + xs.length ≤ l.length) : (putL l off xs)[i]? = l[i]? := by
  unfold putL
  rw [List.append_assoc, List.getElem?_append_left (by rw [List.length_take]; omega), List.getElem?_take, if_pos h]

theorem putL_get_mid {α : Type} {l xs : List α} {off i : Nat} {x : α} (h : xs[i]? = some x) (hl : off + xs.length ≤ l.length) : (putL l off xs)[off + i]? = some x := by
  have hi := (List.getElem?_eq_some_iff.1 h).1
  unfold putL
  rw [List.append_assoc, List.getElem?_append_right (by rw [List.length_take]; omega), List.length_take, Nat.min_eq_left (by omega), Nat.add_sub_cancel_left, List.getElem?_append_left hi]
  exact h

theorem lit_fill (hh : HRel φ hp f w) (e : Ty) : ∀ (parts : List (Nat × V)) (pv : List (Nat × Value)) (k : Nat) (l : List e.D) (ids : List Nat) (cells : Array Value),
    L2 (fun p q => p.1 = q.1 ∧ Vrel φ (okb φ hp) w p.2 q.2) parts pv → litC Lv.std (lookA hp) e k parts = some (l, ids) → (k + parts.length) * e.n ≤ cells.size →
    ∃ cells', Instr.fill (fun i => some (i * e.n, e.n)) cells pv = some cells' ∧ cells'.size = cells.size ∧ l.length = parts.length ∧ (∀ q, q < k * e.n → cells'[q]? = cells[q]?) ∧
      ∀ j (x : e.D), l[j]? = some x → ∃ vs, K (okb φ (delAll hp ids)) w e x vs ∧ ∀ i u, vs[i]? = some u → cells'[(k + j) * e.n + i]? = some u
  | [], [], k, l, ids, cells, _, h, _ => by
    simp only [litC, Option.some.injEq, Prod.mk.injEq] at h
    obtain ⟨rfl, rfl⟩ := h
    exact ⟨cells, rfl, rfl, rfl, fun _ _ => rfl, fun j x hx => by simp at hx⟩
  | (i, v) :: r, (i', u) :: pr, k, l, ids, cells, hp', h, hsz => by
    obtain ⟨⟨ei, hv⟩, hr⟩ := hp'
    simp only at ei hv
    subst ei
    unfold litC at h
    split at h
    · rename_i hc
      simp only [Bool.and_eq_true] at hc
      have hik := beq_eq hc.1
      subst hik
      split at h
      · rename_i x ids1 hvw
        split at h
        · rename_i l' ids2 hlit
          simp only [Option.some.injEq, Prod.mk.injEq] at h
          obtain ⟨rfl, rfl⟩ := h
          have hcr := cells_rel hv hc.2
          obtain ⟨vs1, vs2, e1, hk, hvs2⟩ := view_ok hh e v.cells u.cells.toList x [] ids1 hvw hcr
          have : vs2 = [] := by
            cases vs2 with
            | nil => rfl
            | cons a b => exact hvs2.elim
          subst this
          rw [List.append_nil] at e1
          have hvl := K_len e x vs1 hk
          have hus : u.cells.toList.length = u.cells.size := by simp
          have hcs : cells.toList.length = cells.size := by simp
          simp only [List.length_cons] at hsz
          have hmul : i * e.n + e.n ≤ (i + (r.length + 1)) * e.n := by
            rw [show i + (r.length + 1) = (i + 1) + r.length by omega, Nat.add_mul, Nat.add_mul, Nat.one_mul]; omega
          obtain ⟨c1, g1, g2⟩ := fill_cons (rest := pr) (cells := cells) (v := u) (i := i) (place := fun i => some (i * e.n, e.n)) rfl (by rw [← hus, e1, hvl]) (by omega)
          have hc1 : c1.size = cells.size := by
            rw [← Array.length_toList, g1, putL_length _ _ _ (by rw [e1, hvl, hcs]; omega), hcs]
          obtain ⟨c2, k1, k2, k3, k4, k5⟩ := lit_fill hh e r pr (i + 1) l' ids2 c1 hr hlit (by rw [hc1, show i + 1 + r.length = i + (r.length + 1) by omega]; exact hsz)
          refine ⟨c2, by rw [g2]; exact k1, k2.trans hc1, by simp [k3], fun q hq => ?_, fun j x' hx' => ?_⟩
          · rw [k4 q (by rw [Nat.add_mul]; omega), ← Array.getElem?_toList, g1, putL_get_lt hq (by rw [e1, hvl, hcs]; omega), Array.getElem?_toList]
          · cases j with
            | zero =>
              simp only [List.getElem?_cons_zero, Option.some.injEq] at hx'
              subst hx'
              refine ⟨vs1, by rw [delAll_append]; exact K_delAll ids2 hk, fun q y hy => ?_⟩
              have hq := (List.getElem?_eq_some_iff.1 hy).1
              rw [Nat.add_zero, k4 _ (by rw [Nat.add_mul, Nat.one_mul]; omega), ← Array.getElem?_toList, g1]
              exact putL_get_mid (by rw [e1]; exact hy) (by rw [e1, hvl, hcs]; omega)
            | succ j =>
              simp only [List.getElem?_cons_succ] at hx'
              obtain ⟨vs, q1, q2⟩ := k5 j x' hx'
              refine ⟨vs, ?_, fun q y hy => by have := q2 q y hy; rwa [show i + 1 + j = i + (j + 1) by omega] at this⟩
              refine K_mono (fun bl hbl _ => ⟨rfl, ?_⟩) e _ _ q1
              intro a o p g1 g2 g3
              rw [lookA_delAll] at g1
              split at g1
              · cases g1
              · rename_i hn
                refine hbl a o p ?_ g2 g3
                rw [lookA_delAll, if_neg (fun hm => hn (by simp [hm]))]
                exact g1
        · cases h
      · cases h
    · cases h
  | [], _ :: _, _, _, _, _, hp', _, _ => hp'.elim
  | _ :: _, [], _, _, _, _, hp', _, _ => hp'.elim

theorem buildSlice_ok (hE : ∀ t i, E t = some i → TIok P t i) (hh : HRel φ hp f w) (t : TypeId) (len : Nat) (parts : List (Nat × V)) (pv : Array (Nat × Value))
    (hpv : L2 (fun p q => p.1 = q.1 ∧ Vrel φ (okb φ hp) w p.2 q.2) parts pv.toList) : FRok φ hp w f (fbuildSlice Lv.std E (lookA hp) f t len parts) ((Instr.buildSlice t len pv).run P w) := by
  unfold fbuildSlice
  cases he : elemOf E t with
  | none => exact trivial
  | some et =>
    have hu := elemOf_ok hE he
    simp only
    cases hi : E et with
    | none => exact trivial
    | some i =>
      have hI := hE et i hi
      simp only
      split
      · rename_i hc
        simp only [Bool.and_eq_true] at hc
        have h1 := beq_eq hc.1.1
        have h2 := beq_eq hc.1.2
        have h3 := Nat.le_of_ble_eq_true hc.2
        split
        · rename_i l ids hlit
          have hne := hI.ne
          obtain ⟨z, hz, hzc⟩ := run_zero hI w
          let zero : Array Value := if len * i.size = 0 then #[] else z.cells
          let base : Array Value := (Array.range (len * i.size)).map (fun q => zero[q % zero.size]!)
          have hbs : base.size = len * i.size := by simp [base]
          obtain ⟨cells', k1, k2, k3, k4, k5⟩ := lit_fill hh i.ty parts pv.toList 0 l ids base hpv hlit (by rw [hbs, Nat.zero_add, h2, h1]; exact Nat.le_refl _)
          refine good_newk hh ids _ (.at w.heap.size i.ty.n len (List.length (α := i.ty.D) l)) (v := .slice (some ⟨w.heap.size, 0, none⟩) len len) (w' := w.alloc (.cells cells' et (0, 0))) ?_ (below_new _ _) (fun b hb => by cases hb; exact Nat.le_refl _) ?_ ?_
          · have hle : ¬ len * i.size > 2 ^ 24 := by simpa using h3
            have hfill : Instr.fill (fun q => some (q * i.size, i.size)) base pv.toList = some cells' := by rw [← h1]; exact k1
            unfold Instr.buildSlice
            simp only [Sem.run_bind, run_und hu, Result.andThen_ok, run_size hI]
            rw [Sem.run_ite, if_neg hle]
            by_cases h0 : len * i.size = 0
            · have hz0 : zero = #[] := by simp [zero, h0]
              have hb : Array.map (fun x => (#[] : Array Value)[x % (#[] : Array Value).size]!) (Array.range (len * i.size)) = base := by simp only [base, hz0]
              rw [Sem.run_ite, if_pos h0]
              simp only [Sem.run_bind, Sem.run_pure, Result.andThen_ok]
              rw [hb, hfill]
              simp [newRow]
            · have hz0 : zero = z.cells := by simp only [zero, if_neg h0]
              have hb : Array.map (fun x => z.cells[x % z.cells.size]!) (Array.range (len * i.size)) = base := by simp only [base, hz0]
              rw [Sem.run_ite, if_neg h0]
              simp only [Sem.run_bind, hz, Sem.run_pure, Result.andThen_ok]
              rw [hb, hfill]
              simp [newRow]
          · refine .inr ⟨w.heap.size, len, cells', phiSet_self _ _ _, heap_new _ _, by rw [k2, hbs, h1], by rw [k3, h2]; exact Nat.le_refl _, fun j x hx => ?_⟩
            obtain ⟨vs, q1, q2⟩ := k5 j x hx
            have ev := evo_new (hh.delAll ids) (Nat.le_refl f) (.row et i.ty l) (.at w.heap.size i.ty.n len (List.length (α := i.ty.D) l)) (below_new w (.cells cells' et (0, 0))) (fun b hb => by cases hb; exact Nat.le_refl _)
            exact ⟨vs, ev.K _ _ _ q1, fun q u hu => by have := q2 q u hu; rwa [Nat.zero_add] at this⟩
          · exact .inr ⟨_, _, _, _, phiSet_self _ _ _, by rw [k3, h2]; exact Nat.le_refl _, rfl⟩
        · exact trivial
      · exact trivial
end
end Go.VM
set_option autoImplicit false
set_option linter.all false
namespace Go.VM
open Go

section
variable {P : Program} {E : Ev} {φ : Phi} {w : World} {hp : Hp} {f : Nat}

theorem zeroTy_len : ∀ t : Ty, (zeroTy t).length = t.n
  | .int _ | .bool | .str | .sl _ => rfl
  | .pair a b => by simp [zeroTy, Ty.n, zeroTy_len a, zeroTy_len b]
  | .wrap a => zeroTy_len a

theorem zeroTy_K {ok : Nat → Prop} {w : World} : ∀ t : Ty, K ok w t t.dflt ((zeroTy t).map Z.val)
  | .int _ => rfl
  | .bool => rfl
  | .str => rfl
  | .sl e => ⟨none, 0, rfl, Nat.le_refl _, fun h => absurd h (by simp [Ty.dflt])⟩
  | .pair a b => ⟨_, _, by simp [zeroTy], zeroTy_K a, zeroTy_K b⟩
  | .wrap a => zeroTy_K a

theorem made_get {z : Array Value} {n j i : Nat} {u : Value} (hu : z[i]? = some u) (hj : j < n) : (madeCells z (n * z.size))[j * z.size + i]? = some u := by
  have hi : i < z.size := (Array.getElem?_eq_some_iff.1 hu).1
  have hle : j * z.size + z.size ≤ n * z.size := by rw [← Nat.succ_mul]; exact Nat.mul_le_mul_right _ hj
  have hlt : j * z.size + i < n * z.size := by omega
  unfold madeCells
  rw [Array.getElem?_map, Array.getElem?_range, if_pos hlt]
  simp only [Option.map_some]
  rw [Nat.mul_comm, Nat.mul_add_mod, Nat.mod_eq_of_lt hi, getElem!_pos z i hi]
  rw [Array.getElem?_eq_getElem hi] at hu
  exact hu

theorem makeSlice_ok (hE : ∀ t i, E t = some i → TIok P t i) (hh : HRel φ hp f w) (t : TypeId) (x y : V) (v u : Value) (hx : Vrel φ (okb φ hp) w x v) (hy : Vrel φ (okb φ hp) w y u) :
    FRok φ hp w f (fmakeSlice Lv.std E f t x y) ((Instr.makeSlice t v u).run P w) := by
  unfold fmakeSlice
  cases he : elemOf E t with
  | none => exact trivial
  | some et =>
    have hu := elemOf_ok hE he
    simp only
    split
    · rename_i i k1 n k2 m hi
      have hI := hE et i hi
      split
      · rename_i hc
        have hz0 : zeroTy i.ty = i.zero := of_decide_eq_true hc
        rintro ⟨h0, h1, h2, h3⟩
        obtain rfl : v = _ := hx
        obtain rfl : u = _ := hy
        obtain ⟨ti, hti, hts, htb, htz⟩ := hI.info
        have hne := hI.ne
        obtain ⟨z, hz, hzc⟩ : ∃ z, ti.zero = some z ∧ z.cells.toList = i.zero.map Z.val := by
          cases h : ti.zero with
          | none => simp [h] at htz
          | some z => exact ⟨z, rfl, by simpa [h] using htz⟩
        have hzs : z.cells.size = i.ty.n := by rw [← Array.length_toList, hzc, List.length_map, ← hz0, zeroTy_len]
        have hsz : ti.size = z.cells.size := by rw [hts, ← hI.zsz, ← Array.length_toList, hzc, List.length_map]
        have hr := run_make (P := P) w t et ti z hu hti hz k1 k2 n m h0 h1 (by rw [htb, Int.mul_comm]; omega) (by omega)
        rw [hsz] at hr
        refine good_newk hh [] _ (.at w.heap.size i.ty.n m.toNat n.toNat) hr (below_new _ _) (fun b hb => by cases hb; exact Nat.le_refl _) ?_ ?_
        · have hlen : List.length (α := i.ty.D) (List.replicate n.toNat i.ty.dflt) = n.toNat := List.length_replicate
          refine .inr ⟨w.heap.size, m.toNat, _, ?_, heap_new _ _, ?_, ?_, fun j x hx => ⟨i.zero.map Z.val, ?_, fun q u hq => ?_⟩⟩
          · rw [phiSet_self]
            show some (Place.at _ _ _ _) = some (Place.at _ _ _ (List.length (α := i.ty.D) (List.replicate n.toNat i.ty.dflt)))
            rw [hlen]
          · rw [size_madeCells, hzs]
          · show List.length (α := i.ty.D) (List.replicate n.toNat i.ty.dflt) ≤ _
            rw [hlen]; omega
          · change (List.replicate n.toNat i.ty.dflt)[j]? = some x at hx
            obtain rfl : x = i.ty.dflt := by
              rw [List.getElem?_replicate] at hx
              split at hx
              · cases hx; rfl
              · cases hx
            rw [← hz0]; exact zeroTy_K i.ty
          · change (List.replicate n.toNat i.ty.dflt)[j]? = some x at hx
            have hj : j < n.toNat := by
              have := (List.getElem?_eq_some_iff.1 hx).1
              simpa using this
            rw [← hzs]
            refine made_get ?_ (by omega)
            rw [← hzc] at hq
            rwa [Array.getElem?_toList] at hq
        · exact .inr ⟨_, _, _, _, phiSet_self _ _ _, Nat.le_refl _, rfl⟩
      · exact trivial
    · exact trivial

end
end Go.VM
set_option autoImplicit false
set_option linter.all false
namespace Go.VM
open Go

/-- What a list of data is in cells. -/
def Src (ok : Nat → Prop) (w : World) (e : Ty) (ys : List e.D) (news : List Value) : Prop :=
  news.length = List.length (α := e.D) ys * e.n ∧ (∀ u ∈ news, u.oneCell' = true) ∧ ∀ j (x : e.D), ys[j]? = some x → ∃ vs, K ok w e x vs ∧ ∀ i u, vs[i]? = some u → news[j * e.n + i]? = some u

theorem K_one {ok : Nat → Prop} {w : World} : ∀ (t : Ty) (x : t.D) (vs : List Value), K ok w t x vs → ∀ u ∈ vs, u.oneCell' = true
  | .int _, _, _, h | .bool, _, _, h | .str, _, _, h => by simp only [K] at h; subst h; simp [Value.oneCell']
  | .sl _, _, _, h => by obtain ⟨A, c, rfl, _⟩ := h; simp [Value.oneCell']
  | .pair a b, x, vs, h => by
    obtain ⟨c1, c2, rfl, h1, h2⟩ := h
    intro u hu
    rcases List.mem_append.1 hu with hu | hu
    · exact K_one a _ _ h1 u hu
    · exact K_one b _ _ h2 u hu
  | .wrap a, x, vs, h => K_one a x vs h

theorem gather {ok : Nat → Prop} {w : World} {R : Nat → Value → Prop} (e : Ty) : ∀ (ys : List e.D) (s : Nat),
    (∀ j (x : e.D), ys[j]? = some x → ∃ vs, K ok w e x vs ∧ ∀ i u, vs[i]? = some u → R ((s + j) * e.n + i) u) → ∃ news, Src ok w e ys news ∧ ∀ j u, news[j]? = some u → R (s * e.n + j) u
  | [], s, _ => ⟨[], ⟨by simp, by simp, fun j x hx => by simp at hx⟩, fun j u hu => by simp at hu⟩
  | y :: ys, s, h => by
    obtain ⟨vs, hk, hv⟩ := h 0 y rfl
    obtain ⟨news, ⟨h1, h2, h3⟩, hr⟩ := gather e ys (s + 1) (fun j x hx => by have := h (j + 1) x (by simpa using hx); rwa [show s + (j + 1) = s + 1 + j by omega] at this)
    have hlen := K_len e y vs hk
    have hmul : (s + 1) * e.n = s * e.n + e.n := Nat.succ_mul _ _
    refine ⟨vs ++ news, ⟨by rw [List.length_append, h1, hlen, List.length_cons, Nat.succ_mul]; omega, fun u hu => ?_, fun j x hx => ?_⟩, fun j u hu => ?_⟩
    · rcases List.mem_append.1 hu with hu | hu
      · exact K_one e _ _ hk u hu
      · exact h2 u hu
    · cases j with
      | zero =>
        simp only [List.getElem?_cons_zero, Option.some.injEq] at hx
        subst hx
        refine ⟨vs, hk, fun i u hu => ?_⟩
        have hi := (List.getElem?_eq_some_iff.1 hu).1
        rw [Nat.zero_mul, Nat.zero_add, List.getElem?_append_left hi]; exact hu
      | succ j =>
        simp only [List.getElem?_cons_succ] at hx
        obtain ⟨us, q1, q2⟩ := h3 j x hx
        refine ⟨us, q1, fun i u hu => ?_⟩
        have hm : (j + 1) * e.n = j * e.n + e.n := Nat.succ_mul _ _
        rw [List.getElem?_append_right (by rw [hlen, hm]; omega), hlen, show (j + 1) * e.n + i - e.n = j * e.n + i by omega]
        exact q2 i u hu
    · by_cases hj : j < vs.length
      · rw [List.getElem?_append_left hj] at hu
        have := hv j u hu
        simpa using this
      · rw [List.getElem?_append_right (by omega)] at hu
        have := hr _ u hu
        rw [hlen] at this
        rwa [show (s + 1) * e.n + (j - e.n) = s * e.n + j by omega] at this

theorem Src.app {ok : Nat → Prop} {w : World} {e : Ty} {l m : List e.D} {a b : List Value} (h : Src ok w e l a) (k : Src ok w e m b) : Src ok w e (List.append (α := e.D) l m) (a ++ b) := by
  obtain ⟨h1, h2, h3⟩ := h
  obtain ⟨k1, k2, k3⟩ := k
  have hl : List.length (α := e.D) (List.append (α := e.D) l m) = List.length (α := e.D) l + List.length (α := e.D) m := List.length_append
  refine ⟨by rw [List.length_append, h1, k1, hl, Nat.add_mul], fun u hu => ?_, fun j x hx => ?_⟩
  · rcases List.mem_append.1 hu with hu | hu
    · exact h2 u hu
    · exact k2 u hu
  · change (l ++ m : List e.D)[j]? = some x at hx
    by_cases hj : j < List.length (α := e.D) l
    · rw [List.getElem?_append_left hj] at hx
      obtain ⟨vs, q1, q2⟩ := h3 j x hx
      refine ⟨vs, q1, fun i u hu => ?_⟩
      have hi : i < e.n := by rw [← K_len e x vs q1]; exact (List.getElem?_eq_some_iff.1 hu).1
      have hle : j * e.n + e.n ≤ List.length (α := e.D) l * e.n := by rw [← Nat.succ_mul]; exact Nat.mul_le_mul_right _ hj
      rw [List.getElem?_append_left (by omega)]
      exact q2 i u hu
    · rw [List.getElem?_append_right (by omega)] at hx
      obtain ⟨vs, q1, q2⟩ := k3 _ x hx
      refine ⟨vs, q1, fun i u hu => ?_⟩
      have hle : List.length (α := e.D) l * e.n ≤ j * e.n := Nat.mul_le_mul_right _ (by omega)
      rw [List.getElem?_append_right (by omega), h1]
      have := q2 i u hu
      rwa [Nat.sub_mul, show j * e.n - List.length (α := e.D) l * e.n + i = j * e.n + i - List.length (α := e.D) l * e.n by omega] at this

theorem Src.mono {ok ok' : Nat → Prop} {w w' : World} {e : Ty} {l : List e.D} {a : List Value} (h : Src ok w e l a) (hk : ∀ x vs, K ok w e x vs → K ok' w' e x vs) : Src ok' w' e l a :=
  ⟨h.1, h.2.1, fun j x hx => by obtain ⟨vs, q1, q2⟩ := h.2.2 j x hx; exact ⟨vs, hk _ _ q1, q2⟩⟩

section
variable {P : Program} {E : Ev} {φ : Phi} {w : World} {hp : Hp} {f : Nat}

section
variable (tB tX ty e : TypeId) (i : TypeInfo) (z : Value) (ht : P.underlying tB = some (.slice e)) (hX : (∃ q, P.underlying tX = some (.slice q)) ∨ P.underlying tX = some .string)
    (hi : P.info? e = some i) (hz : i.zero = some z) (x : Value) (m : Nat) (news : List Value) (hlen : ∀ w : World, (Builtin.lenOf x).run P w = .ok m w)
    (hf : ∀ w' : World, w'.heap = w.heap → (Builtin.firstCells i.size m x).run P w' = .ok news.toArray w') (hl : news.length = m * i.size)
include ht hX hi hlen hf hl

theorem run_app_none (hm : m = 0) (A : Option Addr) : (Builtin.append_ #[tB, tX] ty #[.slice A 0 0, x]).run P w = .ok (.slice A 0 0) w := by
  subst hm
  have hn : news = [] := List.eq_nil_of_length_eq_zero (by simpa using hl)
  subst hn
  have hfw := hf w rfl
  rcases hX with ⟨q, hX⟩ | hX <;> cases A <;> simp [Builtin.append_, run_underlying ht, run_underlying hX, sizeOf, typeInfo, hi, hlen, hfw, storeCells]

theorem run_app_room (g sLen sCap : Nat) (cur : Array Value) (hg : w.heap[g]? = some (.cells cur e (0, 0))) (h1 : ∀ u ∈ news, u.oneCell' = true)
    (hroom : sLen + m ≤ sCap) (hfit : sLen * i.size + news.length ≤ cur.size) :
    (Builtin.append_ #[tB, tX] ty #[.slice (some ⟨g, 0, none⟩) sLen sCap, x]).run P w =
      .ok (.slice (some ⟨g, 0, none⟩) (sLen + m) sCap) (w.setRow g (cur.toList.take (sLen * i.size) ++ news ++ cur.toList.drop (sLen * i.size + news.length)).toArray) := by
  have hfw := hf w rfl
  have hst := run_storeCells_at P g (sLen * i.size) e news 0 cur w hg (by simpa using hfit) h1
  simp only [Nat.add_zero] at hst
  rcases hX with ⟨q, hX⟩ | hX <;> simp [Builtin.append_, run_underlying ht, run_underlying hX, sizeOf, typeInfo, hi, hlen, hroom, hfw, Addr.add_lit, hst]

theorem run_app_grow (hz : i.zero = some z) (A : Option Addr) (sLen sCap : Nat) (olds : List Value) (hlo : olds.length = sLen * i.size) (hfo : ∀ w' : World, w'.heap = w.heap → (Builtin.firstCells i.size sLen (.slice A sLen sCap)).run P w' = .ok olds.toArray w')
    (hg : sCap < sLen + m) (h63 : ((sLen + m : Nat) : Int) ≤ 9223372036854775807) (hfit : Builtin.nextslicecap (sLen + m) sCap * i.bytes ≤ 281474976710656) :
    (Builtin.append_ #[tB, tX] ty #[.slice A sLen sCap, x]).run P w =
      .ok (.slice (some ⟨w.heap.size, 0, none⟩) (sLen + m) (grownCap w (sLen + m) sCap e))
        (w.drew.alloc (.cells (olds.toArray ++ news.toArray ++ Builtin.zeroCells z.cells (grownCap w (sLen + m) sCap e - (sLen + m))) e)) := by
  have hn : ¬ (sLen + m ≤ sCap) := by omega
  have h63' : ¬ (9223372036854775807 < ((sLen : Int) + (m : Int))) := by omega
  have h48' : ¬ (281474976710656 < Builtin.nextslicecap (sLen + m) sCap * i.bytes) := by omega
  have hfw := hf w.drew rfl
  have hfo' := hfo w.drew rfl
  rcases hX with ⟨q, hX⟩ | hX <;>
  · simp [Builtin.append_, run_underlying ht, run_underlying hX, sizeOf, typeInfo, zeroValue, hi, hz, hlen, hn, h63', h48', Question.forced, hfw, hfo', newRow, grownCap]
    try (congr 2; apply Array.ext'; simp [List.append_assoc])
end

theorem noInt_ok (hE : ∀ t i, E t = some i → TIok P t i) {t : TypeId} (h : noInt E t = true) : (∃ q, P.underlying t = some (.slice q)) ∨ P.underlying t = some .string := by
  unfold noInt at h
  cases hi : E t with
  | none => rw [hi] at h; cases h
  | some i =>
    rw [hi] at h
    simp only at h
    have hu := (hE t i hi).und
    cases hk : i.kd <;> rw [hk] at h hu <;> simp only at h hu <;> try cases h
    · exact .inr hu
    · exact .inl ⟨_, hu⟩
end
end Go.VM
set_option autoImplicit false
set_option linter.all false
namespace Go.VM
open Go Go.Lib

section
variable {P : Program} {E : Ev} {φ : Phi} {w : World} {hp : Hp} {f : Nat}

theorem row_new {ok : Nat → Prop} {id b cap : Nat} {t : TypeId} {e : Ty} {l : List e.D} {xs : List Value} {arr : Array Value} (h1 : φ id = some (.at b e.n cap (List.length (α := e.D) l))) (h2 : w.heap[b]? = some (.cells arr t (0, 0)))
    (h3 : arr.size = cap * e.n) (h4 : List.length (α := e.D) l ≤ cap) (hs : Src ok w e l xs) (hx : ∀ (j : Nat) (u : Value), xs[j]? = some u → arr[j]? = some u) : Orel φ ok w id (.row t e l) :=
  .inr ⟨b, cap, arr, h1, h2, h3, h4, fun j x hj => by obtain ⟨vs, q1, q2⟩ := hs.2.2 j x hj; exact ⟨vs, q1, fun i u hu => hx _ _ (q2 i u hu)⟩⟩

theorem K_src {ok : Nat → Prop} {e : Ty} {l : List e.D} {v : Value} (h : K ok w (.sl e) l [v]) : ∃ news, Src ok w e l news ∧ (∀ w : World, (Builtin.lenOf v).run P w = .ok (List.length (α := e.D) l) w) ∧
    (∀ w' : World, w'.heap = w.heap → (Builtin.firstCells e.n (List.length (α := e.D) l) v).run P w' = .ok news.toArray w') := by
  obtain ⟨A, c, h1, h2, h3⟩ := h
  obtain rfl : v = .slice A (List.length (α := e.D) l) c := by simpa using h1
  by_cases h0 : 0 < List.length (α := e.D) l
  · obtain ⟨ad, rfl, hok, hj⟩ := h3 h0
    obtain ⟨news, hs, hr⟩ := gather (ok := ok) (w := w) (R := fun p u => w.cell? (ad.add p) = some u) e l 0 (fun j x hx => by
      obtain ⟨vs, q1, q2⟩ := hj j x hx
      exact ⟨vs, q1, fun i u hu => by have := q2 i u hu; rwa [Nat.zero_add]⟩)
    refine ⟨news, hs, fun w => by simp [Builtin.lenOf], fun w' hw' => ?_⟩
    refine run_firstCells_some (P := P) w' e.n _ ad _ c news hs.1 (fun j u hu => ?_)
    have := hr j u hu
    simp only [Nat.zero_mul, Nat.zero_add] at this
    rw [← this]
    unfold World.cell?
    rw [hw']
  · have hl0 : List.length (α := e.D) l = 0 := by omega
    have hl : l = ([] : List e.D) := List.eq_nil_of_length_eq_zero hl0
    subst hl
    refine ⟨[], ⟨by simp, by simp, fun j x hx => by simp at hx⟩, fun w => by simp [Builtin.lenOf], fun w' hw' => ?_⟩
    cases A with
    | none => simp [Builtin.firstCells]
    | some a => exact run_firstCells_some (P := P) w' e.n 0 a _ c [] (by simp) (by simp)

/-- A row of the call's own as a list of cells. -/
theorem own_src (hh : HRel φ hp f w) {id n : Nat} {t : TypeId} {e : Ty} {l : List e.D} (ho : lookA hp id = some (.row t e l)) {v : Value} (hv : Crel φ (okb φ hp) w (.own id n) v) :
    ∃ news, Src (okb φ hp) w e (List.take (α := e.D) n l) news ∧ List.length (α := e.D) (List.take (α := e.D) n l) = n ∧ (∀ w : World, (Builtin.lenOf v).run P w = .ok n w) ∧
    (∀ w' : World, w'.heap = w.heap → (Builtin.firstCells e.n n v).run P w' = .ok news.toArray w') ∧
    ((φ id = some .nil ∧ n = 0 ∧ (∃ A, v = .slice A 0 0) ∧ news = []) ∨ ∃ b cap arr, φ id = some (.at b e.n cap (List.length (α := e.D) l)) ∧ v = .slice (some ⟨b, 0, none⟩) n cap ∧ w.heap[b]? = some (.cells arr t (0, 0)) ∧
      arr.size = cap * e.n ∧ n ≤ List.length (α := e.D) l ∧ List.length (α := e.D) l ≤ cap ∧ ∀ (j : Nat) (u : Value), news[j]? = some u → arr[j]? = some u) := by
  rcases hv with ⟨h1, rfl, A, rfl⟩ | ⟨b, sz, cap, nn, h1, h2, rfl⟩
  · refine ⟨[], ⟨by simp, by simp, fun j x hx => by simp at hx⟩, by simp, fun w => by simp [Builtin.lenOf], fun w' hw' => ?_, .inl ⟨h1, rfl, ⟨A, rfl⟩, rfl⟩⟩
    cases A with
    | none => simp [Builtin.firstCells]
    | some a => exact run_firstCells_some (P := P) w' e.n 0 a _ 0 [] (by simp) (by simp)
  · rcases hh.ob id _ ho with ⟨h3, _⟩ | ⟨b', cap', arr, h3, h4, h5, h6, h7⟩
    · rw [h1] at h3; cases h3
    · rw [h1] at h3; cases h3
      have hlen : List.length (α := e.D) (List.take (α := e.D) n l) = n := by rw [List.length_take]; omega
      obtain ⟨news, hs, hr⟩ := gather (ok := okb φ hp) (w := w) (R := fun p u => arr[p]? = some u) e (List.take (α := e.D) n l) 0 (fun j x hx => by
        rw [List.getElem?_take] at hx
        split at hx
        · obtain ⟨vs, q1, q2⟩ := h7 j x hx
          exact ⟨vs, q1, fun i u hu => by rw [Nat.zero_add]; exact q2 i u hu⟩
        · cases hx)
      simp only [Nat.zero_mul, Nat.zero_add] at hr
      refine ⟨news, hs, hlen, fun w => by simp [Builtin.lenOf], fun w' hw' => ?_, .inr ⟨b, cap, arr, h1, rfl, h4, h5, h2, h6, hr⟩⟩
      refine run_firstCells_some (P := P) w' e.n _ _ _ cap news (by rw [hs.1, hlen]) (fun j u hu => ?_)
      rw [add_plain, Nat.zero_add]
      have hc : w'.heap[b]? = some (.cells arr t (0, 0)) := by rw [hw']; exact h4
      rw [cell_at hc]; exact hr j u hu

theorem bytes_len (s : ByteArray) : (bytesOf s).length = s.size := by
  simp only [bytesOf, List.length_map, Array.length_toList]; rfl

theorem str_src {ok : Nat → Prop} (s : ByteArray) : Src ok w (.int .u8) (bytesOf s) (strCells s) := by
  refine ⟨by rw [strCells_length]; show _ = (bytesOf s).length * 1; rw [bytes_len]; omega, strCells_oneCell s, fun j x hx => ?_⟩
  change (bytesOf s)[j]? = some x at hx
  refine ⟨[.int .u8 x], rfl, fun i u hu => ?_⟩
  have hi : i = 0 := by have := (List.getElem?_eq_some_iff.1 hu).1; simp at this; omega
  subst hi
  simp only [List.getElem?_cons_zero, Option.some.injEq] at hu
  subst hu
  show (strCells s)[j * 1 + 0]? = _
  simp only [bytesOf, List.getElem?_map, Option.map_eq_some_iff] at hx
  obtain ⟨b, hb, rfl⟩ := hx
  simp only [Nat.mul_one, Nat.add_zero]
  simp [strCells, Array.getElem?_toList] at hb ⊢
  exact ⟨b, hb, rfl⟩

theorem fsrc_ok (hh : HRel φ hp f w) (e : Ty) (y : V) (v : Value) (ys : List e.D) (hy : Vrel φ (okb φ hp) w y v) (hs : fsrc Lv.std (lookA hp) e y = some ys) :
    ∃ news, Src (okb φ hp) w e ys news ∧ (∀ w : World, (Builtin.lenOf v).run P w = .ok (List.length (α := e.D) ys) w) ∧
    (∀ w' : World, w'.heap = w.heap → (Builtin.firstCells e.n (List.length (α := e.D) ys) v).run P w' = .ok news.toArray w') := by
  unfold fsrc at hs
  split at hs
  · split at hs
    · rename_i q; subst q
      cases hs
      exact K_src hy
    · cases hs
  · cases hs
    obtain rfl : v = _ := hy
    exact ⟨[], ⟨by simp, by simp, fun j x hx => by simp at hx⟩, fun w => by simp [Builtin.lenOf], fun w' hw' => by simp [Builtin.firstCells]⟩
  · rename_i id n
    split at hs
    · rename_i t e' l ho
      split at hs
      · rename_i q; subst q
        cases hs
        obtain ⟨news, h1, h2, h3, h4, _⟩ := own_src (P := P) hh ho hy
        refine ⟨news, h1, ?_, ?_⟩
        · intro w
          show _ = Result.ok (List.length (α := e'.D) (List.take (α := e'.D) n l)) w
          rw [h2]; exact h3 w
        · intro w' hw'
          show (Builtin.firstCells e'.n (List.length (α := e'.D) (List.take (α := e'.D) n l)) v).run P w' = _
          rw [h2]; exact h4 w' hw'
      · cases hs
    · cases hs
  · rename_i s
    split at hs
    · rename_i q; subst q
      cases hs
      obtain rfl : v = _ := hy
      have hl : List.length (α := Ty.D (.int .u8)) (bytesOf s) = s.size := bytes_len s
      refine ⟨strCells s, str_src s, ?_, ?_⟩
      · intro w
        show _ = Result.ok (List.length (α := Ty.D (.int .u8)) (bytesOf s)) w
        rw [hl]; simp [Builtin.lenOf]
      · intro w' _
        show (Builtin.firstCells 1 (List.length (α := Ty.D (.int .u8)) (bytesOf s)) (.string s)).run P w' = _
        rw [hl]; exact run_firstCells_string (P := P) w' 1 s
    · cases hs
  · cases hs
end
end Go.VM
set_option autoImplicit false
set_option linter.all false
namespace Go.VM
open Go Go.Lib

section
variable {P : Program} {E : Ev} {φ : Phi} {w : World} {hp : Hp} {f : Nat}

/-- What is appended to, in cells; and where it lies. -/
theorem fbase_ok (hh : HRel φ hp f w) (et : TypeId) (e : Ty) (x : V) (v : Value) (l : List e.D) (kill : List Nat) (hx : Vrel φ (okb φ hp) w x v) (hs : fbase Lv.std (lookA hp) et e x = some (l, kill)) :
    ∃ news A n cap, v = .slice A n cap ∧ n = List.length (α := e.D) l ∧ Src (okb φ hp) w e l news ∧
    (∀ w' : World, w'.heap = w.heap → (Builtin.firstCells e.n n v).run P w' = .ok news.toArray w') ∧
    ((n = 0 ∧ cap = 0 ∧ l = [] ∧ news = []) ∨ ∃ id b sz nn arr o, kill = [id] ∧ lookA hp id = some o ∧ φ id = some (.at b sz cap nn) ∧ A = some ⟨b, 0, none⟩ ∧ w.heap[b]? = some (.cells arr et (0, 0)) ∧
      arr.size = cap * e.n ∧ n ≤ cap ∧ ∀ (j : Nat) (u : Value), news[j]? = some u → arr[j]? = some u) := by
  unfold fbase at hs
  split at hs
  · cases hs
    obtain rfl : v = _ := hx
    exact ⟨[], none, 0, 0, rfl, rfl, ⟨by simp, by simp, fun j x hx => by simp at hx⟩, fun w' hw' => by simp [Builtin.firstCells], .inl ⟨rfl, rfl, rfl, rfl⟩⟩
  · rename_i id n
    split at hs
    · rename_i t e' l' ho
      split at hs
      · rename_i q; subst q
        split at hs
        · rename_i ht
          have := beq_eq ht
          subst this
          cases hs
          obtain ⟨news, h1, h2, h3, h4, h5⟩ := own_src (P := P) hh ho hx
          have h1' : Src (okb φ hp) w e' (Lv.std.take e' (castL rfl l') n) news := h1
          rcases h5 with ⟨h6, rfl, ⟨A, rfl⟩, rfl⟩ | ⟨b, cap, arr, h6, rfl, h7, h8, h9, h10, h11⟩
          · exact ⟨[], A, 0, 0, rfl, h2.symm, h1', h4, .inl ⟨rfl, rfl, by show List.take (α := e'.D) 0 l' = _; simp, rfl⟩⟩
          · exact ⟨news, _, n, cap, rfl, h2.symm, h1', h4, .inr ⟨id, b, _, _, arr, _, rfl, ho, h6, rfl, h7, h8, by omega, h11⟩⟩
        · cases hs
      · cases hs
    · cases hs
  · cases hs

theorem append_ok (hE : ∀ t i, E t = some i → TIok P t i) (hh : HRel φ hp f w) (t tx ty : TypeId) (x y : V) (v u : Value) (hx : Vrel φ (okb φ hp) w x v) (hy : Vrel φ (okb φ hp) w y u) :
    FRok φ hp w f (fappend Lv.std E (lookA hp) f t tx x y) ((Builtin.append_ #[t, tx] ty #[v, u]).run P w) := by
  unfold fappend
  cases he : elemOf E t with
  | none => exact trivial
  | some et =>
    have hu := elemOf_ok hE he
    simp only
    cases hi : E et with
    | none => exact trivial
    | some i =>
      have hI := hE et i hi
      simp only
      split
      · rename_i hc
        simp only [Bool.and_eq_true] at hc
        have hsz := beq_eq hc.1
        have hX := noInt_ok hE hc.2
        split
        · rename_i l kill m hb hs
          rintro ⟨hr1, hr2⟩
          obtain ⟨ti, hti, hts, htb, htz⟩ := hI.info
          obtain ⟨z, hz, hzc⟩ : ∃ z, ti.zero = some z ∧ z.cells.toList = i.zero.map Z.val := by
            cases h : ti.zero with
            | none => simp [h] at htz
            | some z => exact ⟨z, rfl, by simpa [h] using htz⟩
          have hzs : z.cells.size = i.ty.n := by rw [← Array.length_toList, hzc, List.length_map, hI.zsz, hsz]
          have hsz' : ti.size = i.ty.n := by rw [hts, hsz]
          obtain ⟨olds, A, n, cap, rfl, hn, ho1, ho2, ho3⟩ := fbase_ok (P := P) hh et i.ty x v l kill hx hb
          obtain ⟨news, hn1, hn2, hn3⟩ := fsrc_ok (P := P) hh i.ty y u m hy hs
          have hml : news.length = List.length (α := i.ty.D) m * ti.size := by rw [hn1.1, hsz']
          have hol : olds.length = n * ti.size := by rw [ho1.1, hsz', hn]
          have ho2' : ∀ w' : World, w'.heap = w.heap → (Builtin.firstCells ti.size n (.slice A n cap)).run P w' = .ok olds.toArray w' := by rw [hsz']; exact ho2
          have hn3' : ∀ w' : World, w'.heap = w.heap → (Builtin.firstCells ti.size (List.length (α := i.ty.D) m) u).run P w' = .ok news.toArray w' := by rw [hsz']; exact hn3
          have hlen : List.length (α := i.ty.D) (List.append (α := i.ty.D) l m) = n + List.length (α := i.ty.D) m := by rw [hn]; exact List.length_append
          obtain ⟨M, hM⟩ : ∃ M, M = List.length (α := i.ty.D) m := ⟨_, rfl⟩
          have hr1' : n + M ≤ 140737488355328 := by rw [hn, hM]; exact hr1
          have hr2' : (n + M) * i.bytes ≤ 140737488355328 := by rw [hn, hM]; exact hr2
          rw [← hM] at hml hn3' hlen hn2
          have hadd : Lv.std.add (Lv.std.llen i.ty l) (Lv.std.llen i.ty m) = n + M := by rw [hn, hM]; rfl
          rw [hadd]
          have hsrc : Src (okb φ hp) w i.ty (List.append (α := i.ty.D) l m) (olds ++ news) := ho1.app hn1
          by_cases hroom : n + M ≤ cap
          · rcases ho3 with ⟨rfl, rfl, hl0, hold⟩ | ⟨id, b, sz, nn, arr, o, rfl, hlo, hφ, rfl, hb1, hb2, hb3, hb4⟩
            · have hM0 : M = 0 := by omega
              have hr := run_app_none (P := P) (w := w) t tx ty et ti hu hX hti u M news hn2 hn3' hml hM0 A
              have hlz : List.append (α := i.ty.D) l m = ([] : List i.ty.D) := List.eq_nil_of_length_eq_zero (by rw [hlen, hM0])
              refine good_newk hh kill _ .nil hr (Go.RowKit.Below.refl _ _) (fun b hb => hb.elim) (.inl ⟨phiSet_self _ _ _, hlz⟩) (.inl ⟨phiSet_self _ _ _, by omega, A, rfl⟩)
            · have hfit : n * ti.size + news.length ≤ arr.size := by
                rw [hml, hb2, hsz', ← Nat.add_mul]; exact Nat.mul_le_mul_right _ hroom
              have hr := run_app_room (P := P) (w := w) t tx ty et ti hu hX hti u M news hn2 hn3' hml b n cap arr hb1 hn1.2.1 hroom hfit
              have hS : (Place.at b sz cap nn).S b := rfl
              have htu : Turned w (w.setRow b (arr.toList.take (n * ti.size) ++ news ++ arr.toList.drop (n * ti.size + news.length)).toArray) b :=
                ⟨rfl, rfl, rfl, by simp [World.setRow], fun k hk => setRow_other w b k _ hk⟩
              have hp' : ∀ c, (Place.at b i.ty.n cap (List.length (α := i.ty.D) (List.append (α := i.ty.D) l m))).S c → c = b := fun c hc => hc
              have ev := evo_turn hh hlo hφ hS htu [] (.row et i.ty (List.append (α := i.ty.D) l m)) (Nat.le_refl f) hp'
              refine good_turn hh hlo hφ hS htu [] _ (p' := .at b i.ty.n cap (List.length (α := i.ty.D) (List.append (α := i.ty.D) l m))) hp' hr ?_ ?_
              · refine row_new (xs := olds ++ news) (phiSet_self _ _ _) (setRow_heap w b arr _ et _ hb1) ?_ (by show List.length (α := i.ty.D) (List.append (α := i.ty.D) l m) ≤ _; rw [hlen]; exact hroom) (hsrc.mono (fun x vs => ev.K _ _ _)) (fun j y hj => ?_)
                · rw [← hb2, ← Array.length_toList, ← Array.length_toList]
                  simp only [List.length_append, List.length_take, List.length_drop, Array.length_toList]
                  omega
                · rw [← Array.getElem?_toList]
                  simp only
                  have htl : (arr.toList.take (n * ti.size)).length = n * ti.size := by rw [List.length_take, Array.length_toList]; omega
                  by_cases hjl : j < n * ti.size
                  · rw [List.getElem?_append_left (by omega)] at hj
                    rw [List.append_assoc, List.getElem?_append_left (by omega), List.getElem?_take, if_pos hjl, Array.getElem?_toList]
                    exact hb4 j y hj
                  · rw [List.getElem?_append_right (by omega)] at hj
                    have hjn := (List.getElem?_eq_some_iff.1 hj).1
                    rw [List.append_assoc, List.getElem?_append_right (by omega), htl, List.getElem?_append_left (by omega), ← hol]
                    exact hj
              · exact .inr ⟨b, i.ty.n, cap, _, phiSet_self _ _ _, by rw [hlen]; exact Nat.le_refl _, rfl⟩
          · have hr := run_app_grow (P := P) (w := w) t tx ty et ti z hu hX hti u M news hn2 hn3' hml hz A n cap olds hol ho2' (by omega) (by omega) (growslice_fits (by omega) (by rw [htb]; exact hr2'))
            have hge := grownCap_ge w (n + M) cap et
            have hb := (Go.RowKit.Below.refl w.heap.size w).drew.alloc (Nat.le_refl _) (.cells (olds.toArray ++ news.toArray ++ Builtin.zeroCells z.cells (grownCap w (n + M) cap et - (n + M))) et (0, 0))
            have hpl : ∀ b, (Place.at w.heap.size i.ty.n (grownCap w (n + M) cap et) (List.length (α := i.ty.D) (List.append (α := i.ty.D) l m))).S b → w.heap.size ≤ b := fun b hb => by cases hb; exact Nat.le_refl _
            have ev := (evo_delAll φ w kill hp).trans (evo_new (hh.delAll kill) (Nat.le_refl f) (.row et i.ty (List.append (α := i.ty.D) l m)) (.at w.heap.size i.ty.n (grownCap w (n + M) cap et) (List.length (α := i.ty.D) (List.append (α := i.ty.D) l m))) hb hpl)
            refine good_newk hh kill _ (.at w.heap.size i.ty.n (grownCap w (n + M) cap et) (List.length (α := i.ty.D) (List.append (α := i.ty.D) l m))) hr hb hpl ?_ ?_
            · refine row_new (xs := olds ++ news) (phiSet_self _ _ _) (heap_new w.drew _) ?_ (by show List.length (α := i.ty.D) (List.append (α := i.ty.D) l m) ≤ _; rw [hlen]; exact hge) (hsrc.mono (fun x vs => ev.K _ _ _)) (fun j y hj => ?_)
              · simp only [Array.size_append, List.size_toArray, size_zeroCells, hzs, hol, hml, hsz', ← Nat.add_mul]
                congr 1
                omega
              · rw [← Array.getElem?_toList]
                simp only [Array.toList_append, List.append_assoc]
                rw [← List.append_assoc, List.getElem?_append_left (List.getElem?_eq_some_iff.1 hj).1]
                exact hj
            · exact .inr ⟨_, _, _, _, phiSet_self _ _ _, by rw [hlen]; exact Nat.le_refl _, rfl⟩
        · exact trivial
      · exact trivial
end
end Go.VM
set_option autoImplicit false
set_option linter.all false
namespace Go.VM
open Go Go.Lib

theorem putL_get {α : Type} {l xs : List α} {o : Nat} (hl : o + xs.length ≤ l.length) (i : Nat) :
    (putL l o xs)[i]? = if i < o then l[i]? else if i < o + xs.length then xs[i - o]? else l[i]? := by
  have ht : (l.take o).length = o := by rw [List.length_take]; omega
  unfold putL
  by_cases h1 : i < o
  · rw [if_pos h1, List.append_assoc, List.getElem?_append_left (by omega), List.getElem?_take, if_pos h1]
  · rw [if_neg h1, List.append_assoc, List.getElem?_append_right (by omega), ht]
    by_cases h2 : i < o + xs.length
    · rw [if_pos h2, List.getElem?_append_left (by omega)]
    · rw [if_neg h2, List.getElem?_append_right (by omega), List.getElem?_drop]
      congr 1; omega

section
variable {P : Program} {E : Ev} {φ : Phi} {w : World} {hp : Hp} {f : Nat}

/-- FRok of an update in place. -/
theorem good_upd {w' : World} {v : Value} {run : Result Value} (h : HRel φ hp f w) {g id : Nat} {o : Ob} {p : Place} (ho : lookA hp id = some o) (hpl : φ id = some p) (hS : p.S g) (ht : Turned w w' g)
    (kill : List Nat) (o' : Ob) (hr : run = .ok v w') (hn : Orel φ (okb φ (setA (delAll hp kill) id o')) w' id o') : FRok φ hp w f (.upd id o' kill) run :=
  ⟨v, w', hr, h.upd ho hpl hS ht kill o' hn, evo_upd ho hpl hS ht kill o'⟩

theorem turned_setRow (w : World) (g : Nat) (cs : Array Value) : Turned w (w.setRow g cs) g :=
  ⟨rfl, rfl, rfl, by simp [World.setRow], fun k hk => setRow_other w g k _ hk⟩

theorem run_store_at {t : TypeId} {i : TI} (h : TIok P t i) (g o : Nat) (tt : TypeId) (cur : Array Value) (hg : w.heap[g]? = some (.cells cur tt (0, 0))) (v : Value) (hsz : v.cells.toList.length = i.size)
    (hfit : o + i.size ≤ cur.size) (h1 : ∀ u ∈ v.cells.toList, u.oneCell' = true) :
    (Instr.storeAt t (.pointer (some ⟨g, o, none⟩)) v).run P w = .ok () (w.setRow g (putL cur.toList o v.cells.toList).toArray) := by
  have hst := run_storeCells_at P g o tt v.cells.toList 0 cur w hg (by omega) h1
  have hs : v.cells.size = i.size := by rw [← Array.length_toList]; exact hsz
  simp only [Nat.add_zero] at hst
  simp [Instr.storeAt, Instr.sureAddr, storeVar, run_size h, hs, hst, putL]

theorem crel_one {ok : Nat → Prop} {x : C} {v : Value} (h : Crel φ ok w x v) (hk : knownV (.c x) = true) : v.oneCell' = true := by
  cases x <;> simp only [knownV, Bool.false_eq_true] at hk <;> simp only [Crel] at h
  case int => rw [h]; rfl
  case bool => rw [h]; rfl
  case sym => rw [h]; rfl
  case str => rw [h]; rfl
  case sl =>
    obtain ⟨A, c, h1, _⟩ := h
    simp only [List.cons.injEq, and_true] at h1
    rw [h1]; rfl
  case nils => rw [h]; rfl
  case own => rcases h with ⟨_, _, _, rfl⟩ | ⟨_, _, _, _, _, _, rfl⟩ <;> rfl
  case ptr => obtain ⟨_, _, _, _, _, rfl⟩ := h; rfl
  case elp => obtain ⟨_, _, _, _, _, rfl⟩ := h; rfl
  case nilp => rw [h]; rfl
  case fn => obtain ⟨_, rfl, _⟩ := h; rfl
  case nilf => rw [h]; rfl
  case map => obtain ⟨_, _, _, _, _, rfl⟩ := h; rfl
  case nilm => rw [h]; rfl
  case ifn => rw [h]; rfl
  case ife => rw [h]; rfl
  case ifo => obtain ⟨_, _, rfl⟩ := h; rfl
  case selfp => rcases h with rfl | ⟨_, _, _, _, _, rfl⟩ <;> rfl
  case yld => rw [h]; rfl

theorem crel_ones {ok : Nat → Prop} : ∀ {cs : List C} {vs : List Value} (_ : L2 (Crel φ ok w) cs vs) (_ : knownCs cs = true), ∀ u ∈ vs, u.oneCell' = true
  | [], [], _, _ => by simp
  | x :: cs, v :: vs, h, hk => by
    simp only [knownCs, Bool.and_eq_true] at hk
    intro u hu
    rcases List.mem_cons.1 hu with rfl | hu
    · exact crel_one h.1 hk.1
    · exact crel_ones h.2 hk.2 u hu
  | [], _ :: _, h, _ | _ :: _, [], h, _ => h.elim

theorem store_row_cells {e : Ty} {l : List e.D} {arr : Array Value} {cap j off : Nat} {xs : List Value} (h3 : arr.size = cap * e.n) (h4 : List.length (α := e.D) l ≤ cap) (hj : j < List.length (α := e.D) l) (hle : off + xs.length ≤ e.n) :
    (putL arr.toList (j * e.n + off) xs).toArray.size = cap * e.n ∧
    (∀ q i, q ≠ j → i < e.n → (putL arr.toList (j * e.n + off) xs).toArray[q * e.n + i]? = arr[q * e.n + i]?) ∧
    ∀ i, i < e.n → (putL arr.toList (j * e.n + off) xs).toArray[j * e.n + i]? = if i < off then arr[j * e.n + i]? else if i < off + xs.length then xs[i - off]? else arr[j * e.n + i]? := by
  have hmul : j * e.n + e.n ≤ cap * e.n := by rw [← Nat.succ_mul]; exact Nat.mul_le_mul_right _ (by omega)
  have hl : j * e.n + off + xs.length ≤ arr.toList.length := by have := Array.length_toList (xs := arr); omega
  refine ⟨?_, fun q i hq hi => ?_, fun i hi => ?_⟩
  · rw [List.size_toArray, putL_length _ _ _ hl, Array.length_toList, h3]
  · rw [List.getElem?_toArray, putL_get hl]
    by_cases h1 : q < j
    · have : q * e.n + e.n ≤ j * e.n := by rw [← Nat.succ_mul]; exact Nat.mul_le_mul_right _ h1
      rw [if_pos (by omega), Array.getElem?_toList]
    · have : j * e.n + e.n ≤ q * e.n := by rw [← Nat.succ_mul]; exact Nat.mul_le_mul_right _ (by omega)
      rw [if_neg (by omega), if_neg (by omega), Array.getElem?_toList]
  · rw [List.getElem?_toArray, putL_get hl, Array.getElem?_toList]
    by_cases h1 : i < off
    · rw [if_pos (by omega), if_pos h1]
    · rw [if_neg (by omega), if_neg h1]
      by_cases h2 : i < off + xs.length
      · rw [if_pos (by omega), if_pos h2]; congr 1; omega
      · rw [if_neg (by omega), if_neg h2]

theorem put_cells {old xs : List Value} {off i : Nat} {u : Value} (hle : off + xs.length ≤ old.length) (hu : (putL old off xs)[i]? = some u) :
    (if i < off then old[i]? else if i < off + xs.length then xs[i - off]? else old[i]?) = some u := by
  rwa [putL_get hle] at hu

theorem store_ok (hE : ∀ t i, E t = some i → TIok P t i) (hh : HRel φ hp f w) (t : TypeId) (a x : V) (va vx : Value) (ha : Vrel φ (okb φ hp) w a va) (hx : Vrel φ (okb φ hp) w x vx) {v0 : Value} :
    FRok φ hp w f (fstore Lv.std E (lookA hp) t a x) ((do Instr.storeAt t va vx; pure v0 : Sem Value).run P w) := by
  unfold fstore
  cases hi : E t with
  | none => exact trivial
  | some i =>
    have hI := hE t i hi
    simp only
    split
    · rename_i hc
      simp only [Bool.and_eq_true] at hc
      have hsz := beq_eq hc.2
      have hcr := cells_rel hx hc.1.1
      have hlen := L2_len hcr
      have hvl : vx.cells.toList.length = i.size := by rw [← hlen, hsz]
      have h1 := crel_ones hcr hc.1.2
      split
      · rename_i id off
        cases ho : lookA hp id with
        | none => exact trivial
        | some o =>
          cases o with
          | box tt cs =>
            simp only
            split
            · rename_i hle
              have hle' := Nat.le_of_ble_eq_true hle
              obtain ⟨b, sz, cap, nn, g1, rfl⟩ := ha
              obtain ⟨b', vs, g2, g3, g4⟩ := hh.ob id _ ho
              rw [g1] at g2; cases g2
              have hl4 := L2_len g4
              have hr := run_store_at (P := P) (w := w) hI b off tt vs.toArray g3 vx hvl (by rw [List.size_toArray]; omega) h1
              have ev := evo_upd ho g1 (show (Place.at b 1 0 0).S b from rfl) (turned_setRow w b (putL vs.toArray.toList off vx.cells.toList).toArray) [] (.box tt (putL cs off x.cells))
              refine good_upd hh ho g1 rfl (turned_setRow w b _) [] _ (v := v0) (bind_ok hr) ?_
              refine ⟨b, putL vs off vx.cells.toList, g1, setRow_heap w b _ _ tt _ g3, L2_mono (fun _ _ h => ev.C h) (L2_put g4 hcr off)⟩
            · exact trivial
          | row t' e l => exact trivial
          | rowf t' e l q cs => exact trivial
          | map k' v' l => exact trivial
          | mapc l => exact trivial
          | amb => exact trivial
      · rename_i id j off
        cases ho : lookA hp id with
        | none => exact trivial
        | some o =>
          cases o with
          | box tt cs => exact trivial
          | row tt e l =>
            simp only
            split
            · rename_i hle
              have hle' := Nat.le_of_ble_eq_true hle
              split
              · intro hlt
                have hlt' : j < List.length (α := e.D) l := hlt
                obtain ⟨b, sz, cap, nn, g1, rfl⟩ := ha
                rcases hh.ob id _ ho with ⟨g2, _⟩ | ⟨b', cap', arr, g2, g3, g4, g5, g6⟩
                · rw [g1] at g2; cases g2
                · rw [g1] at g2; cases g2
                  obtain ⟨y, hy⟩ : ∃ y, l[j]? = some y := ⟨_, List.getElem?_eq_getElem hlt'⟩
                  have hg : Lv.std.get e l j = y := by show (l[j]?).getD e.dflt = y; rw [hy]; rfl
                  rw [hg]
                  obtain ⟨vs, hk, hvs⟩ := g6 j y hy
                  have hkl := K_len e y vs hk
                  have hmul : j * e.n + e.n ≤ cap * e.n := by rw [← Nat.succ_mul]; exact Nat.mul_le_mul_right _ (by omega)
                  have hr := run_store_at (P := P) (w := w) hI b (j * e.n + off) tt arr g3 vx hvl (by rw [g4]; omega) h1
                  obtain ⟨s1, s2, s3⟩ := store_row_cells (off := off) (xs := vx.cells.toList) g4 g5 hlt' (by omega)
                  have ev := evo_upd ho g1 (show (Place.at b e.n cap (List.length (α := e.D) l)).S b from rfl) (turned_setRow w b (putL arr.toList (j * e.n + off) vx.cells.toList).toArray) [] (.rowf tt e l j (putL (expl e y) off x.cells))
                  refine good_upd hh ho g1 rfl (turned_setRow w b _) [] _ (v := v0) (bind_ok hr) ?_
                  have hex := expl_ok (φ := φ) e y vs hk
                  have hexl := L2_len hex
                  refine ⟨b, cap, _, g1, setRow_heap w b _ _ tt _ g3, s1, g5, fun q z hq hz => ?_, hlt', ?_, putL vs off vx.cells.toList, L2_mono (fun _ _ h => ev.C h) (L2_put hex hcr off), fun q u hu => ?_⟩
                  · obtain ⟨us, q1, q2⟩ := g6 q z hz
                    refine ⟨us, ev.K _ _ _ q1, fun q' u hu => ?_⟩
                    rw [s2 q q' hq (by rw [← K_len e z us q1]; exact (List.getElem?_eq_some_iff.1 hu).1)]
                    exact q2 q' u hu
                  · rw [putL_length _ _ _ (by omega)]; omega
                  · have hq : q < e.n := by
                      have := (List.getElem?_eq_some_iff.1 hu).1
                      rw [putL_length _ _ _ (by omega)] at this; omega
                    rw [s3 q hq]
                    have := put_cells (by omega) hu
                    split
                    · rename_i h0; rw [if_pos h0] at this; exact hvs q u this
                    · rename_i h0
                      rw [if_neg h0] at this
                      split
                      · rename_i h00; rwa [if_pos h00] at this
                      · rename_i h00; rw [if_neg h00] at this; exact hvs q u this
              · split
                · rename_i y' ids hvw
                  split
                  · exact trivial
                  · rename_i hnc
                    intro hlt
                    have hlt' : j < List.length (α := e.D) l := hlt
                    obtain ⟨b, sz, cap, nn, g1, rfl⟩ := ha
                    rcases hh.ob id _ ho with ⟨g2, _⟩ | ⟨b', cap', arr, g2, g3, g4, g5, g6⟩
                    · rw [g1] at g2; cases g2
                    · rw [g1] at g2; cases g2
                      obtain ⟨y, hy⟩ : ∃ y, l[j]? = some y := ⟨_, List.getElem?_eq_getElem hlt'⟩
                      have hg : Lv.std.get e l j = y := by show (l[j]?).getD e.dflt = y; rw [hy]; rfl
                      rw [hg] at hvw
                      obtain ⟨vs, hk, hvs⟩ := g6 j y hy
                      have hkl := K_len e y vs hk
                      have hmul : j * e.n + e.n ≤ cap * e.n := by rw [← Nat.succ_mul]; exact Nat.mul_le_mul_right _ (by omega)
                      have hr := run_store_at (P := P) (w := w) hI b (j * e.n + off) tt arr g3 vx hvl (by rw [g4]; omega) h1
                      obtain ⟨s1, s2, s3⟩ := store_row_cells (off := off) (xs := vx.cells.toList) g4 g5 hlt' (by omega)
                      have hex := expl_ok (φ := φ) e y vs hk
                      obtain ⟨va, vb, e1, hva, hvb⟩ := view_ok hh e _ _ y' [] ids hvw (L2_put hex hcr off)
                      have : vb = [] := by
                        cases vb with
                        | nil => rfl
                        | cons _ _ => exact hvb.elim
                      subst this
                      rw [List.append_nil] at e1
                      have hnid : id ∉ ids := by simpa using hnc
                      have hll : List.length (α := e.D) (Lv.std.setl e l j y') = List.length (α := e.D) l := List.length_set
                      have ev := evo_upd ho g1 (show (Place.at b e.n cap (List.length (α := e.D) l)).S b from rfl) (turned_setRow w b (putL arr.toList (j * e.n + off) vx.cells.toList).toArray) ids (.row tt e (Lv.std.setl e l j y'))
                      refine good_upd hh ho g1 rfl (turned_setRow w b _) ids _ (v := v0) (bind_ok hr) ?_
                      refine .inr ⟨b, cap, _, by rw [hll]; exact g1, setRow_heap w b _ _ tt _ g3, s1, by rw [hll]; exact g5, fun q z hz => ?_⟩
                      change (List.set l j y')[q]? = some z at hz
                      by_cases hq : q = j
                      · subst hq
                        rw [List.getElem?_set_self hlt'] at hz
                        cases hz
                        refine ⟨va, ?_, fun q' u hu => ?_⟩
                        · refine K_mono (fun c hc _ => ⟨?_, ?_⟩) e _ _ hva
                          · refine (turned_setRow w b _).bl c fun e => ?_
                            subst e
                            refine hc id (.row tt e l) _ ?_ g1 rfl
                            rw [lookA_delAll, if_neg hnid]; exact ho
                          · intro i o p k1 k2 k3
                            rcases look_upd ho k1 with ⟨rfl, rfl⟩ | ⟨_, k4, k5⟩
                            · refine hc i (.row tt e l) _ ?_ k2 k3
                              rw [lookA_delAll, if_neg hnid]; exact ho
                            · refine hc i o p ?_ k2 k3
                              rw [lookA_delAll, if_neg k4]; exact k5
                        · rw [← e1] at hu
                          have hq' : q' < e.n := by
                            have := (List.getElem?_eq_some_iff.1 hu).1
                            rw [putL_length _ _ _ (by omega)] at this; omega
                          rw [s3 q' hq']
                          have := put_cells (by omega) hu
                          split
                          · rename_i h0; rw [if_pos h0] at this; exact hvs q' u this
                          · rename_i h0
                            rw [if_neg h0] at this
                            split
                            · rename_i h00; rwa [if_pos h00] at this
                            · rename_i h00; rw [if_neg h00] at this; exact hvs q' u this
                      · rw [List.getElem?_set_ne (fun e => hq e.symm)] at hz
                        obtain ⟨us, q1, q2⟩ := g6 q z hz
                        refine ⟨us, ev.K _ _ _ q1, fun q' u hu => ?_⟩
                        rw [s2 q q' hq (by rw [← K_len e z us q1]; exact (List.getElem?_eq_some_iff.1 hu).1)]
                        exact q2 q' u hu
                · exact trivial
            · exact trivial
          | rowf tt e l q0 cs =>
            simp only
            split
            · rename_i hle
              have hle' := Nat.le_of_ble_eq_true hle
              intro hq0
              subst hq0
              obtain ⟨b, sz, cap, nn, g1, rfl⟩ := ha
              obtain ⟨b', cap', arr, g2, g3, g4, g5, g6, g7, g8, vs, g9, g10⟩ := hh.ob id _ ho
              rw [g1] at g2; cases g2
              have hkl := L2_len g9
              have hmul : j * e.n + e.n ≤ cap * e.n := by rw [← Nat.succ_mul]; exact Nat.mul_le_mul_right _ (by omega)
              have hr := run_store_at (P := P) (w := w) hI b (j * e.n + off) tt arr g3 vx hvl (by rw [g4]; omega) h1
              obtain ⟨s1, s2, s3⟩ := store_row_cells (off := off) (xs := vx.cells.toList) g4 g5 g7 (by omega)
              have ev := evo_upd ho g1 (show (Place.at b e.n cap (List.length (α := e.D) l)).S b from rfl) (turned_setRow w b (putL arr.toList (j * e.n + off) vx.cells.toList).toArray) [] (.rowf tt e l j (putL cs off x.cells))
              refine good_upd hh ho g1 rfl (turned_setRow w b _) [] _ (v := v0) (bind_ok hr) ?_
              refine ⟨b, cap, _, g1, setRow_heap w b _ _ tt _ g3, s1, g5, fun q z hq hz => ?_, g7, ?_, putL vs off vx.cells.toList, L2_mono (fun _ _ h => ev.C h) (L2_put g9 hcr off), fun q u hu => ?_⟩
              · obtain ⟨us, q1, q2⟩ := g6 q z hq hz
                refine ⟨us, ev.K _ _ _ q1, fun q' u hu => ?_⟩
                rw [s2 q q' hq (by rw [← K_len e z us q1]; exact (List.getElem?_eq_some_iff.1 hu).1)]
                exact q2 q' u hu
              · rw [putL_length _ _ _ (by omega)]; omega
              · have hq : q < e.n := by
                  have := (List.getElem?_eq_some_iff.1 hu).1
                  rw [putL_length _ _ _ (by omega)] at this; omega
                rw [s3 q hq]
                have := put_cells (by omega) hu
                split
                · rename_i h0; rw [if_pos h0] at this; exact g10 q u this
                · rename_i h0
                  rw [if_neg h0] at this
                  split
                  · rename_i h00; rwa [if_pos h00] at this
                  · rename_i h00; rw [if_neg h00] at this; exact g10 q u this
            · exact trivial
          | map k' v' l => exact trivial
          | mapc l => exact trivial
          | amb => exact trivial
      · exact trivial
    · exact trivial
end
end Go.VM
set_option autoImplicit false
set_option linter.all false
namespace Go.VM
open Go Go.Lib

section
variable {P : Program} {E : Ev} {φ : Phi} {w : World} {hp : Hp} {f : Nat}

theorem convert_int {src dst : TypeId} {d : TypeDesc} {k k' : IntKind} {n : Int} (hs : P.underlying src = some d) (hd : P.underlying dst = some (.int k)) :
    (convert src dst (.int k' n)).run P w = .ok (.int k (k.wrap n)) w := by
  simp [convert, run_und hs, run_und hd, Conv.intToInt]

theorem convert_str {src dst : TypeId} {d : TypeDesc} {s : ByteArray} (hs : P.underlying src = some d) (hd : P.underlying dst = some .string) :
    (convert src dst (.string s)).run P w = .ok (.string s) w := by
  simp [convert, run_und hs, run_und hd]

theorem push_str (l : List Int) : ∀ r : ByteArray, l.foldl (fun r n => r.push (UInt8.ofNat n.toNat)) r = r ++ strOfL l := by
  induction l with
  | nil =>
    intro r
    apply ByteArray.ext
    simp [strOfL, ByteArray.data_append]
  | cons n l ih =>
    intro r
    simp only [List.foldl_cons, ih]
    apply ByteArray.ext
    simp [strOfL, ByteArray.data_append, ByteArray.push]

theorem convert_bytes {src dst e : TypeId} {l : List Int} {v : Value} (hs : P.underlying src = some (.slice e)) (hd : P.underlying dst = some .string) (he : P.underlying e = some (.int .u8))
    {ok : Nat → Prop} {news : List Value} (hsrc : Src ok w (.int .u8) l news) (hn : ∀ w' : World, w'.heap = w.heap → (Builtin.firstCells 1 (List.length l) v).run P w' = .ok news.toArray w') (hv : ∃ A c, v = .slice A (List.length l) c) :
    (convert src dst v).run P w = .ok (.string (strOfL l)) w := by
  obtain ⟨A, c, rfl⟩ := hv
  have hnews : news = l.map (Value.int .u8) := by
    obtain ⟨h1, _, h3⟩ := hsrc
    have h1' : news.length = l.length := by rw [h1]; show List.length l * 1 = _; omega
    refine List.ext_getElem? fun j => ?_
    rw [List.getElem?_map]
    cases hj : l[j]? with
    | none =>
      have : l.length ≤ j := by simpa using hj
      simp; omega
    | some x =>
      obtain ⟨vs, q1, q2⟩ := h3 j x hj
      obtain rfl : vs = [.int .u8 x] := q1
      have := q2 0 _ rfl
      simpa [Ty.n] using this
  have hf := hn w rfl
  cases A with
  | none =>
    have hl : l = [] := by
      simp [Builtin.firstCells] at hf
      rw [hnews] at hf
      cases l with
      | nil => rfl
      | cons _ _ => simp at hf
    subst hl
    simp [convert, run_und hs, run_und hd, run_und he, Conv.bytesToString, strOfL]
    rfl
  | some a =>
    simp [Builtin.firstCells] at hf
    rw [hnews] at hf
    have := run_bytesToString (P := P) w a l.length c l hf
    simp [convert, run_und hs, run_und hd, run_und he, this, push_str]

theorem any_u8 (hE : ∀ t i, E t = some i → TIok P t i) {e : TypeId} (h : (E e).any (fun i => decide (i.kd = .int .u8)) = true) : P.underlying e = some (.int .u8) := by
  cases hi : E e with
  | none => rw [hi] at h; cases h
  | some i =>
    rw [hi] at h
    have hk : i.kd = .int .u8 := by simpa using h
    have := (hE e i hi).und
    rw [hk] at this
    exact this

theorem und_some {t : TypeId} {i : TI} (h : TIok P t i) : ∃ d, P.underlying t = some d := by
  have hu := h.und
  cases hk : i.kd <;> rw [hk] at hu <;> simp only at hu <;> first
    | exact ⟨_, hu⟩
    | (obtain ⟨a, h1, _⟩ := hu; exact ⟨_, h1⟩)
    | (obtain ⟨a, b, c, h1⟩ := hu; exact ⟨_, h1⟩)

theorem convert_ok (hE : ∀ t i, E t = some i → TIok P t i) (hh : HRel φ hp f w) (src dst : TypeId) (x : V) (v : Value) (hx : Vrel φ (okb φ hp) w x v) :
    FRok φ hp w f (fconvert Lv.std E (lookA hp) src dst x) ((convert src dst v).run P w) := by
  unfold fconvert
  split
  · rename_i si d k n h1 h2
    have hd := (hE _ _ h2).und
    obtain ⟨ds, hs⟩ := und_some (hE _ _ h1)
    obtain rfl : v = _ := hx
    split
    · rename_i k' hk
      rw [hk] at hd
      exact good_pure hh (convert_int hs hd) rfl
    · exact trivial
  · rename_i si d s h1 h2
    have hd := (hE _ _ h2).und
    obtain ⟨ds, hs⟩ := und_some (hE _ _ h1)
    obtain rfl : v = _ := hx
    split
    · rename_i hk
      rw [hk] at hd
      exact good_pure hh (convert_str hs hd) rfl
    · exact trivial
  · rename_i s d l h1 h2
    have hd := (hE _ _ h2).und
    have hs := (hE _ _ h1).und
    split
    · rename_i e hk1 hk2
      rw [hk1] at hs
      rw [hk2] at hd
      split
      · rename_i hu
        obtain ⟨news, q1, q2, q3⟩ := K_src (P := P) hx
        obtain ⟨A, c, g1, _⟩ := hx
        exact good_pure hh (convert_bytes hs hd (any_u8 hE hu) q1 q3 ⟨A, c, by simpa using g1⟩) rfl
      · exact trivial
    · exact trivial
  · rename_i s d id len h1 h2
    have hd := (hE _ _ h2).und
    have hs := (hE _ _ h1).und
    split
    · rename_i e hk1 hk2
      rw [hk1] at hs
      rw [hk2] at hd
      split
      · rename_i hu
        split
        · rename_i t l ho
          obtain ⟨news, q1, q2, q3, q4, q5⟩ := own_src (P := P) hh ho hx
          have q2' : List.length (List.take len l : List Int) = len := q2
          refine good_pure hh (convert_bytes (l := (List.take len l : List Int)) hs hd (any_u8 hE hu) q1 (fun w' hw' => ?_) ?_) rfl
          · rw [q2']; exact q4 w' hw'
          · rw [q2']
            rcases q5 with ⟨_, rfl, ⟨A, rfl⟩, _⟩ | ⟨b, cap, arr, _, rfl, _⟩
            · exact ⟨A, 0, rfl⟩
            · exact ⟨_, cap, rfl⟩
        · exact trivial
      · exact trivial
    · exact trivial
  · exact trivial

theorem ptrIds_ok {ok : Nat → Prop} : ∀ (l : List V) (vs : List Value) (ids : List Nat), L2 (Vrel φ ok w) l vs → ptrIds l = some ids → L2 (fun id u => isPtr φ id 0 u) ids vs
  | [], [], ids, _, h => by cases h; exact trivial
  | x :: l, v :: vs, ids, hl, h => by
    unfold ptrIds at h
    split at h
    · rename_i heq; cases heq
    · rename_i id r heq
      cases heq
      cases hr : ptrIds l with
      | none => rw [hr] at h; cases h
      | some ids' =>
        rw [hr] at h
        cases h
        exact ⟨hl.1, ptrIds_ok l vs ids' hl.2 hr⟩
    · cases h
  | [], _ :: _, _, hl, _ | _ :: _, [], _, hl, _ => hl.elim

theorem makeFunc_ok (hh : HRel φ hp f w) (fn : Fn) (first caps : List V) (vf vc : List Value) (hf : L2 (Vrel φ (okb φ hp) w) first vf) (hc : L2 (Vrel φ (okb φ hp) w) caps vc) :
    FRok φ hp w f (fmakeFunc fn first caps) ((Instr.makeFunc fn vf.toArray vc.toArray).run P w) := by
  unfold fmakeFunc
  split
  · rename_i g ids hids
    have : vf = [] := by
      cases vf with
      | nil => rfl
      | cons _ _ => exact hf.elim
    subst this
    exact good_pure hh (v := .func (.func g) #[] vc.toArray) (by simp [Instr.makeFunc]) ⟨vc, rfl, ptrIds_ok caps vc ids hc hids⟩
  · exact trivial

theorem extract_ok (hh : HRel φ hp f w) (x : V) (i : Nat) (v : Value) (hx : Vrel φ (okb φ hp) w x v) : FRok φ hp w f (fextract x i) ((Instr.extract v i).run P w) := by
  unfold fextract
  split
  · rename_i l
    cases hi : l[i]? with
    | none => exact trivial
    | some p =>
      obtain ⟨b, cs⟩ := p
      obtain ⟨vs, rfl, hl⟩ := hx
      obtain ⟨u, hu, hr⟩ := L2_get hl hi
      have hr0 : (Instr.extract (.tuple vs.toArray) i).run P w = .ok u w := by simp [Instr.extract, hu]
      unfold tupRel at hr
      simp only at hr
      cases b
      · simp only [Bool.false_eq_true, if_false] at hr
        obtain ⟨c, rfl, hc⟩ := hr
        exact good_pure hh hr0 hc
      · simp only [if_true] at hr
        obtain ⟨us, rfl, hl'⟩ := hr
        exact good_pure hh hr0 ⟨us, rfl, hl'⟩
  · exact trivial

theorem pick_ok (hh : HRel φ hp f w) (c a b : V) (vc va vb : Value) (hc : Vrel φ (okb φ hp) w c vc) (ha : Vrel φ (okb φ hp) w a va) (hb : Vrel φ (okb φ hp) w b vb) :
    FRok φ hp w f (fpick c a b) ((do pure (if ← asBool vc then va else vb) : Sem Value).run P w) := by
  unfold fpick
  split
  · obtain rfl : vc = .bool true := hc
    exact good_pure hh (by simp [asBool]) ha
  · obtain rfl : vc = .bool false := hc
    exact good_pure hh (by simp [asBool]) hb
  · rename_i x
    obtain rfl : vc = .bool x := hc
    refine ⟨fun h => ?_, fun h => ?_⟩
    · subst h; exact good_pure hh (by simp [asBool]) ha
    · subst h; exact good_pure hh (by simp [asBool]) hb
  · exact trivial
end
end Go.VM
set_option autoImplicit false
set_option linter.all false
namespace Go.VM
open Go Go.Lib

section
variable {P : Program} {E : Ev} {φ : Phi} {w : World} {hp : Hp} {f : Nat}

theorem isKdP (hE : ∀ t i, E t = some i → TIok P t i) {t : TypeId} {k : Kd} (h : isKd E t k = true) : ∃ i, TIok P t i ∧ i.kd = k := isKd_ok hE h

/-- What a key is. -/
inductive KeyAs (d : TypeDesc) : (k : Ty) → k.D → Value → Prop
  | int (q : IntKind) (n : Int) (hd : d = .int q) : KeyAs d (.int q) n (.int q n)
  | str (s : ByteArray) (hd : d = .string) : KeyAs d .str s (.string s)

theorem key_as (hE : ∀ t i, E t = some i → TIok P t i) {kt : TypeId} {k : Ty} (h : keyOk E kt k = true) : ∃ d, P.underlying kt = some d ∧ ∀ (ok : Nat → Prop) (w : World) (x : k.D) (v : Value), K ok w k x [v] → KeyAs d k x v := by
  unfold keyOk at h
  split at h
  · rename_i q
    obtain ⟨i, hI, hk⟩ := isKd_ok hE h
    have hu := hI.und
    rw [hk] at hu
    refine ⟨_, hu, fun ok w x v hx => ?_⟩
    simp only [K, List.cons.injEq, and_true] at hx
    subst hx; exact .int q x rfl
  · obtain ⟨i, hI, hk⟩ := isKd_ok hE h
    have hu := hI.und
    rw [hk] at hu
    refine ⟨_, hu, fun ok w x v hx => ?_⟩
    simp only [K, List.cons.injEq, and_true] at hx
    subst hx; exact .str x rfl
  · cases h

theorem KeyAs.same {d : TypeDesc} {k : Ty} {x y : k.D} {u v : Value} (h1 : KeyAs d k x u) (h2 : KeyAs d k y v) : Instr.sameNow d u v = some (keq k x y) := by
  cases h1 with
  | int q n hd => cases h2 with | int _ m _ => subst hd; simp [Instr.sameNow, keq]
  | str s hd => cases h2 with | str t _ => subst hd; simp [Instr.sameNow, keq]

theorem ba_eq {a b : ByteArray} (h : (a == b) = true) : a = b := ByteArray.ext (eq_of_beq h)
theorem ba_self (a : ByteArray) : (a == a) = true := by show (a.data == a.data) = true; simp
theorem ba_bits {a b : ByteArray} (h : keq .str a b = true) (n : Nat) : Instr.sameBits n (.string b) (.string a) = true := by
  have := ba_eq h
  subst this
  cases n <;> exact ba_self _

theorem KeyAs.bits {d : TypeDesc} {k : Ty} {x y : k.D} {u v : Value} (h1 : KeyAs d k x u) (h2 : KeyAs d k y v) (h : keq k x y = true) : ∀ n, Instr.sameBits n v u = true := by
  intro n
  cases h1 with
  | int q n hd => cases h2 with | int _ m _ => simp only [keq, beq_iff_eq] at h; subst h; simp [Instr.sameBits]
  | str s hd => cases h2 with | str t _ => exact ba_bits h n

theorem KeyAs.check {d : TypeDesc} {k : Ty} {x : k.D} {u : Value} {kt : TypeId} (hk : P.underlying kt = some d) (h : KeyAs d k x u) (b : Bool) : (Instr.checkKey b 10000 kt u).run P w = .ok () w := by
  show (Instr.checkKey b (9999 + 1) kt u).run P w = .ok () w
  unfold Instr.checkKey
  simp only [Sem.run_bind, run_und hk, Result.andThen_ok]
  cases h with
  | int q n hd => subst hd; rfl
  | str s hd => subst hd; rfl

theorem KeyAs.refl {d : TypeDesc} {k : Ty} {x : k.D} {u : Value} (h : KeyAs d k x u) : KeyAs d k x u := h

theorem find_ok {ok : Nat → Prop} {d : TypeDesc} {k v : Ty} {x : k.D} {u : Value} (hx : KeyAs d k x u) (hk : ∀ (y : k.D) (c : Value), K ok w k y [c] → KeyAs d k y c) (y0 : v.D) :
    ∀ (l : List (k.D × v.D)) (es : List MapEntry) (i : Nat), L2 (fun (p : k.D × v.D) (e : MapEntry) => K ok w k p.1 [e.key] ∧ K ok w v p.2 [e.val]) l es →
      (mhasL k v l x = false ∧ mvalL k v l x = v.dflt ∧ mputL k v l x y0 = l ++ [(x, y0)] ∧ Instr.findNow d u es i = some none) ∨
      ∃ j p e, mhasL k v l x = true ∧ mvalL k v l x = p.2 ∧ l[j]? = some p ∧ es[j]? = some e ∧ keq k x p.1 = true ∧ mputL k v l x y0 = l.set j (x, y0) ∧ Instr.findNow d u es i = some (some (i + j, e.val))
  | [], [], i, _ => .inl ⟨rfl, rfl, rfl, rfl⟩
  | p :: l, e :: es, i, h => by
    have hs := hx.same (hk _ _ h.1.1)
    by_cases hq : keq k x p.1 = true
    · refine .inr ⟨0, p, e, ?_, ?_, rfl, rfl, hq, ?_, ?_⟩
      · simp [mhasL, hq]
      · simp [mvalL, hq]
      · simp [mputL, hq]
      · simp [Instr.findNow, hs, hq]
    · have hq' : keq k x p.1 = false := by simpa using hq
      rcases find_ok hx hk y0 l es (i + 1) h.2 with ⟨h1, h2, h3, h4⟩ | ⟨j, p', e', h1, h2, h3, h4, h5, h6, h7⟩
      · refine .inl ⟨?_, ?_, ?_, ?_⟩
        · simp [mhasL, hq'] at h1 ⊢; exact h1
        · simp [mvalL, hq', h2]
        · simp [mputL, hq', h3]
        · simp [Instr.findNow, hs, hq', h4]
      · refine .inr ⟨j + 1, p', e', ?_, ?_, by simpa using h3, by simpa using h4, h5, ?_, ?_⟩
        · simp [mhasL, hq'] at h1 ⊢; exact h1
        · simp [mvalL, hq', h2]
        · simp [mputL, hq', h6]
        · simp [Instr.findNow, hs, hq', h7]; omega
  | [], _ :: _, _, h | _ :: _, [], _, h => h.elim

theorem mapOf_ok (hE : ∀ t i, E t = some i → TIok P t i) {t kt et : TypeId} (h : mapOf E t = some (kt, et)) : P.underlying t = some (.map kt et) := by
  unfold mapOf at h
  cases hi : E t with
  | none => rw [hi] at h; cases h
  | some i =>
    rw [hi] at h
    simp only at h
    cases hk : i.kd <;> rw [hk] at h <;> simp only at h <;> try cases h
    have hu := (hE t i hi).und
    rw [hk] at hu
    exact hu

theorem turned_obj {g : Nat} {o : Obj} (hg : g < w.heap.size) : Turned w { w with heap := w.heap.setIfInBounds g o } g :=
  ⟨rfl, rfl, rfl, by simp, fun k hk => by simp [Array.getElem?_setIfInBounds, Ne.symm hk]⟩

theorem heap_obj {g : Nat} {o : Obj} (hg : g < w.heap.size) : ({ w with heap := w.heap.setIfInBounds g o } : World).heap[g]? = some o := by
  simp [Array.getElem?_setIfInBounds, hg]

theorem L2_modify {α β : Type} {R : α → β → Prop} {a : α} {g : β → β} : ∀ {l : List α} {m : List β} (j : Nat), L2 R l m → (∀ b, m[j]? = some b → R a (g b)) → L2 R (l.set j a) (m.modify j g)
  | [], [], _, _, _ => by simp; exact trivial
  | _ :: _, b :: _, 0, h, hr => ⟨hr b rfl, h.2⟩
  | _ :: _, _ :: _, j + 1, h, hr => ⟨h.1, L2_modify j h.2 (fun b hb => hr b (by simpa using hb))⟩
  | [], _ :: _, _, h, _ | _ :: _, [], _, h, _ => h.elim

/-- An entry comes in, or is turned. -/
theorem run_mapUpdate {t kt et : TypeId} {d : TypeDesc} (ht : P.underlying t = some (.map kt et)) (hk : P.underlying kt = some d) {b : Nat} {es : Array MapEntry} {clock : Nat} (hb : w.heap[b]? = some (.map es clock)) {u val : Value}
    (hc : (Instr.checkKey false 10000 kt u).run P w = .ok () w) :
    (Instr.findNow d u es.toList 0 = some none → (Instr.mapUpdate t (.map (some b)) u val).run P w = .ok () { w with heap := w.heap.setIfInBounds b (.map (es.push { key := u, val := val, born := clock }) (clock + 1)) }) ∧
    (∀ j e, Instr.findNow d u es.toList 0 = some (some (j, e.val)) → es[j]? = some e → (∀ n, Instr.sameBits n e.key u = true) →
      (Instr.mapUpdate t (.map (some b)) u val).run P w = .ok () { w with heap := w.heap.setIfInBounds b (.map (es.modify j fun e => { e with key := u, val := val }) clock) }) := by
  refine ⟨fun hf => ?_, fun j e hf hj hs => ?_⟩
  · simp [Instr.mapUpdate, run_und ht, MapKept.run_getObj_map hb, hc, Instr.findKey, run_und hk, hf, MapKept.run_setObj_map _ hb]
  · simp [Instr.mapUpdate, run_und ht, MapKept.run_getObj_map hb, hc, Instr.findKey, run_und hk, hf, hj, Instr.keyThatStays, hs, MapKept.run_setObj_map _ hb]

theorem view_one (hh : HRel φ hp f w) {t : Ty} {c : C} {x : t.D} {v : Value} (h : view Lv.std (lookA hp) t [c] = some (x, [], [])) (hv : Crel φ (okb φ hp) w c v) : K (okb φ hp) w t x [v] := by
  obtain ⟨v1, v2, e, h1, h2⟩ := view_ok hh t [c] [v] x [] [] h ⟨hv, trivial⟩
  have : v2 = [] := by
    cases v2 with
    | nil => rfl
    | cons _ _ => exact h2.elim
  subst this
  rw [List.append_nil] at e
  rw [e]; exact h1

theorem mapc_none {ok : Nat → Prop} (k : IntKind) (n : Int) : ∀ (l : List (C × C)) (es : List MapEntry) (i : Nat), L2 (fun (p : C × C) (e : MapEntry) => Crel φ ok w p.1 e.key ∧ Crel φ ok w p.2 e.val) l es → keysK k l = true → neKeys Lv.std n l →
    Instr.findNow (.int k) (.int k n) es i = some none
  | [], [], _, _, _, _ => rfl
  | (.int k' m, x) :: l, e :: es, i, h, hk, hn => by
    simp only [keysK, Bool.and_eq_true, decide_eq_true_eq] at hk
    obtain ⟨rfl, hk⟩ := hk
    have hkey : e.key = .int k' m := h.1.1
    have hne : (n == m) = false := hn.1
    simp [Instr.findNow, hkey, Instr.sameNow, hne, mapc_none k' n l es (i + 1) h.2 hk hn.2]
  | [], _ :: _, _, h, _, _ | _ :: _, [], _, h, _, _ => h.elim

def lookRes (z : Value) (ok : Bool) : Option (Nat × Value) → Value
  | some (_, v) => if ok then .tuple #[v, .bool true] else v
  | none => if ok then .tuple #[z, .bool false] else z

theorem one_cells {v : Value} (h : v.oneCell' = true) : v.cells = #[v] := by
  cases v <;> first
    | rfl
    | (simp [Value.oneCell'] at h)

theorem zero_one {t : TypeId} {i : TI} (h : TIok P t i) (ha : i.kd.isAgg = false) {z : Value} (hz : (zeroValue t).run P w = .ok z w) : z.cells = #[z] := by
  obtain ⟨x, hx, _, _, h3⟩ := h.info
  cases hzz : x.zero with
  | none => simp [hzz] at h3
  | some z' =>
    have : z = z' := by simpa [zeroValue, run_info hx, hzz] using hz.symm
    subst this
    exact one_cells (h.za ha x z hx hzz)

theorem picks_ok (hh : HRel φ hp f w) (ok : Bool) (k : IntKind) (n : Int) (z : Option C) (zv : Value) (hz : ∀ c, z = some c → Crel φ (okb φ hp) w c zv) {run : Result Value} :
    ∀ (l : List (C × C)) (es : List MapEntry) (i : Nat), L2 (fun (p : C × C) (e : MapEntry) => Crel φ (okb φ hp) w p.1 e.key ∧ Crel φ (okb φ hp) w p.2 e.val) l es →
      (∀ r, Instr.findNow (.int k) (.int k n) es i = some r → run = .ok (lookRes zv ok r) w) → FRok φ hp w f (fpicks Lv.std ok k n z l) run
  | [], [], i, _, hr => by
    have h := hr none rfl
    unfold fpicks
    cases hzc : z with
    | none => exact trivial
    | some c =>
      have hc := hz c hzc
      cases ok
      · exact good_pure hh h hc
      · exact good_pure hh h ⟨[zv, .bool false], rfl, ⟨c, rfl, hc⟩, ⟨_, rfl, rfl⟩, trivial⟩
  | (c, x) :: l, e :: es, i, h, hr => by
    unfold fpicks
    split
    · rename_i heq; cases heq
    · rename_i k' m x' r heq
      cases heq
      split
      · rename_i hk; subst hk
        have hkey : e.key = .int k m := h.1.1
        refine ⟨fun hc => ?_, fun hc => ?_⟩
        · have hc' : (n == m) = true := hc
          have h1 := hr (some (i, e.val)) (by simp [Instr.findNow, hkey, Instr.sameNow, hc'])
          cases ok
          · exact good_pure hh h1 h.1.2
          · exact good_pure hh h1 ⟨[e.val, .bool true], rfl, ⟨_, rfl, h.1.2⟩, ⟨_, rfl, rfl⟩, trivial⟩
        · have hc' : (n == m) = false := hc
          exact picks_ok hh ok k n z zv hz l es (i + 1) h.2 (fun r hq => hr r (by simp [Instr.findNow, hkey, Instr.sameNow, hc', hq]))
      · exact trivial
    · exact trivial
  | [], _ :: _, _, h, _ | _ :: _, [], _, h, _ => h.elim

theorem run_lookup {t kt et : TypeId} {d : TypeDesc} (ht : P.underlying t = some (.map kt et)) (hk : P.underlying kt = some d) {b : Nat} {es : Array MapEntry} {clock : Nat} (hb : w.heap[b]? = some (.map es clock)) {u z : Value} (ok : Bool)
    (hz : (zeroValue et).run P w = .ok z w) (hc : ∀ e, (Instr.checkKey e 10000 kt u).run P w = .ok () w) (r : Option (Nat × Value)) (hf : Instr.findNow d u es.toList 0 = some r) :
    (Instr.lookup t (.map (some b)) u ok).run P w = .ok (lookRes z ok r) w := by
  cases r with
  | none => cases ok <;> simp [Instr.lookup, run_und ht, MapKept.run_getObj_map hb, hc, Instr.findKey, run_und hk, hf, hz, lookRes]
  | some p => obtain ⟨j, v⟩ := p; cases ok <;> simp [Instr.lookup, run_und ht, MapKept.run_getObj_map hb, hc, Instr.findKey, run_und hk, hf, lookRes]

theorem lookup_ok (hE : ∀ t i, E t = some i → TIok P t i) (hh : HRel φ hp f w) (t : TypeId) (x i : V) (ok : Bool) (vx vi : Value) (hx : Vrel φ (okb φ hp) w x vx) (hi : Vrel φ (okb φ hp) w i vi) :
    FRok φ hp w f (flookup Lv.std E (lookA hp) t x i ok) ((Instr.lookup t vx vi ok).run P w) := by
  unfold flookup
  cases ht : mapOf E t with
  | none => exact trivial
  | some p =>
    obtain ⟨kt, et⟩ := p
    have hu := mapOf_ok hE ht
    simp only
    split
    · rename_i ie id ix hie
      have hIe := hE _ _ hie
      obtain ⟨z, hz, hzc⟩ := run_zero (P := P) hIe w
      split
      · rename_i k v l ho
        split
        · rename_i hc
          simp only [Bool.and_eq_true, decide_eq_true_eq] at hc
          obtain ⟨⟨⟨hc1, hc2⟩, hc3⟩, hc4⟩ := hc
          have hv1 := beq_eq hc2
          split
          · rename_i key hvk
            obtain ⟨b, sz, cap, nn, g1, rfl⟩ := hx
            obtain ⟨b', es, clock, g2, g3, g4⟩ := hh.ob id _ ho
            rw [g1] at g2; cases g2
            obtain ⟨d, hd, has⟩ := key_as hE hc1
            have hkk := view_one hh hvk hi
            have hka := has _ _ _ _ hkk
            have hzK : K (okb φ hp) w v v.dflt [z] := by
              have h0 := zeroTy_K (ok := okb φ hp) (w := w) v
              rw [hc4, ← hzc] at h0
              have hz1 : z.cells = #[z] := zero_one hIe (by simpa using hc3) hz
              rw [hz1] at h0; exact h0
            have main : ∀ (y : v.D) (c : Value) (has : Bool) (run : Result Value), K (okb φ hp) w v y [c] → run = .ok (if ok then .tuple #[c, .bool has] else c) w →
                FRok φ hp w f (if ok then .v (.tup [(false, expl v y), (false, [.sym has])]) else mkV false (expl v y)) run := by
              intro y c has run hK hr
              have hex := expl_ok (φ := φ) v y [c] hK
              cases ok
              · exact mkV_ok (b := false) hh hex (v := c) hr rfl
              · match hxp : expl v y, hex with
                | [a], hex => exact good_pure hh hr ⟨[c, .bool has], rfl, ⟨_, rfl, hex.1⟩, ⟨_, rfl, rfl⟩, trivial⟩
                | [], hex => exact hex.elim
                | _ :: _ :: _, hex => exact hex.2.elim
            rcases find_ok hka (fun y c => has _ _ y c) v.dflt l es.toList 0 g4 with ⟨h1, h2, h3, h4⟩ | ⟨j, p, e, h1, h2, h3, h4, h5, h6, h7⟩
            · have hr := run_lookup (P := P) hu hd g3 ok hz (fun e => hka.check hd e) none h4
              exact main (mvalL k v l key) z (mhasL k v l key) _ (by rw [h2]; exact hzK) (by rw [h1]; exact hr)
            · obtain ⟨e', he', hR⟩ := L2_get g4 h3
              rw [h4] at he'; cases he'
              have hr := run_lookup (P := P) hu hd g3 ok hz (fun e => hka.check hd e) _ h7
              exact main (mvalL k v l key) e.val (mhasL k v l key) _ (by rw [h2]; exact hR.2) (by rw [h1]; exact hr)
          · exact trivial
        · exact trivial
      · rename_i l ho
        split
        · rename_i k n
          split
          · rename_i hc
            obtain ⟨b, sz, cap, nn, g1, rfl⟩ := hx
            obtain ⟨b', es, clock, g2, g3, g4⟩ := hh.ob id _ ho
            rw [g1] at g2; cases g2
            simp only [Bool.and_eq_true] at hc
            obtain ⟨ti, hI, hk⟩ := isKd_ok hE hc.1
            have hd := hI.und
            rw [hk] at hd
            obtain rfl : vi = .int k n := hi
            have hka : KeyAs (.int k) (.int k) n (.int k n) := .int k n rfl
            refine picks_ok hh ok k n _ z (fun c hcc => ?_) l es.toList 0 g4 (fun r hf => run_lookup (P := P) hu hd g3 ok hz (fun e => hka.check hd e) r hf)
            split at hcc
            · rename_i zz hzz
              cases hcc
              have hz1 := zero_one hIe (by simpa using hc.2) hz
              rw [hz1, hzz] at hzc
              have : z = zz.val := by simpa using hzc
              rw [this]
              exact Z_rel zz
            · cases hcc
          · exact trivial
        · exact trivial
      · exact trivial
    · exact trivial

theorem makeMap_ok (hE : ∀ t i, E t = some i → TIok P t i) (hh : HRel φ hp f w) (t : TypeId) : FRok φ hp w f (fmakeMap E f t) ((Instr.makeMap t none).run P w) := by
  have hr : (Instr.makeMap t none).run P w = .ok (.map (some w.heap.size)) (w.alloc (.map #[] 0)) := by simp [Instr.makeMap, newObj]; rfl
  unfold fmakeMap
  cases ht : mapOf E t with
  | none => exact trivial
  | some p =>
    simp only
    split
    · split
      · refine good_newk hh [] _ (.at w.heap.size 1 0 0) hr (below_new _ _) (fun b hb => by cases hb; exact Nat.le_refl _) ⟨_, _, _, phiSet_self _ _ _, heap_new _ _, trivial⟩ ⟨_, _, _, _, phiSet_self _ _ _, rfl⟩
      · refine good_newk hh [] _ (.at w.heap.size 1 0 0) hr (below_new _ _) (fun b hb => by cases hb; exact Nat.le_refl _) ⟨_, _, _, phiSet_self _ _ _, heap_new _ _, trivial⟩ ⟨_, _, _, _, phiSet_self _ _ _, rfl⟩
    · exact trivial

theorem mapUpdate_ok (hE : ∀ t i, E t = some i → TIok P t i) (hh : HRel φ hp f w) (t : TypeId) (m i x : V) (vm vi vx : Value) (hm : Vrel φ (okb φ hp) w m vm) (hi : Vrel φ (okb φ hp) w i vi) (hx : Vrel φ (okb φ hp) w x vx) {v0 : Value} :
    FRok φ hp w f (fmapUpdate Lv.std E (lookA hp) t m i x) ((do Instr.mapUpdate t vm vi vx; pure v0 : Sem Value).run P w) := by
  unfold fmapUpdate
  cases ht : mapOf E t with
  | none => exact trivial
  | some p =>
    obtain ⟨kt, et⟩ := p
    have hu := mapOf_ok hE ht
    simp only
    split
    · rename_i id ix x
      split
      · rename_i k v l ho
        split
        · rename_i hc
          simp only [Bool.and_eq_true] at hc
          split
          · rename_i key y hvk hvx
            obtain ⟨b, sz, cap, nn, g1, rfl⟩ := hm
            obtain ⟨b', es, clock, g2, g3, g4⟩ := hh.ob id _ ho
            rw [g1] at g2; cases g2
            obtain ⟨d, hd, has⟩ := key_as hE hc.1.1
            have hkk := view_one hh hvk hi
            have hkv := view_one hh hvx hx
            have hka := has _ _ _ _ hkk
            have hlt := (Array.getElem?_eq_some_iff.1 g3).1
            obtain ⟨r1, r2⟩ := run_mapUpdate (P := P) hu hd g3 (u := vi) (val := vx) (hka.check hd false)
            have hS : (Place.at b 1 0 0).S b := rfl
            rcases find_ok hka (fun y c => has _ _ y c) y l es.toList 0 g4 with ⟨h1, h2, h3, h4⟩ | ⟨j, p, e, h1, h2, h3, h4, h5, h6, h7⟩
            · have ev := evo_upd ho g1 hS (turned_obj (o := .map (es.push { key := vi, val := vx, born := clock }) (clock + 1)) hlt) [] (.map k v (Lv.std.mput k v l key y))
              refine good_upd hh ho g1 hS (turned_obj (o := .map (es.push { key := vi, val := vx, born := clock }) (clock + 1)) hlt) [] _ (v := v0) (bind_ok (r1 h4)) ?_
              refine ⟨b, _, _, g1, heap_obj hlt, ?_⟩
              show L2 _ (mputL k v l key y) _
              rw [h3, Array.toList_push]
              exact L2_append (L2_mono (fun _ _ hh => ⟨ev.K _ _ _ hh.1, ev.K _ _ _ hh.2⟩) g4) ⟨⟨ev.K _ _ _ hkk, ev.K _ _ _ hkv⟩, trivial⟩
            · have h4' : es[j]? = some e := by rw [← Array.getElem?_toList]; exact h4
              rw [Nat.zero_add] at h7
              obtain ⟨e', he', hR⟩ := L2_get g4 h3
              rw [h4] at he'; cases he'
              have ev := evo_upd ho g1 hS (turned_obj (o := .map (es.modify j fun e => { e with key := vi, val := vx }) clock) hlt) [] (.map k v (Lv.std.mput k v l key y))
              refine good_upd hh ho g1 hS (turned_obj (o := .map (es.modify j fun e => { e with key := vi, val := vx }) clock) hlt) [] _ (v := v0) (bind_ok (r2 j e h7 h4' (fun n => hka.bits (has _ _ _ _ hR.1) h5 n))) ?_
              refine ⟨b, _, _, g1, heap_obj hlt, ?_⟩
              show L2 _ (mputL k v l key y) _
              rw [h6, Array.toList_modify]
              exact L2_modify j (L2_mono (fun _ _ hh => ⟨ev.K _ _ _ hh.1, ev.K _ _ _ hh.2⟩) g4) (fun e _ => ⟨ev.K _ _ _ hkk, ev.K _ _ _ hkv⟩)
          · exact trivial
        · exact trivial
      · rename_i l ho
        split
        · rename_i k n
          split
          · rename_i hc
            simp only [Bool.and_eq_true] at hc
            intro hne
            obtain ⟨b, sz, cap, nn, g1, rfl⟩ := hm
            obtain ⟨b', es, clock, g2, g3, g4⟩ := hh.ob id _ ho
            rw [g1] at g2; cases g2
            obtain ⟨ti, hI, hk⟩ := isKd_ok hE hc.1.1
            have hd := hI.und
            rw [hk] at hd
            have hka : KeyAs (.int k) (.int k) n vi := by rw [show vi = _ from hi]; exact .int k n rfl
            have hlt := (Array.getElem?_eq_some_iff.1 g3).1
            obtain ⟨r1, _⟩ := run_mapUpdate (P := P) hu hd g3 (u := vi) (val := vx) (hka.check hd false)
            have hS : (Place.at b 1 0 0).S b := rfl
            have hf := mapc_none (φ := φ) (ok := okb φ hp) (w := w) k n l es.toList 0 g4 hc.2 hne
            obtain rfl : vi = .int k n := hi
            have ev := evo_upd ho g1 hS (turned_obj (o := .map (es.push { key := .int k n, val := vx, born := clock }) (clock + 1)) hlt) [] (.mapc (l ++ [(.int k n, x)]))
            refine good_upd hh ho g1 hS (turned_obj (o := .map (es.push { key := .int k n, val := vx, born := clock }) (clock + 1)) hlt) [] _ (v := v0) (bind_ok (r1 hf)) ?_
            refine ⟨b, _, _, g1, heap_obj hlt, ?_⟩
            rw [Array.toList_push]
            exact L2_append (L2_mono (fun _ _ hh => ⟨ev.C hh.1, ev.C hh.2⟩) g4) ⟨⟨ev.C (show Crel φ _ w (.int k n) _ from rfl), ev.C hx⟩, trivial⟩
          · exact trivial
        · exact trivial
      · exact trivial
    · exact trivial
end
end Go.VM
set_option autoImplicit false
set_option linter.all false
namespace Go.VM
open Go Go.Lib
variable {B : Nat × Bool}

/-- 's[:0:0]'. -/
def fclip (E : Ev) (h : H) (f : Nat) (t : TypeId) (x hi mx : V) : FR := match elemOf E t, hi, mx with
  | some et, .c (.int _ n), .c (.int _ m) => if decide (n = 0) && decide (m = 0) then match x with
      | .c (.sl e _) => if Nat.beq e.n (szOf E et) then .new (.c (.own f 0)) [.row et e []] [] else .bad
      | .c (.own id _) => match h id with
        | some (.row _ e _) => if Nat.beq e.n (szOf E et) then .new (.c (.own f 0)) [.row et e []] [] else .bad
        | _ => .bad
      | .c .nils => match E et with
        | some i => if Nat.beq i.ty.n i.size then .new (.c (.own f 0)) [.row et i.ty []] [] else .bad
        | none => .bad
      | _ => .bad
    else .bad
  | _, _, _ => .bad

/-- What a built-in function, or another operation, yields; none: a call. -/
def fbuiltin (L : Lv) (E : Ev) (h : H) (f : Nat) (b : Builtin) (ts : List TypeId) (as : List V) : FR := match b, ts, as with
  | .len, [t], [x] => flen L E t x
  | .append, [t, tx], [x, y] => fappend L E h f t tx x y
  | .min, _, [x, y] => fmin L x y
  | .max, _, [x, y] => fmax L x y
  | _, _, _ => .bad

def opFR (L : Lv) (E : Ev) (h : H) (f : Nat) (ev : Operand → V) : Op → FR
  | .move x | .assign x => .v (ev x)
  | .pick c a b => fpick (ev c) (ev a) (ev b)
  | .alloc t => falloc E f t
  | .box t x => fbox f t (ev x)
  | .build t ps => fbuild E t (ps.toList.map fun p => (p.1, ev p.2))
  | .buildSlice t n ps => fbuildSlice L E h f t n (ps.toList.map fun p => (p.1, ev p.2))
  | .load t a => fload L E h t (ev a)
  | .store t a x => fstore L E h t (ev a) (ev x)
  | .nilCheck x => fnilCheck (ev x)
  | .binOp op t x y _ => match isNilLit y with
    | true => fnil E op t (ev x) (ev y)
    | false => fbin L E op t (ev x) (ev y)
  | .makeInterface t x => fmki E t (ev x)
  | .unOp op _ x => funop L op (ev x)
  | .convert s d x => fconvert L E h s d (ev x)
  | .makeFunc fn first caps => fmakeFunc fn (first.toList.map ev) (caps.toList.map ev)
  | .makeMap t none => fmakeMap E f t
  | .makeSlice t l c => fmakeSlice L E f t (ev l) (ev c)
  | .slice t x lo hi none => fslice L E h t (ev x) (lo.map ev) (hi.map ev)
  | .slice t x none (some hi) (some mx) => fclip E h f t (ev x) (ev hi) (ev mx)
  | .fieldAddr s x k => ffieldAddr E s (ev x) k
  | .field s x k => ffield E s (ev x) k
  | .indexAddr t x i => findexAddr L E h t (ev x) (ev i)
  | .index t x i => findex L E t (ev x) (ev i)
  | .lookup t x i ok => flookup L E h t (ev x) (ev i) ok
  | .mapUpdate t m k x | .insert t m k x => fmapUpdate L E h t (ev m) (ev k) (ev x)
  | .extract x i => fextract (ev x) i
  | .call { callee := .builtin b, args := as, argTypes := ts } => fbuiltin L E h f b ts.toList (as.toList.map ev)
  | _ => .bad

section
variable {P : Program} {E : Ev} {φ : Phi} {w : World} {hp : Hp} {f : Nat}

theorem absC_ok {ok : Nat → Prop} (v : Value) : Crel φ ok w (absC v) v := by
  unfold absC
  split <;> first
    | rfl
    | trivial

theorem L2_absC {ok : Nat → Prop} : ∀ l : List Value, L2 (Crel φ ok w) (l.map absC) l
  | [] => trivial
  | v :: l => ⟨absC_ok v, L2_absC l⟩

theorem absV_ok {ok : Nat → Prop} (v : Value) : Vrel φ ok w (absV v) v := by
  unfold absV
  split
  · rename_i cs
    exact ⟨cs.toList, by simp, L2_absC cs.toList⟩
  · exact absC_ok v

theorem ev_ok {st : St} {a : Act} (hr : Rel B φ st a w) (x : Operand) : Vrel φ (okb φ st.hp) w (st.ev x) (a.eval x) := by
  cases x with
  | tmp t =>
    show Vrel _ _ _ (st.look t) _
    unfold St.look
    cases h : lookA st.sl t with
    | none => exact trivial
    | some v => exact hr.sl t v h
  | const v => exact absV_ok v
  | global g => exact trivial
  | func g => exact ⟨[], rfl, trivial⟩

theorem evs_ok {st : St} {a : Act} (hr : Rel B φ st a w) : ∀ xs : List Operand, L2 (Vrel φ (okb φ st.hp) w) (xs.map st.ev) (xs.map a.eval)
  | [] => trivial
  | x :: xs => ⟨ev_ok hr x, evs_ok hr xs⟩

theorem evps_ok {st : St} {a : Act} (hr : Rel B φ st a w) : ∀ xs : List (Nat × Operand), L2 (fun p q => p.1 = q.1 ∧ Vrel φ (okb φ st.hp) w p.2 q.2) (xs.map fun p => (p.1, st.ev p.2)) (xs.map fun p => (p.1, a.eval p.2))
  | [] => trivial
  | x :: xs => ⟨⟨rfl, ev_ok hr x.2⟩, evps_ok hr xs⟩

theorem evo_opt {st : St} {a : Act} (hr : Rel B φ st a w) (x : Option Operand) : orel φ (okb φ st.hp) w (x.map st.ev) (x.map a.eval) := by
  cases x with
  | none => exact trivial
  | some x => exact ev_ok hr x

theorem clip_ok (hE : ∀ t i, E t = some i → TIok P t i) (hh : HRel φ hp f w) (t : TypeId) (x hi mx : V) (v vh vm : Value) (hx : Vrel φ (okb φ hp) w x v) (hvh : Vrel φ (okb φ hp) w hi vh) (hvm : Vrel φ (okb φ hp) w mx vm) :
    FRok φ hp w f (fclip E (lookA hp) f t x hi mx) ((Instr.sliceAt t v none (some vh) (some vm)).run P w) := by
  unfold fclip
  split
  · rename_i et k1 n k2 m he
    split
    · rename_i hc
      simp only [Bool.and_eq_true, decide_eq_true_eq] at hc
      obtain ⟨rfl, rfl⟩ := hc
      obtain rfl : vh = _ := hvh
      obtain rfl : vm = _ := hvm
      have hu := elemOf_ok hE he
      have main : ∀ (e : Ty) (A : Option Addr) (len cap : Nat), v = .slice A len cap → e.n = szOf E et → FRok φ hp w f (.new (.c (.own f 0)) [.row et e []] []) ((Instr.sliceAt t v none (some (.int k1 0)) (some (.int k2 0))).run P w) := by
        intro e A len cap hv hsz
        subst hv
        obtain ⟨ii, hii, hszi, hI⟩ := szOf_pos hE (by rw [← hsz]; exact e.n_pos)
        have hs : (sizeOf et).run P w = .ok e.n w := by rw [run_size hI, ← hszi, ← hsz]
        have hr : (Instr.sliceAt t (.slice A len cap) none (some (.int k1 0)) (some (.int k2 0))).run P w = .ok (.slice A 0 0) w := by
          simp [Instr.sliceAt, run_und hu, Instr.slice, Instr.sliceBounds, Instr.sliceBound, asIntOf, hs]
        exact good_newk hh [] _ .nil hr (Go.RowKit.Below.refl _ _) (fun b hb => hb.elim) (.inl ⟨phiSet_self _ _ _, rfl⟩) (.inl ⟨phiSet_self _ _ _, rfl, A, rfl⟩)
      split
      · rename_i e l
        split
        · rename_i hb
          obtain ⟨A, c, h1, _⟩ := hx
          exact main e A _ c (by simpa using h1) (beq_eq hb)
        · exact trivial
      · rename_i id n
        split
        · rename_i t' e l ho
          split
          · rename_i hb
            rcases hx with ⟨_, rfl, A, rfl⟩ | ⟨b, sz, cap, nn, _, _, rfl⟩
            · exact main e A 0 0 rfl (beq_eq hb)
            · exact main e _ n cap rfl (beq_eq hb)
          · exact trivial
        · exact trivial
      · split
        · rename_i i hi
          split
          · rename_i hb
            obtain rfl : v = _ := hx
            exact main i.ty none 0 0 rfl (by rw [beq_eq hb]; simp [szOf, hi])
          · exact trivial
        · exact trivial
      · exact trivial
    · exact trivial
  · exact trivial

theorem run_val {s : Sem Value} {v : Value} {w' : World} (h : s.run P w = .ok v w') : (do pure (.value (← s)) : Sem Next).run P w = .ok (.value v) w' := by simp [h]
theorem run_skp {s : Sem Unit} {v : Value} {w' : World} (h : (do s; pure undef : Sem Value).run P w = .ok v w') : (do s; pure .skip : Sem Next).run P w = .ok .skip w' ∧ v = undef := by
  simp only [Sem.run_bind] at h ⊢
  cases hs : s.run P w with
  | ok u w1 =>
    rw [hs] at h
    simp only [Result.andThen_ok, Sem.run_pure, Result.ok.injEq] at h ⊢
    exact ⟨⟨trivial, h.2⟩, h.1.symm⟩
  | halt x w1 => rw [hs] at h; cases h

/-- What an operation does when it is done. -/
def Did (P : Program) (ρ : Operand → Value) (o : Oper) (w : World) (rv : Result Value) : Prop :=
  ∀ v w', rv = .ok v w' → (execOp ρ o).run P w = .ok (.value v) w' ∨ ((execOp ρ o).run P w = .ok .skip w' ∧ v = undef)

theorem did_val {ρ : Operand → Value} {o : Oper} {s : Sem Value} (h : execOp ρ o = (do pure (.value (← s)) : Sem Next)) : Did P ρ o w (s.run P w) := fun v w' hs => .inl (by rw [h]; exact run_val hs)
theorem did_skp {ρ : Operand → Value} {o : Oper} {s : Sem Unit} (h : execOp ρ o = (do s; pure .skip : Sem Next)) : Did P ρ o w ((do s; pure undef : Sem Value).run P w) := fun v w' hs => .inr (by rw [h]; exact run_skp hs)

theorem L2_evs {ev : Operand → V} {ρ : Operand → Value} (hev : ∀ x, Vrel φ (okb φ hp) w (ev x) (ρ x)) : ∀ xs : List Operand, L2 (Vrel φ (okb φ hp) w) (xs.map ev) (xs.map ρ)
  | [] => trivial
  | x :: xs => ⟨hev x, L2_evs hev xs⟩
theorem L2_evps {ev : Operand → V} {ρ : Operand → Value} (hev : ∀ x, Vrel φ (okb φ hp) w (ev x) (ρ x)) : ∀ xs : List (Nat × Operand), L2 (fun p q => p.1 = q.1 ∧ Vrel φ (okb φ hp) w p.2 q.2) (xs.map fun p => (p.1, ev p.2)) (xs.map fun p => (p.1, ρ p.2))
  | [] => trivial
  | x :: xs => ⟨⟨rfl, hev x.2⟩, L2_evps hev xs⟩
theorem orel_ev {ev : Operand → V} {ρ : Operand → Value} (hev : ∀ x, Vrel φ (okb φ hp) w (ev x) (ρ x)) (x : Option Operand) : orel φ (okb φ hp) w (x.map ev) (x.map ρ) := by
  cases x with
  | none => exact trivial
  | some x => exact hev x

theorem bad_did {r : Result Value} {ρ : Operand → Value} {o : Oper} : ∃ rv, FRok φ hp w f .bad rv ∧ Did P ρ o w rv := ⟨.halt .blocked w, trivial, fun v w' h => by cases h⟩

theorem builtin_ok (hE : ∀ t i, E t = some i → TIok P t i) (hh : HRel φ hp f w) (b : Builtin) (ts : Array TypeId) (ty : TypeId) (as : List V) (vs : List Value) (hv : L2 (Vrel φ (okb φ hp) w) as vs) :
    ∃ rv, FRok φ hp w f (fbuiltin Lv.std E (lookA hp) f b ts.toList as) rv ∧ ∀ (cs : Array Bool) v w', rv = .ok v w' → (builtin b ts ty cs vs.toArray).run P w = .ok (.value v) w' := by
  have bad : ∃ rv, FRok φ hp w f .bad rv ∧ ∀ (cs : Array Bool) v w', rv = .ok v w' → (builtin b ts ty cs vs.toArray).run P w = .ok (.value v) w' := ⟨.halt .blocked w, trivial, fun cs v w' h => by cases h⟩
  unfold fbuiltin
  split
  · rename_i t x hts
    match vs, hv with
    | [u], hv =>
      have : ts = #[t] := by apply Array.ext'; simpa using hts
      subst this
      exact ⟨_, len_ok hE hh t ty x u hv.1, fun _ v w' h => run_val h⟩
  · rename_i t tx x y hts
    match vs, hv with
    | [u, u'], hv =>
      have : ts = #[t, tx] := by apply Array.ext'; simpa using hts
      subst this
      exact ⟨_, append_ok hE hh t tx ty x y u u' hv.1 hv.2.1, fun _ v w' h => run_val h⟩
  · rename_i x y
    match vs, hv with
    | [u, u'], hv => exact ⟨_, min_ok hh ts ty x y u u' hv.1 hv.2.1, fun _ v w' h => run_val h⟩
  · rename_i x y
    match vs, hv with
    | [u, u'], hv => exact ⟨_, max_ok hh ts ty x y u u' hv.1 hv.2.1, fun _ v w' h => run_val h⟩
  · exact bad

theorem op_ok (hE : ∀ t i, E t = some i → TIok P t i) (hh : HRel φ hp f w) {ev : Operand → V} {ρ : Operand → Value} (hev : ∀ x, Vrel φ (okb φ hp) w (ev x) (ρ x)) (o : Oper) :
    ∃ rv, FRok φ hp w f (opFR Lv.std E (lookA hp) f ev o.op) rv ∧ Did P ρ o w rv := by
  obtain ⟨dst, op, type, pos, after, guard⟩ := o
  have bad : ∃ rv, FRok φ hp w f .bad rv ∧ Did P ρ ⟨dst, op, type, pos, after, guard⟩ w rv := bad_did (r := .halt .blocked w)
  cases op with
  | move x => exact ⟨.ok (ρ x) w, good_pure hh rfl (hev x), fun v w' h => .inl (by cases h; rfl)⟩
  | assign x => exact ⟨.ok (ρ x) w, good_pure hh rfl (hev x), fun v w' h => .inl (by cases h; rfl)⟩
  | pick c a b =>
    refine ⟨_, pick_ok (P := P) hh _ _ _ _ _ _ (hev c) (hev a) (hev b), fun v w' h => .inl ?_⟩
    have := run_val h
    simpa [execOp] using this
  | alloc t => exact ⟨_, alloc_ok hE hh t true (.tuple #[]) rfl, did_val rfl⟩
  | box t x => exact ⟨_, box_ok hh t _ _ (hev x), did_val rfl⟩
  | build t ps =>
    have h := build_ok (P := P) (w := w) hE hh t _ (ps.map fun p => (p.1, ρ p.2)) (by rw [Array.toList_map]; exact L2_evps hev ps.toList)
    exact ⟨_, h, did_val (by simp only [execOp])⟩
  | buildSlice t n ps =>
    have h := buildSlice_ok (P := P) (w := w) hE hh t n _ (ps.map fun p => (p.1, ρ p.2)) (by rw [Array.toList_map]; exact L2_evps hev ps.toList)
    exact ⟨_, h, did_val (by simp only [execOp])⟩
  | load t x =>
    have h := load_ok (P := P) hE hh t _ _ (hev x)
    exact ⟨_, h, did_val (by simp only [execOp])⟩
  | store t x y =>
    have h := store_ok (P := P) (v0 := undef) hE hh t _ _ _ _ (hev x) (hev y)
    exact ⟨_, h, did_skp (by simp only [execOp])⟩
  | nilCheck x =>
    rcases nilCheck_ok (φ := φ) (w := w) (hp := hp) (ev x) (ρ x) (hev x) with h | ⟨h, ad, hv⟩
    · show ∃ rv, FRok φ hp w f (fnilCheck (ev x)) rv ∧ _
      rw [h]; exact bad
    · show ∃ rv, FRok φ hp w f (fnilCheck (ev x)) rv ∧ _
      rw [h]
      refine ⟨.ok (ρ x) w, good_pure hh rfl (hev x), fun v w' hq => .inl ?_⟩
      cases hq
      simp [execOp, hv]
  | binOp op t x y u =>
    cases e : isNilLit y with
    | true =>
      have hy : y = .const .nilIface := by
        unfold isNilLit at e
        split at e
        · rfl
        · cases e
      subst hy
      exact ⟨_, nil_ok hE hh op t x _ _ _ _ (hev x) (hev _), did_val rfl⟩
    | false =>
      have hfr : opFR Lv.std E (lookA hp) f ev (.binOp op t x y u) = fbin Lv.std E op t (ev x) (ev y) := by
        simp only [opFR, e]
      refine ⟨_, ?_, did_val rfl⟩
      rw [hfr]
      exact bin_ok hE hh op t x y _ _ _ _ (hev x) (hev y)
  | makeInterface t x => exact ⟨_, mki_ok hE hh t _ _ (hev x), did_val rfl⟩
  | unOp op t x => exact ⟨_, unop_ok hh op _ _ (hev x), did_val rfl⟩
  | convert s d x => exact ⟨_, convert_ok hE hh s d _ _ (hev x), did_val rfl⟩
  | makeFunc fn first caps =>
    have h := makeFunc_ok (P := P) (w := w) hh fn _ _ _ _ (L2_evs hev first.toList) (L2_evs hev caps.toList)
    refine ⟨_, h, did_val ?_⟩
    have e1 : (List.map ρ first.toList).toArray = first.map ρ := by apply Array.ext'; simp
    have e2 : (List.map ρ caps.toList).toArray = caps.map ρ := by apply Array.ext'; simp
    rw [e1, e2]; rfl
  | makeMap t r =>
    cases r with
    | none => exact ⟨_, makeMap_ok hE hh t, did_val rfl⟩
    | some _ => exact bad
  | makeSlice t l c => exact ⟨_, makeSlice_ok hE hh t _ _ _ _ (hev l) (hev c), did_val rfl⟩
  | slice t x lo hi mx =>
    cases mx with
    | none => exact ⟨_, slice_ok hE hh t _ _ _ _ _ _ (hev x) (orel_ev hev lo) (orel_ev hev hi), did_val rfl⟩
    | some m =>
      cases lo with
      | none =>
        cases hi with
        | none => exact bad
        | some hh' => exact ⟨_, clip_ok hE hh t _ _ _ _ _ _ (hev x) (hev hh') (hev m), did_val rfl⟩
      | some _ => cases hi <;> exact bad
  | fieldAddr s x k => exact ⟨_, fieldAddr_ok hE hh s _ k _ (hev x), did_val rfl⟩
  | field s x k => exact ⟨_, field_ok hE hh s _ k _ (hev x), did_val rfl⟩
  | indexAddr t x i => exact ⟨_, indexAddr_ok hE hh t _ _ _ _ (hev x) (hev i), did_val rfl⟩
  | index t x i =>
    have h := index_ok (P := P) hE hh t _ _ _ _ (hev x) (hev i)
    exact ⟨_, h, did_val rfl⟩
  | lookup t x i ok =>
    have h := lookup_ok (P := P) hE hh t _ _ ok _ _ (hev x) (hev i)
    exact ⟨_, h, did_val rfl⟩
  | mapUpdate t m k x =>
    have h := mapUpdate_ok (P := P) (v0 := undef) hE hh t _ _ _ _ _ _ (hev m) (hev k) (hev x)
    exact ⟨_, h, did_skp rfl⟩
  | insert t m k x =>
    have h := mapUpdate_ok (P := P) (v0 := undef) hE hh t _ _ _ _ _ _ (hev m) (hev k) (hev x)
    exact ⟨_, h, did_skp rfl⟩
  | extract x i => exact ⟨_, extract_ok hh _ i _ (hev x), did_val rfl⟩
  | call c =>
    obtain ⟨callee, as, ts⟩ := c
    cases callee with
    | builtin b =>
      obtain ⟨rv, h1, h2⟩ := builtin_ok (P := P) hE hh b ts type _ _ (L2_evs hev as.toList)
      refine ⟨rv, h1, fun v w' h => .inl ?_⟩
      have e1 : (List.map ρ as.toList).toArray = as.map ρ := by apply Array.ext'; simp
      rw [e1] at h2
      simp only [execOp, resolve, invoke, Sem.run_bind, Sem.run_pure, Result.andThen_ok]
      exact h2 _ v w' h
    | value _ => exact bad
    | invoke _ _ => exact bad
  | _ => exact bad
end
end Go.VM
set_option autoImplicit false
set_option linter.all false
namespace Go.VM
open Go Go.Lib
variable {B : Nat × Bool}

/-! ### 1. What an operation's result does to a state -/
/-- A Bool that is not known is parted at once. -/
def splitB (x : V) (k : V → VC) : VC := match x with
  | .c (.sym b) => .br b (k (.c (.bool true))) (k (.c (.bool false)))
  | x => k x

def RB (x x' : V) : Prop := x' = x ∨ ∃ b, x = .c (.sym b) ∧ x' = .c (.bool b)

theorem splitB_ok {x : V} {k : V → VC} (h : (splitB x k).holds) : ∃ x', RB x x' ∧ (k x').holds := by
  unfold splitB at h
  split at h
  · rename_i b
    cases b
    · exact ⟨_, .inr ⟨false, rfl, rfl⟩, h.2 rfl⟩
    · exact ⟨_, .inr ⟨true, rfl, rfl⟩, h.1 rfl⟩
  · exact ⟨x, .inl rfl, h⟩

theorem RB.rel {x x' : V} (h : RB x x') {φ : Phi} {ok : Nat → Prop} {w : World} {v : Value} (hv : Vrel φ ok w x v) : Vrel φ ok w x' v := by
  rcases h with rfl | ⟨b, rfl, rfl⟩
  · exact hv
  · exact hv

theorem Good.rb {φ : Phi} {hp : Hp} {w : World} {f : Nat} {x x' : V} {news : List Ob} {kill : List Nat} {run : Result Value} (h : RB x x') (hg : Good φ hp w f x news kill run) : Good φ hp w f x' news kill run := by
  obtain ⟨v, w', φ', hp', h1, h2, h3, h4, h5, h6⟩ := hg
  exact ⟨v, w', φ', hp', h1, h2, h3, h4, h.rel h5, h6⟩

def runFR (s : St) (dst : Option Nat) (k : St → VC) : FR → VC
  | .v x => splitB x fun x => k (s.put dst x)
  | .b c => .br c (k (s.put dst (.c (.bool true)))) (k (s.put dst (.c (.bool false))))
  | .amb => .all Bool fun b => .br b (k (s.put dst (.c (.bool true)))) (k (s.put dst (.c (.bool false))))
  | .br c t f => .br c (runFR s dst k t) (runFR s dst k f)
  | .o p r => .obl p (runFR s dst k r)
  | .new x news kill => k ({ s with hp := (news.zipIdx.map fun p : Ob × Nat => (s.nx + p.2, p.1)) ++ delAll s.hp kill, nx := s.nx + news.length }.put dst x)
  | .upd id o kill => k ({ s with hp := setA (delAll s.hp kill) id o }.put dst (.c .un))
  | .bad => .bad

/-- What calls do: the function, the arguments, the objects, the next number. -/
abbrev CallG := FuncId → List V → Hp → Nat → (V → Hp → Nat → VC) → VC

def stepOp (L : Lv) (E : Ev) (call : CallG) (o : Oper) (s : St) (k : St → VC) : VC := match o.op with
  | .call { callee := .value f, args := as, argTypes := _ } => match s.ev f with
    | .c (.fn g caps) => call g (as.toList.map s.ev ++ caps.map fun id => .c (.ptr id 0)) s.hp s.nx fun v hp nx => splitB v fun v => k ({ s with hp := hp, nx := nx }.put o.dst v)
    | _ => .bad
  | op => runFR s o.dst k (opFR L E (lookA s.hp) s.nx s.ev op)

/-- Is the operation done? -/
def guardG (ops : Array Oper) (o : Oper) (s : St) (go skip : VC) : VC := match o.guard with
  | none => go
  | some (j, want) => match (ops[j]?).bind (·.dst) with
    | some t => match s.look t with
      | .c (.bool true) => if want then go else skip
      | .c (.bool false) => if want then skip else go
      | .c (.sym b) => if want then .br b go skip else .br b skip go
      | .c .sk => skip
      | _ => .bad
    | none => .bad

def vcgOps (L : Lv) (E : Ev) (call : CallG) (ops : Array Oper) : List Oper → St → (St → VC) → VC
  | [], s, k => k s
  | o :: r, s, k => guardG ops o s (stepOp L E call o s fun s' => vcgOps L E call ops r s' k) (vcgOps L E call ops r (s.put o.dst (.c .sk)) k)

/-! ### 2. Soundness of a region in order -/
/-- How a state has come from another one. -/
structure From (φ : Phi) (hp : Hp) (w : World) (φ' : Phi) (s' : St) (a' : Act) (w' : World) : Prop where
  rel : Rel B φ' s' a' w'
  evo : Evo φ hp w φ' s'.hp w'

section
variable {P : Program} {E : Ev}

/-- What is asked of calls. -/
def CallOk (P : Program) (call : CallG) : Prop := ∀ (g : FuncId) (as : List V) (hp : Hp) (nx : Nat) (k : V → Hp → Nat → VC) (φ : Phi) (w : World) (vs : List Value),
  (call g as hp nx k).holds → HRel φ hp nx w → L2 (Vrel φ (okb φ hp) w) as vs →
  (∃ fn, P.funcs[g]? = some fn ∧ (fn.name == "runtime.NumGoroutine") = false ∧ fn.body.isNone = false) ∧
  Calls P g vs.toArray w fun e w' => ∃ v, e = .returned v ∧ ∃ φ' hp' nx' x, (k x hp' nx').holds ∧ HRel φ' hp' nx' w' ∧ Evo φ hp w φ' hp' w' ∧ Vrel φ' (okb φ' hp') w' x v

theorem setSz {α : Type} (a : Array α) (i : Nat) (v : α) : (a.setIfInBounds i v).size = a.size := by simp

theorem put_look (a : Act) (d : Nat) (v : Value) (j : Nat) : (a.put (some d) v).tmps.getD j undef = if j = d ∧ d < a.tmps.size then v else a.tmps.getD j undef := by
  show (a.tmps.setIfInBounds d v).getD j undef = _
  simp only [Array.getD_eq_getD_getElem?, Array.getElem?_setIfInBounds]
  by_cases h : d = j
  · subst h
    by_cases hl : d < a.tmps.size
    · simp [hl]
    · simp [hl]
  · have h' : ¬ (j = d) := fun e => h e.symm
    simp [h, h']

/-- A slot is put. -/
theorem Rel.put {φ φ' : Phi} {s : St} {a : Act} {w w' : World} (h : Rel B φ s a w) (hp' : Hp) (nx' : Nat) (hh : HRel φ' hp' nx' w') (ev : Evo φ s.hp w φ' hp' w') (dst : Option Nat) (x : V) (v : Value) (hx : Vrel φ' (okb φ' hp') w' x v) :
    Rel B φ' ({ s with hp := hp', nx := nx' }.put dst x) (a.put dst v) w' ∧ ({ s with hp := hp', nx := nx' }.put dst x).hp = hp' ∧ ({ s with hp := hp', nx := nx' }.put dst x).n = s.n := by
  have hV : ∀ j y, lookA s.sl j = some y → Vrel φ' (okb φ' hp') w' y (a.tmps.getD j undef) := fun j y hj => ev.V (h.sl j y hj)
  cases dst with
  | none => exact ⟨⟨h.sz, Nat.le_trans h.bs ev.size, ev.D h.df, hV, hh.ob, hh.fr, hh.dj⟩, rfl, rfl⟩
  | some d =>
    unfold St.put
    simp only
    split
    · rename_i hd
      have hd' : d < s.n := Nat.le_of_ble_eq_true hd
      refine ⟨⟨?_, Nat.le_trans h.bs ev.size, ev.D h.df, fun j y hj => ?_, hh.ob, hh.fr, hh.dj⟩, rfl, rfl⟩
      · show (a.tmps.setIfInBounds d v).size = s.n
        rw [setSz]; exact h.sz
      · change lookA (setA s.sl d x) j = some y at hj
        rw [lookA_setA] at hj
        rw [put_look]
        split at hj
        · rename_i e
          cases hj
          rw [if_pos ⟨e, by rw [h.sz]; exact hd'⟩]
          exact hx
        · rename_i hne
          rw [if_neg (fun e => hne e.1)]
          exact hV j y hj
    · rename_i hd
      have hd' : ¬ d < s.n := fun h => hd (Nat.ble_eq_true_of_le h)
      refine ⟨⟨?_, Nat.le_trans h.bs ev.size, ev.D h.df, fun j y hj => ?_, hh.ob, hh.fr, hh.dj⟩, rfl, rfl⟩
      · show (a.tmps.setIfInBounds d v).size = s.n
        rw [setSz]; exact h.sz
      · rw [put_look, if_neg (fun e => hd' (by rw [← h.sz]; exact e.2))]
        exact hV j y hj
end

section
variable {P : Program} {E : Ev}

/-- What is so behind: some state whose condition holds. -/
def Ends (B : Nat × Bool) (φ : Phi) (hp : Hp) (w : World) (n : Nat) (k : St → VC) (a' : Act) (w' : World) : Prop := ∃ φ' s', Rel B φ' s' a' w' ∧ Evo φ hp w φ' s'.hp w' ∧ s'.n = n ∧ (k s').holds

theorem good_ends {φ : Phi} {s : St} {a : Act} {w : World} (hr : Rel B φ s a w) (dst : Option Nat) (k : St → VC) {run : Result Value} {x : V} {news : List Ob} {kill : List Nat}
    (h : (k ({ s with hp := (news.zipIdx.map fun p : Ob × Nat => (s.nx + p.2, p.1)) ++ delAll s.hp kill, nx := s.nx + news.length }.put dst x)).holds) (hg : Good φ s.hp w s.nx x news kill run) :
    ∃ v w', run = .ok v w' ∧ Ends B φ s.hp w s.n k (a.put dst v) w' := by
  obtain ⟨v, w', φ', hp', h1, rfl, h3, h4, h5, _⟩ := hg
  obtain ⟨q1, q2, q3⟩ := hr.put _ _ h3 h4 dst x v h5
  exact ⟨v, w', h1, φ', _, q1, by rw [q2]; exact h4, q3, h⟩

theorem good_ends0 {φ : Phi} {s : St} {a : Act} {w : World} (hr : Rel B φ s a w) (dst : Option Nat) (k : St → VC) {run : Result Value} {x : V}
    (h : (k (s.put dst x)).holds) (hg : Good φ s.hp w s.nx x [] [] run) : ∃ v w', run = .ok v w' ∧ Ends B φ s.hp w s.n k (a.put dst v) w' :=
  good_ends hr dst k (news := []) (kill := []) h hg

theorem fr_sound {φ : Phi} {s : St} {a : Act} {w : World} (hr : Rel B φ s a w) (dst : Option Nat) (k : St → VC) {run : Result Value} :
    ∀ (r : FR), (runFR s dst k r).holds → FRok φ s.hp w s.nx r run → ∃ v w', run = .ok v w' ∧ Ends B φ s.hp w s.n k (a.put dst v) w'
  | .v x, h, hf => by
    obtain ⟨x', h1, h2⟩ := splitB_ok h
    exact good_ends0 hr dst k h2 (hf.rb h1)
  | .b c, h, hf => by
    cases c
    · exact good_ends0 hr dst k (h.2 rfl) hf
    · exact good_ends0 hr dst k (h.1 rfl) hf
  | .amb, h, hf => by
    obtain ⟨c, hf⟩ := hf
    have h := h c
    cases c
    · exact good_ends0 hr dst k (h.2 rfl) hf
    · exact good_ends0 hr dst k (h.1 rfl) hf
  | .br c t f, h, hf => by
    cases c
    · exact fr_sound hr dst k f (h.2 rfl) (hf.2 rfl)
    · exact fr_sound hr dst k t (h.1 rfl) (hf.1 rfl)
  | .o p r, h, hf => fr_sound hr dst k r h.2 (hf h.1)
  | .new x news kill, h, hf => good_ends hr dst k h hf
  | .upd id o kill, h, hf => by
    obtain ⟨v, w', h1, h2, h3⟩ := hf
    obtain ⟨q1, q2, q3⟩ := hr.put _ _ h2 h3 dst (.c .un) v trivial
    exact ⟨v, w', h1, φ, _, q1, by rw [q2]; exact h3, q3, h⟩
  | .bad, h, _ => h.elim

theorem yielded_of {ops : Array Oper} {a : Act} {j t : Nat} (ht : (ops[j]?).bind (·.dst) = some t) : (∀ b, a.tmps.getD t undef = .bool b → yielded ops a.tmps j = some b) ∧ (a.tmps.getD t undef = undef → yielded ops a.tmps j = none) := by
  unfold yielded
  rw [ht]
  simp only [Option.bind_some]
  refine ⟨fun b hb => ?_, fun hb => ?_⟩
  · rw [Array.getD_eq_getD_getElem?] at hb
    cases h : a.tmps[t]? with
    | none => rw [h] at hb; cases hb
    | some v => rw [h] at hb; simp only [Option.getD_some] at hb; subst hb; rfl
  · rw [Array.getD_eq_getD_getElem?] at hb
    cases h : a.tmps[t]? with
    | none => rfl
    | some v => rw [h] at hb; simp only [Option.getD_some] at hb; subst hb; rfl

/-- The guard, decided. -/
theorem guard_sound {φ : Phi} {s : St} {a : Act} {w : World} (hr : Rel B φ s a w) (ops : Array Oper) (o : Oper) (go skip : VC) (h : (guardG ops o s go skip).holds) :
    (Region.wanted o (yielded ops a.tmps) = true ∧ go.holds) ∨ (Region.wanted o (yielded ops a.tmps) = false ∧ skip.holds) := by
  unfold guardG at h
  unfold Region.wanted
  cases hg : o.guard with
  | none => rw [hg] at h; exact .inl ⟨rfl, h⟩
  | some p =>
    obtain ⟨j, want⟩ := p
    rw [hg] at h
    simp only at h ⊢
    split at h
    · rename_i t ht
      have hy := yielded_of (ops := ops) (a := a) ht
      have hl : ∀ v, s.look t = v → Vrel φ (okb φ s.hp) w v (a.tmps.getD t undef) := fun v hv => by
        have := ev_ok hr (.tmp t)
        rw [← hv]; exact this
      split at h
      · rename_i e
        rw [hy.1 true (hl _ e)]
        cases want
        · exact .inr ⟨rfl, h⟩
        · exact .inl ⟨rfl, h⟩
      · rename_i e
        rw [hy.1 false (hl _ e)]
        cases want
        · exact .inl ⟨rfl, h⟩
        · exact .inr ⟨rfl, h⟩
      · rename_i b e
        rw [hy.1 b (hl _ e)]
        cases want <;> cases b
        · exact .inl ⟨rfl, h.2 rfl⟩
        · exact .inr ⟨rfl, h.1 rfl⟩
        · exact .inr ⟨rfl, h.2 rfl⟩
        · exact .inl ⟨rfl, h.1 rfl⟩
      · rename_i e
        rw [hy.2 (hl _ e)]
        exact .inr ⟨rfl, h⟩
      · exact h.elim
    · exact h.elim

theorem run_callFunc {g : FuncId} {args : Array Value} {fn : Func} {w : World} (hf : P.funcs[g]? = some fn) (h1 : (fn.name == "runtime.NumGoroutine") = false) (h2 : fn.body.isNone = false) :
    (callFunc g args).run P w = .ok (.enter g args) w := by
  unfold callFunc
  simp only [Sem.run_bind, program, Sem.run, Result.andThen_ok, hf, h1, h2]
  rfl

theorem L2_ptrs {φ : Phi} {ok : Nat → Prop} {w : World} : ∀ (ids : List Nat) (vs : List Value), L2 (fun id u => isPtr φ id 0 u) ids vs → L2 (Vrel φ ok w) (ids.map fun id => .c (.ptr id 0)) vs
  | [], [], _ => trivial
  | _ :: ids, _ :: vs, h => ⟨h.1, L2_ptrs ids vs h.2⟩
  | [], _ :: _, h | _ :: _, [], h => h.elim

/-- The fences under which the machine's rules are told: the wide one, and the wide one in a round. -/
inductive FOk : Fence → Prop
  | wide : FOk Fence.wide
  | round (l : Nat) : FOk (Fence.wide.inRound l)
section
variable {F : Fence} {m : Nat}
theorem FOk.calls (h : FOk F) {f : FuncId} {args : Array Value} {w : World} {R : Ending → World → Prop} (hc : Calls P f args w R) : CallsIn F m P f args w R := by
  cases h with
  | wide => exact callsIn_wide.2 hc
  | round l => exact CallsIn.inRound l (callsIn_wide.2 hc)
theorem FOk.fn (h : FOk F) (f : FuncId) : F.fn f := by cases h <;> trivial
theorem FOk.dp (h : FOk F) : F.depth.isSome = true → 1 ≤ m := by cases h <;> exact fun h => by cases h
end

theorem step_sound {F : Fence} {m : Nat} (hF : FOk F) {call : CallG} (hE : ∀ t i, E t = some i → TIok P t i) (hcall : CallOk P call) {φ : Phi} {s : St} {a : Act} {w : World} (hr : Rel B φ s a w) (o : Oper) (k : St → VC) (h : (stepOp Lv.std E call o s k).holds)
    {next : Act → World → Prop} {Q : Exit → Act → World → Prop} (hn : ∀ a' w', Ends B φ s.hp w s.n k a' w' → next a' w') : o.wpIn F m P a w next Q := by
  refine ⟨fun f _ => hF.fn f, ?_⟩
  unfold stepOp at h
  split at h
  · rename_i f as ts ho
    split at h
    · rename_i g caps hf
      have hv : Vrel φ (okb φ s.hp) w (.c (.fn g caps)) (a.eval f) := by rw [← hf]; exact ev_ok hr f
      obtain ⟨vs, hv1, hv2⟩ := hv
      obtain ⟨⟨fn, q1, q2, q3⟩, hc⟩ := hcall g _ s.hp s.nx _ φ w (as.toList.map a.eval ++ vs) h hr.h (L2_append (evs_ok hr as.toList) (L2_ptrs caps vs hv2))
      have e1 : (as.toList.map a.eval ++ vs).toArray = as.map a.eval ++ vs.toArray := by apply Array.ext'; simp
      rw [e1] at hc
      rw [Oper.semAt_eq _ _ _ (fun c e => by rw [ho] at e; cases e)]
      have hx : (execOp a.eval o).run P w = .ok (.enter g (as.map a.eval ++ vs.toArray)) w := by
        unfold execOp
        simp only [ho, resolve, Sem.run_bind, hv1, Deferred.ofValue, Sem.run_pure, Result.andThen_ok, invoke, Array.empty_append]
        exact run_callFunc q1 q2 q3
      rw [hx, Oper.uponIn_enter]
      refine ⟨hF.dp, hF.calls (hc.mono fun e w' he => ?_)⟩
      obtain ⟨v, rfl, φ', hp', nx', x, k1, k2, k3, k4⟩ := he
      obtain ⟨x', k5, k6⟩ := splitB_ok k1
      obtain ⟨r1, r2, r3⟩ := hr.put hp' nx' k2 k3 o.dst x' v (k5.rel k4)
      exact hn _ _ ⟨φ', _, r1, by rw [r2]; exact k3, r3, k6⟩
    · exact h.elim
  · obtain ⟨rv, h1, h2⟩ := op_ok (P := P) (w := w) hE hr.h (ev_ok hr) o
    obtain ⟨v, w', h3, h4⟩ := fr_sound hr o.dst k _ h h1
    rw [Oper.semAt_eq _ _ _ (fun c e => by rw [e] at h; exact h)]
    rcases h2 v w' h3 with h5 | ⟨h5, rfl⟩
    · rw [h5]; exact hn _ _ h4
    · rw [h5]; exact hn _ _ h4

theorem ops_sound {F : Fence} {m : Nat} (hF : FOk F) {call : CallG} (hE : ∀ t i, E t = some i → TIok P t i) (hcall : CallOk P call) (ops : Array Oper) {Q : Exit → Act → World → Prop} : ∀ (l : List Oper) (ns : List Nat), ns.map (fun i => ops[i]?) = l.map some →
    ∀ (φ : Phi) (s : St) (a : Act) (w : World) (k : St → VC), (vcgOps Lv.std E call ops l s k).holds → Rel B φ s a w → (∀ a' w', Ends B φ s.hp w s.n k a' w' → Q .normal a' w') → wpOpsIn F m P ops Q ns a w
  | [], [], _, φ, s, a, w, k, h, hr, hQ => hQ a w ⟨φ, s, hr, Evo.refl _ _ _, rfl, h⟩
  | o :: l, i :: ns, hm, φ, s, a, w, k, h, hr, hQ => by
    simp only [List.map_cons, List.cons.injEq] at hm
    unfold vcgOps at h
    simp only [wpOpsIn, hm.1]
    rcases guard_sound hr ops o _ _ h with ⟨hw, h⟩ | ⟨hw, h⟩
    · rw [if_pos hw]
      refine step_sound hF hE hcall hr o _ h fun a' w' he => ?_
      obtain ⟨φ', s', r1, r2, r3, r4⟩ := he
      refine ops_sound hF hE hcall ops l ns hm.2 φ' s' a' w' k r4 r1 fun a2 w2 he2 => hQ a2 w2 ?_
      obtain ⟨φ2, s2, t1, t2, t3, t4⟩ := he2
      exact ⟨φ2, s2, t1, r2.trans t2, t3.trans r3, t4⟩
    · rw [if_neg (by rw [hw]; simp)]
      obtain ⟨r1, r2, r3⟩ := hr.put s.hp s.nx hr.h (Evo.refl _ _ _) o.dst (.c .sk) undef rfl
      refine ⟨fun f _ => hF.fn f, ?_⟩
      refine ops_sound hF hE hcall ops l ns hm.2 φ _ _ w k h r1 fun a2 w2 he2 => hQ a2 w2 ?_
      obtain ⟨φ2, s2, t1, t2, t3, t4⟩ := he2
      exact ⟨φ2, s2, t1, by rw [r2] at t2; exact t2, t3.trans r3, t4⟩
  | [], _ :: _, hm, _, _, _, _, _, _, _, _ => by cases hm
  | _ :: _, [], hm, _, _, _, _, _, _, _, _ => by cases hm

theorem range_get (ops : Array Oper) : (List.range ops.size).map (fun i => ops[i]?) = ops.toList.map some := by
  refine List.ext_getElem? fun j => ?_
  have e : ops.toList[j]? = ops[j]? := by simp
  rw [List.getElem?_map, List.getElem?_map, e]
  by_cases h : j < ops.size
  · rw [List.getElem?_range h, Array.getElem?_eq_getElem h]; simp [h]
  · have h1 : (List.range ops.size)[j]? = none := by simp; omega
    rw [h1, Array.getElem?_eq_none (by omega)]; rfl
end
end Go.VM
