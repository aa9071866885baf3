/- A condition generator over the model's code, proved sound: what a function's body must come to is told as conditions on plain data. No condition of ours. -/
import Derived.Test.YthmlejcfgbpcbaaDoorV0
import Derived.Lib.Builder
import Derived.Lib.UnsafeStr
set_option autoImplicit false
set_option linter.all false
namespace Go.VM
open Go Go.Lib

/-! ### 1. Contracts on data -/
@[reducible] def Ds : List Ty → Type
  | [] => Unit
  | t :: ts => t.D × Ds ts

structure Spec where
  ins : List Ty
  outs : List Ty
  pre : Ds ins → Prop
  fn : Ds ins → Ds outs

/-- A value that holds a datum. -/
def KV (ok : Nat → Prop) (w : World) (t : Ty) (x : t.D) (v : Value) : Prop := if t.agg then ∃ cs : List Value, v = .agg cs.toArray ∧ K ok w t x cs else K ok w t x [v]

def KVs (ok : Nat → Prop) (w : World) : (ts : List Ty) → Ds ts → List Value → Prop
  | [], _, vs => vs = []
  | t :: ts, x, v :: vs => KV ok w t x.1 v ∧ KVs ok w ts x.2 vs
  | _ :: _, _, [] => False

def KR (ok : Nat → Prop) (w : World) : (ts : List Ty) → Ds ts → Value → Prop
  | [t], x, v => KV ok w t x.1 v
  | ts, x, v => ∃ vs : List Value, v = .tuple vs.toArray ∧ KVs ok w ts x vs

/-- The function is there, and has a body. -/
def Has (P : Program) (g : FuncId) : Prop := ∃ fn, P.funcs[g]? = some fn ∧ (fn.name == "runtime.NumGoroutine") = false ∧ fn.body.isNone = false

def SpecOk (P : Program) (g : FuncId) (sp : Spec) : Prop := Has P g ∧ ∀ (ok : Nat → Prop) (w : World) (vs : List Value) (x : Ds sp.ins), GlOk ok w → KVs ok w sp.ins x vs → sp.pre x →
  Calls P g vs.toArray w fun e w' => ∃ v, e = .returned v ∧ Go.RowKit.Below w.heap.size w w' ∧ KR (fun b => ok b ∨ w.heap.size ≤ b) w' sp.outs (sp.fn x) v

/-! ### 2. Values as data, and data as values -/
def isAggV : V → Bool
  | .agg _ => true
  | _ => false

def viewV (L : Lv) (h : H) (t : Ty) (v : V) : Option (t.D × List Nat) := if knownV v && (isAggV v == t.agg) then match view L h t v.cells with
    | some (x, [], ids) => some (x, ids)
    | _ => none
  else none

def viewAll (L : Lv) (h : H) : (ts : List Ty) → List V → Option (Ds ts × List Nat)
  | [], [] => some ((), [])
  | t :: ts, v :: vs => match viewV L h t v, viewAll L h ts vs with
    | some (x, i), some (xs, j) => some ((x, xs), i ++ j)
    | _, _ => none
  | _, _ => none

def unTup : List (Bool × List C) → Option (List V)
  | [] => some []
  | (true, l) :: r => (unTup r).map (.agg l :: ·)
  | (false, [c]) :: r => (unTup r).map (.c c :: ·)
  | _ => none

def viewR (L : Lv) (h : H) : (ts : List Ty) → V → Option (Ds ts × List Nat)
  | [t], v => match viewV L h t v with
    | some (x, i) => some ((x, ()), i)
    | none => none
  | ts, .tup l => match unTup l with
    | some vs => viewAll L h ts vs
    | none => none
  | _, _ => none

def outV (t : Ty) (x : t.D) : V := if t.agg then .agg (expl t x) else match expl t x with
  | [c] => .c c
  | _ => .c .un

def outVs : (ts : List Ty) → Ds ts → List V
  | [], _ => []
  | t :: ts, x => outV t x.1 :: outVs ts x.2

def outT : (ts : List Ty) → Ds ts → List (Bool × List C)
  | [], _ => []
  | t :: ts, x => (t.agg, expl t x.1) :: outT ts x.2

def outR : (ts : List Ty) → Ds ts → V
  | [t], x => outV t x.1
  | ts, x => .tup (outT ts x)

def Ty.flat : Ty → Bool
  | .sl _ => false
  | .pair a b => a.flat && b.flat
  | .wrap a => a.flat
  | _ => true

def memN (x : Nat) : List Nat → Bool
  | [] => false
  | y :: l => match Nat.beq y x with
    | true => true
    | false => memN x l
theorem memN_iff (x : Nat) : ∀ l : List Nat, memN x l = true ↔ x ∈ l
  | [] => by simp [memN]
  | y :: l => by
    unfold memN
    cases h : Nat.beq y x with
    | true => have := Nat.eq_of_beq_eq_true h; subst this; simp
    | false =>
      have hne : ¬ x = y := fun e => by rw [e, Nat.beq_refl] at h; cases h
      simp [hne, memN_iff x l]

/-- The ambient blocks are there still. -/
def hasAmb (h : H) (ids : List Nat) : Bool := match h 0 with
  | some .amb => !memN 0 ids
  | _ => false

def specVC (L : Lv) (sp : Spec) (as : List V) (hp : Hp) (nx : Nat) (k : V → Hp → Nat → VC) : VC := match viewAll L (lookA hp) sp.ins as with
  | some (x, ids) => match hasAmb (lookA hp) ids with
    | true => .obl (sp.pre x) (k (outR sp.outs (sp.fn x)) (if sp.outs.all Ty.flat then hp else delAll hp ids) nx)
    | false => .bad
  | none => .bad

section
variable {P : Program} {E : Ev} {φ : Phi} {w : World} {hp : Hp} {f : Nat}

theorem viewV_ok (hh : HRel φ hp f w) {t : Ty} {v : V} {x : t.D} {ids : List Nat} {u : Value} (h : viewV Lv.std (lookA hp) t v = some (x, ids)) (hv : Vrel φ (okb φ hp) w v u) : KV (okb φ (delAll hp ids)) w t x u := by
  unfold viewV at h
  split at h
  · rename_i hc
    simp only [Bool.and_eq_true, beq_iff_eq] at hc
    split at h
    · rename_i x' ids' hvw
      cases h
      obtain ⟨v1, v2, e, h1, h2⟩ := view_ok hh t _ _ _ _ _ hvw (cells_rel hv hc.1)
      have : v2 = [] := by
        cases v2 with
        | nil => rfl
        | cons _ _ => exact h2.elim
      subst this
      rw [List.append_nil] at e
      unfold KV
      rw [← hc.2]
      cases v with
      | c c =>
        simp only [isAggV, Bool.false_eq_true, if_false]
        have h3 : u.oneCell' = true := crel_one hv hc.1
        rw [one_cells h3] at e
        rw [show [u] = v1 from e]; exact h1
      | agg l =>
        simp only [isAggV, if_true]
        obtain ⟨us, rfl, _⟩ := hv
        exact ⟨us, rfl, by rw [show us = v1 from e]; exact h1⟩
      | tup l => exact absurd hc.1 (by simp [knownV])
      | ipt l => exact absurd hc.1 (by simp [knownV])
    · cases h
  · cases h

theorem KV_mono {ok ok' : Nat → Prop} {w w' : World} (h : ∀ b, ok b → b < w.heap.size → w'.heap[b]? = w.heap[b]? ∧ ok' b) {t : Ty} {x : t.D} {v : Value} (hk : KV ok w t x v) : KV ok' w' t x v := by
  unfold KV at *
  split
  · rename_i e
    rw [if_pos e] at hk
    obtain ⟨cs, h1, h2⟩ := hk
    exact ⟨cs, h1, K_mono h t x cs h2⟩
  · rename_i e
    rw [if_neg e] at hk
    exact K_mono h t x _ hk

theorem KVs_mono {ok ok' : Nat → Prop} {w w' : World} (h : ∀ b, ok b → b < w.heap.size → w'.heap[b]? = w.heap[b]? ∧ ok' b) : ∀ (ts : List Ty) (x : Ds ts) (vs : List Value), KVs ok w ts x vs → KVs ok' w' ts x vs
  | [], _, _, hk => hk
  | t :: ts, x, v :: vs, hk => ⟨KV_mono h hk.1, KVs_mono h ts x.2 vs hk.2⟩
  | _ :: _, _, [], hk => hk

theorem ok_append (i j : List Nat) {b : Nat} (h : okb φ (delAll hp j) b) : okb φ (delAll hp (i ++ j)) b := fun id o p h1 h2 h3 => by
  rw [lookA_delAll] at h1
  split at h1
  · cases h1
  · rename_i hm
    refine h id o p ?_ h2 h3
    rw [lookA_delAll, if_neg (fun hm' => hm (by simp [hm']))]; exact h1

theorem ok_append' (i j : List Nat) {b : Nat} (h : okb φ (delAll hp i) b) : okb φ (delAll hp (i ++ j)) b := fun id o p h1 h2 h3 => by
  rw [lookA_delAll] at h1
  split at h1
  · cases h1
  · rename_i hm
    refine h id o p ?_ h2 h3
    rw [lookA_delAll, if_neg (fun hm' => hm (by simp [hm']))]; exact h1

theorem viewAll_ok (hh : HRel φ hp f w) : ∀ (ts : List Ty) (vs : List V) (us : List Value) (x : Ds ts) (ids : List Nat), viewAll Lv.std (lookA hp) ts vs = some (x, ids) → L2 (Vrel φ (okb φ hp) w) vs us → KVs (okb φ (delAll hp ids)) w ts x us
  | [], [], [], x, ids, h, _ => rfl
  | t :: ts, v :: vs, u :: us, x, ids, h, hl => by
    unfold viewAll at h
    split at h
    · rename_i x1 i x2 j h1 h2
      cases h
      exact ⟨KV_mono (fun b hb _ => ⟨rfl, ok_append' i j hb⟩) (viewV_ok hh h1 hl.1), KVs_mono (fun b hb _ => ⟨rfl, ok_append i j hb⟩) ts x2 us (viewAll_ok hh ts vs us x2 j h2 hl.2)⟩
    · cases h
  | [], _ :: _, _, x, ids, h, _ => by cases h
  | _ :: _, [], _, x, ids, h, _ => by cases h
  | [], [], _ :: _, _, _, _, hl | _ :: _, _ :: _, [], _, _, _, hl => hl.elim

theorem unTup_ok : ∀ (l : List (Bool × List C)) (us : List Value) (vs : List V), unTup l = some vs → L2 (tupRel (Crel φ (okb φ hp) w)) l us → L2 (Vrel φ (okb φ hp) w) vs us
  | [], [], vs, h, _ => by cases h; exact trivial
  | (b, cs) :: l, u :: us, vs, h, hl => by
    unfold unTup at h
    split at h
    · rename_i heq; cases heq
    · rename_i l' r heq
      cases heq
      cases hr : unTup l with
      | none => rw [hr] at h; cases h
      | some vs' =>
        rw [hr] at h; cases h
        exact ⟨hl.1, unTup_ok l us vs' hr hl.2⟩
    · rename_i c r heq
      cases heq
      cases hr : unTup l with
      | none => rw [hr] at h; cases h
      | some vs' =>
        rw [hr] at h; cases h
        obtain ⟨c', e, hc⟩ := hl.1
        cases e
        exact ⟨hc, unTup_ok l us vs' hr hl.2⟩
    · cases h
  | [], _ :: _, _, _, hl | _ :: _, [], _, _, hl => hl.elim

theorem viewR_ok (hh : HRel φ hp f w) (ts : List Ty) (v : V) (u : Value) (x : Ds ts) (ids : List Nat) (h : viewR Lv.std (lookA hp) ts v = some (x, ids)) (hv : Vrel φ (okb φ hp) w v u) : KR (okb φ (delAll hp ids)) w ts x u := by
  unfold viewR at h
  split at h
  · rename_i t
    split at h
    · rename_i y i hy
      cases h
      exact viewV_ok hh hy hv
    · cases h
  · rename_i ts' l hne
    split at h
    · rename_i vs hvs
      obtain ⟨us, rfl, hl⟩ := hv
      have := viewAll_ok hh _ vs us x ids h (unTup_ok l us vs hvs hl)
      unfold KR
      split
      · exact absurd rfl (hne _)
      · exact ⟨us, rfl, this⟩
    · cases h
  · cases h
theorem outV_ok {ok : Nat → Prop} {t : Ty} {x : t.D} {v : Value} (h : KV ok w t x v) : Vrel φ ok w (outV t x) v := by
  unfold KV at h
  unfold outV
  split
  · rename_i e
    rw [if_pos e] at h
    obtain ⟨cs, rfl, hk⟩ := h
    exact ⟨cs, rfl, expl_ok t x cs hk⟩
  · rename_i e
    rw [if_neg e] at h
    have hx := expl_ok (φ := φ) t x _ h
    split
    · rename_i c hc
      rw [hc] at hx
      exact hx.1
    · exact trivial

theorem outVs_ok {ok : Nat → Prop} : ∀ (ts : List Ty) (x : Ds ts) (vs : List Value), KVs ok w ts x vs → L2 (Vrel φ ok w) (outVs ts x) vs
  | [], _, [], _ => trivial
  | t :: ts, x, v :: vs, h => ⟨outV_ok h.1, outVs_ok ts x.2 vs h.2⟩
  | [], _, _ :: _, h => by cases h
  | _ :: _, _, [], h => h.elim

theorem outT_ok {ok : Nat → Prop} : ∀ (ts : List Ty) (x : Ds ts) (vs : List Value), KVs ok w ts x vs → L2 (tupRel (Crel φ ok w)) (outT ts x) vs
  | [], _, [], _ => trivial
  | t :: ts, x, v :: vs, h => by
    refine ⟨?_, outT_ok ts x.2 vs h.2⟩
    have h1 := h.1
    unfold KV at h1
    unfold tupRel
    simp only
    split
    · rename_i e
      rw [if_pos e] at h1
      obtain ⟨cs, h2, hk⟩ := h1
      exact ⟨cs, h2, expl_ok t x.1 cs hk⟩
    · rename_i e
      rw [if_neg e] at h1
      have hx := expl_ok (φ := φ) t x.1 _ h1
      match hxp : expl t x.1, hx with
      | [c], hx => exact ⟨c, rfl, hx.1⟩
      | [], hx => exact hx.elim
      | _ :: _ :: _, hx => exact hx.2.elim
  | [], _, _ :: _, h => by cases h
  | _ :: _, _, [], h => h.elim

theorem outR_ok {ok : Nat → Prop} : ∀ (ts : List Ty) (x : Ds ts) (v : Value), KR ok w ts x v → Vrel φ ok w (outR ts x) v
  | [], x, v, h => by obtain ⟨vs, rfl, h⟩ := h; exact ⟨vs, rfl, outT_ok _ _ vs h⟩
  | [t], x, v, h => outV_ok h
  | t :: t' :: ts, x, v, h => by obtain ⟨vs, rfl, h⟩ := h; exact ⟨vs, rfl, outT_ok _ _ vs h⟩

theorem flat_K {ok ok' : Nat → Prop} {w w' : World} : ∀ (t : Ty) (x : t.D) (cs : List Value), t.flat = true → K ok w t x cs → K ok' w' t x cs
  | .int _, _, _, _, h | .bool, _, _, _, h | .str, _, _, _, h => h
  | .sl _, _, _, hf, _ => by cases hf
  | .pair a b, x, cs, hf, h => by
    simp only [Ty.flat, Bool.and_eq_true] at hf
    obtain ⟨c1, c2, e, h1, h2⟩ := h
    exact ⟨c1, c2, e, flat_K a _ _ hf.1 h1, flat_K b _ _ hf.2 h2⟩
  | .wrap a, x, cs, hf, h => flat_K a x cs hf h

theorem flat_KV {ok ok' : Nat → Prop} {w w' : World} {t : Ty} {x : t.D} {v : Value} (hf : t.flat = true) (h : KV ok w t x v) : KV ok' w' t x v := by
  unfold KV at *
  split
  · rename_i e
    rw [if_pos e] at h
    obtain ⟨cs, h1, h2⟩ := h
    exact ⟨cs, h1, flat_K t x cs hf h2⟩
  · rename_i e
    rw [if_neg e] at h
    exact flat_K t x _ hf h

theorem flat_KVs {ok ok' : Nat → Prop} {w w' : World} : ∀ (ts : List Ty) (x : Ds ts) (vs : List Value), ts.all Ty.flat = true → KVs ok w ts x vs → KVs ok' w' ts x vs
  | [], _, _, _, h => h
  | t :: ts, x, v :: vs, hf, h => by
    simp only [List.all_cons, Bool.and_eq_true] at hf
    exact ⟨flat_KV hf.1 h.1, flat_KVs ts x.2 vs hf.2 h.2⟩
  | _ :: _, _, [], _, h => h

theorem flat_KR {ok ok' : Nat → Prop} {w w' : World} : ∀ (ts : List Ty) (x : Ds ts) (v : Value), ts.all Ty.flat = true → KR ok w ts x v → KR ok' w' ts x v
  | [], x, v, hf, h => by obtain ⟨vs, h1, h2⟩ := h; exact ⟨vs, h1, flat_KVs _ _ vs hf h2⟩
  | [t], x, v, hf, h => by
    simp only [List.all_cons, Bool.and_eq_true] at hf
    exact flat_KV hf.1 h
  | t :: t' :: ts, x, v, hf, h => by obtain ⟨vs, h1, h2⟩ := h; exact ⟨vs, h1, flat_KVs _ _ vs hf h2⟩

theorem KR_mono {ok ok' : Nat → Prop} {w w' : World} (h : ∀ b, ok b → b < w.heap.size → w'.heap[b]? = w.heap[b]? ∧ ok' b) : ∀ (ts : List Ty) (x : Ds ts) (v : Value), KR ok w ts x v → KR ok' w' ts x v
  | [], x, v, hk => by obtain ⟨vs, h1, h2⟩ := hk; exact ⟨vs, h1, KVs_mono h _ _ vs h2⟩
  | [t], x, v, hk => KV_mono h hk
  | t :: t' :: ts, x, v, hk => by obtain ⟨vs, h1, h2⟩ := hk; exact ⟨vs, h1, KVs_mono h _ _ vs h2⟩

/-- Old blocks stay: nothing turns. -/
theorem below_h {nx : Nat} {w' : World} (hh : HRel φ hp nx w) (hb : Go.RowKit.Below w.heap.size w w') : HRel φ hp nx w' ∧ Evo φ hp w φ hp w' := by
  have ev : Evo φ hp w φ hp w' := ⟨hb.os, hb.tape, hb.output, hb.size, fun _ _ h => h, fun id o p b h1 h2 h3 => .inr fun h => h id o p h1 h2 h3, fun b hb' _ => hb.block b hb'⟩
  refine ⟨⟨fun id o ho => (hh.ob id o ho).evo ev fun p b hp' hS => ?_, hh.fr, hh.dj⟩, ev⟩
  obtain ⟨q, hq, hl⟩ := (hh.ob id o ho).has
  rw [hp'] at hq; cases hq
  exact hb.block b (hl b hS)

theorem hasAmb_ok {nx : Nat} (hh : HRel φ hp nx w) {ids : List Nat} (h : hasAmb (lookA hp) ids = true) : GlOk (okb φ (delAll hp ids)) w := by
  unfold hasAmb at h
  split at h
  · rename_i ho
    have hob : ∃ S w0, φ 0 = some (.set S w0) ∧ Gl w0 S ∧ ∀ b, S b → b < w.heap.size ∧ w.heap[b]? = w0.heap[b]? := hh.ob 0 _ ho
    obtain ⟨S, w0, h1, h23, h4⟩ := hob
    obtain ⟨h2, h3⟩ := h23
    have hn : 0 ∉ ids := fun hm => by
      rw [(memN_iff 0 ids).2 hm] at h; cases h
    refine ⟨?_, fun b hb hk => hk 0 .amb _ ?_ h1 (h3 b hb)⟩
    · refine glW_congr (fun b hb => (h4 b (h3 b hb)).2) ?_ h2
      have := (h4 5 (h3 5 (.inr (.inr rfl)))).1
      simp only [glN] at *
      omega
    · rw [lookA_delAll, if_neg hn]; exact ho
  · cases h

theorem spec_sound {g : FuncId} {sp : Spec} (hs : SpecOk P g sp) {as : List V} {k : V → Hp → Nat → VC} {nx : Nat} {vs : List Value} (h : (specVC Lv.std sp as hp nx k).holds) (hh : HRel φ hp nx w) (hv : L2 (Vrel φ (okb φ hp) w) as vs) :
    Has P g ∧ Calls P g vs.toArray w fun e w' => ∃ v, e = .returned v ∧ ∃ φ' hp' nx' x, (k x hp' nx').holds ∧ HRel φ' hp' nx' w' ∧ Evo φ hp w φ' hp' w' ∧ Vrel φ' (okb φ' hp') w' x v := by
  refine ⟨hs.1, ?_⟩
  unfold specVC at h
  split at h
  · rename_i x ids hvw
    split at h
    rotate_left
    · exact h.elim
    rename_i hA
    obtain ⟨h1, h2⟩ := h
    have hK := viewAll_ok hh sp.ins as vs x ids hvw hv
    refine (hs.2 _ w vs x (hasAmb_ok hh hA) hK h1).mono fun e w' he => ?_
    obtain ⟨v, rfl, hb, hR⟩ := he
    refine ⟨v, rfl, ?_⟩
    split at h2
    · rename_i hf
      obtain ⟨q1, q2⟩ := below_h hh hb
      exact ⟨φ, hp, nx, _, h2, q1, q2, outR_ok _ _ _ (flat_KR _ _ _ hf hR)⟩
    · obtain ⟨q1, q2⟩ := below_h (hh.delAll ids) hb
      refine ⟨φ, _, nx, _, h2, q1, (evo_delAll φ w ids hp).trans q2, outR_ok _ _ _ (KR_mono (fun b hb' hl => ⟨rfl, ?_⟩) _ _ _ hR)⟩
      rcases hb' with hb' | hb'
      · exact hb'
      · intro id o p k1 k2 k3
        obtain ⟨q, hq, hl'⟩ := ((hh.delAll ids).ob id o k1).has
        rw [k2] at hq; cases hq
        have := hl' b k3
        omega
  · exact h.elim

end
end Go.VM
set_option autoImplicit false
set_option linter.all false
namespace Go.VM
open Go Go.Lib

/-! ### 1. Operands alone -/
theorem map_ev {α : Type} {ev ev' : Operand → V} (l : List (α × Operand)) (h : ∀ x ∈ l.map (·.2), ev x = ev' x) : (l.map fun p => (p.1, ev p.2)) = l.map fun p => (p.1, ev' p.2) := by
  induction l with
  | nil => rfl
  | cons p r ih =>
    simp only [List.map_cons, List.mem_cons, forall_eq_or_imp] at h ⊢
    rw [h.1, ih h.2]

theorem map_ev1 {ev ev' : Operand → V} (l : List Operand) (h : ∀ x ∈ l, ev x = ev' x) : l.map ev = l.map ev' := List.map_congr_left h

theorem opFR_ev (L : Lv) (E : Ev) (h : H) (f : Nat) {ev ev' : Operand → V} (op : Op) (hx : ∀ x ∈ op.operands.toList, ev x = ev' x) : opFR L E h f ev op = opFR L E h f ev' op := by
  cases op <;> simp only [Op.operands] at hx <;> simp only [opFR]
  case build t ps => rw [map_ev ps.toList (fun x hm => hx x (by simpa using hm))]
  case buildSlice t n ps => rw [map_ev ps.toList (fun x hm => hx x (by simpa using hm))]
  case makeFunc fn first caps => rw [map_ev1 first.toList (fun x hm => hx x (by simp at hm ⊢; exact .inl hm)), map_ev1 caps.toList (fun x hm => hx x (by simp at hm ⊢; exact .inr hm))]
  case makeMap t r => cases r <;> rfl
  case slice t x lo hi mx =>
    have h0 : ev x = ev' x := hx x (by simp)
    cases lo <;> cases hi <;> cases mx <;> simp only [opFR, Option.map] <;> first
      | rfl
      | (rw [h0]; done)
      | (rename_i a; rw [h0, hx a (by simp)]; done)
      | (rename_i a b; rw [h0, hx a (by simp), hx b (by simp)]; done)
  case call c =>
    obtain ⟨callee, as, ts⟩ := c
    cases callee with
    | builtin b =>
      simp only [opFR]
      rw [map_ev1 as.toList (fun x hm => hx x (by simp [Call.operands] at hm ⊢; exact hm))]
    | value _ => rfl
    | invoke _ _ => rfl
  all_goals first
    | rfl
    | (rw [hx _ (by simp)]; done)
    | (rename_i a b; rw [hx a (by simp), hx b (by simp)]; done)
    | (rename_i a b _; rw [hx a (by simp), hx b (by simp)]; done)
    | (rename_i a b c; rw [hx a (by simp), hx b (by simp), hx c (by simp)]; done)
    | (rename_i a b c _; rw [hx a (by simp), hx b (by simp), hx c (by simp)]; done)
    | skip

/-! ### 2. More objects -/
def HLe (h h' : H) : Prop := ∀ id o, h id = some o → h' id = some o

theorem vRow_mono {L : Lv} {e : Ty} {vw vw' : List C → Option (e.D × List C × List Nat)} (hv : ∀ cs r, vw cs = some r → vw' cs = some r) {id n : Nat} {o : Option Ob} {r : List e.D × List Nat} (h : vRow L e vw id n o = some r) : vRow L e vw' id n o = some r := by
  unfold vRow at *
  split at h
  · exact h
  · split at h
    · rename_i q
      simp only [q, dif_pos]
      split at h
      · rename_i hq
        rw [hv _ _ hq]; exact h
      · cases h
    · cases h
  · cases h

theorem view_mono (L : Lv) {h h' : H} (hl : HLe h h') : ∀ (t : Ty) (cs : List C) (r : t.D × List C × List Nat), view L h t cs = some r → view L h' t cs = some r
  | .int _, _, _, hr | .bool, _, _, hr | .str, _, _, hr => hr
  | .sl e, cs, r, hr => by
    simp only [view] at hr ⊢
    unfold vSl at hr ⊢
    split at hr
    · exact hr
    · exact hr
    · rename_i id n rest
      cases ho : h id with
      | none => rw [ho] at hr; simp [vRow] at hr
      | some o =>
        rw [ho] at hr
        simp only [hl id o ho]
        split at hr
        · rename_i l ids hq
          rw [vRow_mono (fun cs r => view_mono L hl e cs r) hq]
          exact hr
        · cases hr
    · cases hr
  | .pair a b, cs, r, hr => by
    simp only [view] at hr ⊢
    split at hr
    · rename_i x r1 i h1
      rw [view_mono L hl a cs _ h1]
      simp only
      split at hr
      · rename_i y r2 j h2
        rw [view_mono L hl b _ _ h2]
        exact hr
      · cases hr
    · cases hr
  | .wrap a, cs, r, hr => by
    simp only [view] at hr ⊢
    exact view_mono L hl a cs r hr

theorem litC_mono (L : Lv) {h h' : H} (hl : HLe h h') (e : Ty) : ∀ (ps : List (Nat × V)) (k : Nat) (r : List e.D × List Nat), litC L h e k ps = some r → litC L h' e k ps = some r
  | [], _, _, hr => hr
  | (i, v) :: ps, k, r, hr => by
    unfold litC at hr ⊢
    split at hr
    · rename_i hc
      rw [if_pos hc]
      split at hr
      · rename_i x ids hv
        rw [view_mono L hl _ _ _ hv]
        simp only
        split at hr
        · rename_i l ids' h2
          rw [litC_mono L hl e ps (k + 1) _ h2]
          exact hr
        · cases hr
      · cases hr
    · cases hr

theorem fsrc_mono (L : Lv) {h h' : H} (hl : HLe h h') (e : Ty) (v : V) (r : List e.D) (hr : fsrc L h e v = some r) : fsrc L h' e v = some r := by
  unfold fsrc at hr ⊢
  split at hr
  · exact hr
  · exact hr
  · rename_i id n
    cases ho : h id with
    | none => rw [ho] at hr; cases hr
    | some o => rw [ho] at hr; simp only [hl id o ho]; exact hr
  · exact hr
  · cases hr

theorem fbase_mono (L : Lv) {h h' : H} (hl : HLe h h') (et : TypeId) (e : Ty) (v : V) (r : List e.D × List Nat) (hr : fbase L h et e v = some r) : fbase L h' et e v = some r := by
  unfold fbase at hr ⊢
  split at hr
  · exact hr
  · rename_i id n
    cases ho : h id with
    | none => rw [ho] at hr; cases hr
    | some o => rw [ho] at hr; simp only [hl id o ho]; exact hr
  · cases hr

theorem fappend_mono (L : Lv) (E : Ev) {h h' : H} (hl : HLe h h') (f : Nat) (t tx : TypeId) (x y : V) : fappend L E h f t tx x y = .bad ∨ fappend L E h' f t tx x y = fappend L E h f t tx x y := by
  unfold fappend
  cases elemOf E t with
  | none => exact .inl rfl
  | some et =>
    simp only
    cases E et with
    | none => exact .inl rfl
    | some i =>
      simp only
      split
      · cases hb : fbase L h et i.ty x with
        | none => exact .inl rfl
        | some b =>
          cases hs : fsrc L h i.ty y with
          | none => exact .inl rfl
          | some s =>
            right
            rw [fbase_mono L hl _ _ _ _ hb, fsrc_mono L hl _ _ _ hs]
      · exact .inl rfl

theorem fbuildSlice_mono (L : Lv) (E : Ev) {h h' : H} (hl : HLe h h') (f : Nat) (t : TypeId) (n : Nat) (ps : List (Nat × V)) : fbuildSlice L E h f t n ps = .bad ∨ fbuildSlice L E h' f t n ps = fbuildSlice L E h f t n ps := by
  unfold fbuildSlice
  cases elemOf E t with
  | none => exact .inl rfl
  | some et =>
    simp only
    cases E et with
    | none => exact .inl rfl
    | some i =>
      simp only
      split
      · cases hb : litC L h i.ty 0 ps with
        | none => exact .inl rfl
        | some b => right; rw [litC_mono L hl _ _ _ _ hb]
      · exact .inl rfl

theorem fload_mono (L : Lv) (E : Ev) {h h' : H} (hl : HLe h h') (t : TypeId) (a : V) : fload L E h t a = .bad ∨ fload L E h' t a = fload L E h t a := by
  unfold fload
  cases E t with
  | none => exact .inl rfl
  | some i =>
    simp only
    split
    · rename_i id off
      cases ho : h id with
      | none => exact .inl rfl
      | some o => right; rw [hl id o ho]
    · rename_i id j off
      cases ho : h id with
      | none => exact .inl rfl
      | some o => right; rw [hl id o ho]
    · exact .inr rfl
    · exact .inl rfl

theorem findexAddr_mono (L : Lv) (E : Ev) {h h' : H} (hl : HLe h h') (t : TypeId) (x i : V) : findexAddr L E h t x i = .bad ∨ findexAddr L E h' t x i = findexAddr L E h t x i := by
  unfold findexAddr
  cases elemOf E t with
  | none => exact .inr rfl
  | some et =>
    simp only
    split
    · rename_i id len k n
      cases ho : h id with
      | none => exact .inl rfl
      | some o => right; rw [hl id o ho]
    · exact .inr rfl
    · exact .inl rfl

theorem fslice_mono (L : Lv) (E : Ev) {h h' : H} (hl : HLe h h') (t : TypeId) (x : V) (lo hi : Option V) : fslice L E h t x lo hi = .bad ∨ fslice L E h' t x lo hi = fslice L E h t x lo hi := by
  unfold fslice
  cases E t with
  | none => exact .inl rfl
  | some q =>
    simp only
    split
    · exact .inr rfl
    · exact .inr rfl
    · rename_i et id len hk
      cases ho : h id with
      | none => exact .inl rfl
      | some o => right; rw [hl id o ho]
    · exact .inl rfl

theorem fconvert_mono (L : Lv) (E : Ev) {h h' : H} (hl : HLe h h') (s d : TypeId) (x : V) : fconvert L E h s d x = .bad ∨ fconvert L E h' s d x = fconvert L E h s d x := by
  unfold fconvert
  split
  · exact .inr rfl
  · exact .inr rfl
  · exact .inr rfl
  · split
    · split
      · rename_i id len _ _ _ _ _ 
        split
        · rename_i l ho
          right; rw [hl _ _ ho]
        · exact .inl rfl
      · exact .inl rfl
    · exact .inl rfl
  · exact .inl rfl

theorem fstore_mono (L : Lv) (E : Ev) {h h' : H} (hl : HLe h h') (t : TypeId) (a x : V) : fstore L E h t a x = .bad ∨ fstore L E h' t a x = fstore L E h t a x := by
  unfold fstore
  cases E t with
  | none => exact .inl rfl
  | some i =>
    simp only
    split
    · split
      · rename_i id off
        cases ho : h id with
        | none => exact .inl rfl
        | some o => right; rw [hl id o ho]
      · rename_i id j off
        cases ho : h id with
        | none => exact .inl rfl
        | some o =>
          rw [hl id o ho]
          cases o with
          | row tt e l =>
            simp only
            split
            · split
              · exact .inr rfl
              · cases hv : view L h e (putL (expl e (L.get e l j)) off x.cells) with
                | none => exact .inl rfl
                | some r => right; rw [view_mono L hl _ _ _ hv]
            · exact .inl rfl
          | _ => exact .inr rfl
      · exact .inl rfl
    · exact .inl rfl

theorem flookup_mono (L : Lv) (E : Ev) {h h' : H} (hl : HLe h h') (t : TypeId) (x i : V) (ok : Bool) : flookup L E h t x i ok = .bad ∨ flookup L E h' t x i ok = flookup L E h t x i ok := by
  unfold flookup
  split
  · split
    · rename_i ie id ix _
      cases ho : h id with
      | none => exact .inl rfl
      | some o =>
        rw [hl id o ho]
        cases o with
        | map k v l =>
          simp only
          split
          · cases hv : view L h k [ix] with
            | none => exact .inl rfl
            | some r => right; rw [view_mono L hl _ _ _ hv]
          · exact .inl rfl
        | _ => exact .inr rfl
    · exact .inl rfl
  · exact .inl rfl

theorem fmapUpdate_mono (L : Lv) (E : Ev) {h h' : H} (hl : HLe h h') (t : TypeId) (m i x : V) : fmapUpdate L E h t m i x = .bad ∨ fmapUpdate L E h' t m i x = fmapUpdate L E h t m i x := by
  unfold fmapUpdate
  split
  · split
    · rename_i id ix xx
      cases ho : h id with
      | none => exact .inl rfl
      | some o =>
        rw [hl id o ho]
        cases o with
        | map k v l =>
          simp only
          split
          · cases hv : view L h k [ix] with
            | none => exact .inl rfl
            | some r =>
              cases hv2 : view L h v [xx] with
              | none =>
                left
                obtain ⟨a, b, c⟩ := r
                cases b <;> cases c <;> rfl
              | some r2 => right; rw [view_mono L hl _ _ _ hv, view_mono L hl _ _ _ hv2]
          · exact .inl rfl
        | _ => exact .inr rfl
    · exact .inl rfl
  · exact .inl rfl

theorem fclip_mono (E : Ev) {h h' : H} (hl : HLe h h') (f : Nat) (t : TypeId) (x hi mx : V) : fclip E h f t x hi mx = .bad ∨ fclip E h' f t x hi mx = fclip E h f t x hi mx := by
  unfold fclip
  split
  · split
    · split
      · exact .inr rfl
      · rename_i id len
        cases ho : h id with
        | none => exact .inl rfl
        | some o => right; rw [hl id o ho]
      · exact .inr rfl
      · exact .inl rfl
    · exact .inl rfl
  · exact .inl rfl

theorem opFR_mono (L : Lv) (E : Ev) {h h' : H} (hl : HLe h h') (f : Nat) (ev : Operand → V) (op : Op) : opFR L E h f ev op = .bad ∨ opFR L E h' f ev op = opFR L E h f ev op := by
  cases op <;> simp only [opFR]
  case load t a => exact fload_mono L E hl _ _
  case store t a x => exact fstore_mono L E hl _ _ _
  case buildSlice t n ps => exact fbuildSlice_mono L E hl _ _ _ _
  case convert s d x => exact fconvert_mono L E hl _ _ _
  case slice t x lo hi mx =>
    cases mx with
    | none => exact fslice_mono L E hl _ _ _ _
    | some m =>
      cases lo with
      | none =>
        cases hi with
        | none => exact .inl rfl
        | some b => exact fclip_mono E hl _ _ _ _ _
      | some _ => cases hi <;> exact .inl rfl
  case indexAddr t x i => exact findexAddr_mono L E hl _ _ _
  case lookup t x i ok => exact flookup_mono L E hl _ _ _ _
  case mapUpdate t m k x => exact fmapUpdate_mono L E hl _ _ _ _
  case insert t m k x => exact fmapUpdate_mono L E hl _ _ _ _
  case call c =>
    obtain ⟨callee, as, ts⟩ := c
    cases callee with
    | builtin b =>
      simp only [fbuiltin]
      split
      · exact .inr rfl
      · exact fappend_mono L E hl _ _ _ _ _
      · exact .inr rfl
      · exact .inr rfl
      · exact .inl rfl
    | value _ => first | exact .inr trivial | exact .inr rfl
    | invoke _ _ => first | exact .inr trivial | exact .inr rfl
  case makeMap t r => cases r <;> first | exact .inr trivial | exact .inr rfl
  all_goals first
    | exact .inr trivial
    | exact .inr rfl

theorem viewV_mono (L : Lv) {h h' : H} (hl : HLe h h') (t : Ty) (v : V) (r : t.D × List Nat) (hr : viewV L h t v = some r) : viewV L h' t v = some r := by
  unfold viewV at hr ⊢
  split at hr
  · rename_i hc
    rw [if_pos hc]
    split at hr
    · rename_i x ids hv
      rw [view_mono L hl _ _ _ hv]
      exact hr
    · cases hr
  · cases hr

theorem viewAll_mono (L : Lv) {h h' : H} (hl : HLe h h') : ∀ (ts : List Ty) (vs : List V) (r : Ds ts × List Nat), viewAll L h ts vs = some r → viewAll L h' ts vs = some r
  | [], [], _, hr => hr
  | t :: ts, v :: vs, r, hr => by
    unfold viewAll at hr ⊢
    split at hr
    · rename_i x i y j h1 h2
      rw [viewV_mono L hl _ _ _ h1, viewAll_mono L hl ts vs _ h2]
      exact hr
    · cases hr
  | [], _ :: _, _, hr => by cases hr
  | _ :: _, [], _, hr => by cases hr
end Go.VM
set_option autoImplicit false
set_option linter.all false
namespace Go.VM
open Go Go.Lib

/-! ### 1. Leaves -/
structure Leaf where
  x : V
  nw : Option Ob
  kill : List Nat
  up : Option (Nat × Ob)

def FRl : FR → Leaf → Prop
  | .v x, l => ∃ x', RB x x' ∧ l = ⟨x', none, [], none⟩
  | .b c, l => l = ⟨.c (.bool c), none, [], none⟩
  | .br c t f, l => (c = true → FRl t l) ∧ (c = false → FRl f l)
  | .o p r, l => p ∧ FRl r l
  | .new x [] kill, l => l = ⟨x, none, kill, none⟩
  | .new x [o] kill, l => l = ⟨x, some o, kill, none⟩
  | .upd id o kill, l => l = ⟨.c .un, none, kill, some (id, o)⟩
  | _, _ => False

def isAlloc : Op → Bool
  | .alloc _ => true
  | _ => false

def Leaf.hp (l : Leaf) (f : Nat) (hp : Hp) : Hp := match l.up with
  | some (id, o) => setA (delAll hp l.kill) id o
  | none => match l.nw with
    | some o => (f, o) :: delAll hp l.kill
    | none => delAll hp l.kill

def Leaf.tch (l : Leaf) (f id : Nat) : Option (Option Ob) := match l.up with
  | some (i, o) => if id = i then some (some o) else if id ∈ l.kill then some none else none
  | none => match l.nw with
    | some o => if id = f then some (some o) else if id ∈ l.kill then some none else none
    | none => if id ∈ l.kill then some none else none

def Leaf.ids (l : Leaf) (f : Nat) : List Nat := match l.up with
  | some (i, _) => i :: l.kill
  | none => match l.nw with
    | some _ => f :: l.kill
    | none => l.kill

def Leaf.nx (l : Leaf) (f : Nat) : Nat := match l.nw with
  | some _ => f + 1
  | none => f

def Leaf.st (l : Leaf) (s : St) (dst : Option Nat) : St := { s with hp := l.hp s.nx s.hp, nx := l.nx s.nx }.put dst l.x

theorem Leaf.look_hp (l : Leaf) (f : Nat) (hp : Hp) (id : Nat) : lookA (l.hp f hp) id = match l.tch f id with | some r => r | none => lookA hp id := by
  unfold Leaf.hp Leaf.tch
  cases l.up with
  | some p =>
    obtain ⟨i, o⟩ := p
    simp only [lookA_setA, lookA_delAll]
    by_cases h1 : id = i
    · simp [h1]
    · by_cases h2 : id ∈ l.kill <;> simp [h1, h2]
  | none =>
    cases l.nw with
    | some o =>
      simp only [lookA, ifb, lookA_delAll]
      by_cases h1 : id = f
      · simp [h1]
      · have h1' : ¬ f = id := fun e => h1 e.symm
        by_cases h2 : id ∈ l.kill <;> simp [h1, h1', h2]
    | none =>
      simp only [lookA_delAll]
      by_cases h2 : id ∈ l.kill <;> simp [h2]

theorem Leaf.tch_none (l : Leaf) (f id : Nat) (h : id ∉ l.ids f) : l.tch f id = none := by
  unfold Leaf.ids at h
  unfold Leaf.tch
  cases hu : l.up with
  | some p =>
    obtain ⟨i, o⟩ := p
    rw [hu] at h
    simp only [List.mem_cons, not_or] at h
    simp [h.1, h.2]
  | none =>
    rw [hu] at h
    cases hn : l.nw with
    | some o =>
      rw [hn] at h
      simp only [List.mem_cons, not_or] at h
      simp [h.1, h.2]
    | none => rw [hn] at h; simp only at h; simp [h]

/-! ### 2. Leaves from conditions -/
def runD (s : St) (dst : Option Nat) (k : St → List Nat → Bool → VC) : FR → VC
  | .v x => splitB x fun x => k (s.put dst x) [] false
  | .b c => .br c (k (s.put dst (.c (.bool true))) [] false) (k (s.put dst (.c (.bool false))) [] false)
  | .br c t f => .br c (runD s dst k t) (runD s dst k f)
  | .o p r => .obl p (runD s dst k r)
  | .new x [] kill => k ({ s with hp := delAll s.hp kill }.put dst x) kill false
  | .new x [o] kill => k ({ s with hp := (s.nx, o) :: delAll s.hp kill, nx := s.nx + 1 }.put dst x) (s.nx :: kill) true
  | .upd id o kill => k ({ s with hp := setA (delAll s.hp kill) id o }.put dst (.c .un)) (id :: kill) false
  | _ => .bad

theorem runD_leaf {s : St} {dst : Option Nat} {k : St → List Nat → Bool → VC} : ∀ r : FR, (runD s dst k r).holds → ∃ l, FRl r l ∧ (k (l.st s dst) (l.ids s.nx) l.nw.isSome).holds
  | .v x, h => by
    obtain ⟨x', h1, h2⟩ := splitB_ok h
    exact ⟨⟨x', none, [], none⟩, ⟨x', h1, rfl⟩, h2⟩
  | .b c, h => by
    refine ⟨⟨.c (.bool c), none, [], none⟩, rfl, ?_⟩
    cases c
    · exact h.2 rfl
    · exact h.1 rfl
  | .br c t f, h => by
    cases c
    · obtain ⟨l, h1, h2⟩ := runD_leaf f (h.2 rfl)
      exact ⟨l, ⟨fun e => (by cases e), fun _ => h1⟩, h2⟩
    · obtain ⟨l, h1, h2⟩ := runD_leaf t (h.1 rfl)
      exact ⟨l, ⟨fun _ => h1, fun e => by cases e⟩, h2⟩
  | .o p r, h => by
    obtain ⟨l, h1, h2⟩ := runD_leaf r h.2
    exact ⟨l, ⟨h.1, h1⟩, h2⟩
  | .new x [] kill, h => ⟨⟨x, none, kill, none⟩, rfl, h⟩
  | .new x [o] kill, h => ⟨⟨x, some o, kill, none⟩, rfl, h⟩
  | .new x (_ :: _ :: _) kill, h => h.elim
  | .upd id o kill, h => ⟨⟨.c .un, none, kill, some (id, o)⟩, rfl, h⟩
  | .amb, h => h.elim
  | .bad, h => h.elim

/-! ### 3. What a leaf gives -/
section
variable {P : Program} {E : Ev} {φ : Phi} {w : World} {hp : Hp} {f : Nat}

def LeafOk (φ : Phi) (hp : Hp) (w : World) (f nx : Nat) (l : Leaf) (v : Value) (w' : World) : Prop :=
  ∃ φ' hp', (∀ id, lookA hp' id = lookA (l.hp f hp) id) ∧ HRel φ' hp' nx w' ∧ Evo φ hp w φ' hp' w' ∧ Vrel φ' (okb φ' hp') w' l.x v ∧ ∀ id, (φ' id ≠ none → φ id ≠ none ∨ (l.nw.isSome = true ∧ id = f))

theorem ph_of {φ' : Phi} {m : Nat} (h1 : ∀ id, id < f → φ' id = φ id) (h2 : ∀ id, f + m ≤ id → φ' id = none) (hm : m ≤ 1) : ∀ id, φ' id ≠ none → φ id ≠ none ∨ (m = 1 ∧ id = f) := fun id h => by
  by_cases hl : id < f
  · left; rw [← h1 id hl]; exact h
  · by_cases hg : f + m ≤ id
    · exact absurd (h2 id hg) h
    · right; omega

theorem fr_leaf : ∀ (r : FR) {run : Result Value} {l : Leaf}, FRl r l → FRok φ hp w f r run → ∃ v w', run = .ok v w' ∧ LeafOk φ hp w f (l.nx f) l v w'
  | .v x, run, l, h, hf => by
    obtain ⟨x', hx, rfl⟩ := h
    have hf := hf.rb hx
    obtain ⟨v, w', φ', hp', h1, rfl, h3, h4, h5, h6⟩ := hf
    exact ⟨v, w', h1, φ', _, fun id => rfl, h3, h4, h5, fun id hid => (ph_of (m := 0) h6 h3.fr (by omega) id hid).imp_right fun h => by omega⟩
  | .b c, run, l, h, hf => by
    cases h
    obtain ⟨v, w', φ', hp', h1, rfl, h3, h4, h5, h6⟩ := hf
    exact ⟨v, w', h1, φ', _, fun id => rfl, h3, h4, h5, fun id hid => (ph_of (m := 0) h6 h3.fr (by omega) id hid).imp_right fun h => by omega⟩
  | .br c t e, run, l, h, hf => by
    cases c
    · exact fr_leaf e (h.2 rfl) (hf.2 rfl)
    · exact fr_leaf t (h.1 rfl) (hf.1 rfl)
  | .o p r, run, l, h, hf => fr_leaf r h.2 (hf h.1)
  | .new x [] kill, run, l, h, hf => by
    cases h
    obtain ⟨v, w', φ', hp', h1, rfl, h3, h4, h5, h6⟩ := hf
    exact ⟨v, w', h1, φ', _, fun id => rfl, h3, h4, h5, fun id hid => (ph_of (m := 0) h6 h3.fr (by omega) id hid).imp_right fun h => by omega⟩
  | .new x [o] kill, run, l, h, hf => by
    cases h
    obtain ⟨v, w', φ', hp', h1, rfl, h3, h4, h5, h6⟩ := hf
    exact ⟨v, w', h1, φ', _, fun id => rfl, h3, h4, h5, fun id hid => (ph_of (m := 1) h6 h3.fr (by omega) id hid).imp_right fun h => ⟨rfl, h.2⟩⟩
  | .new x (_ :: _ :: _) kill, run, l, h, hf => h.elim
  | .upd id o kill, run, l, h, hf => by
    cases h
    obtain ⟨v, w', h1, h2, h3⟩ := hf
    exact ⟨v, w', h1, φ, _, fun id => rfl, h2, h3, trivial, fun id hid => .inl hid⟩
  | .amb, run, l, h, hf => h.elim
  | .bad, run, l, h, hf => h.elim

/-! ### 4. A new variable at any number that is free -/
theorem evo_new' {nx : Nat} {w' : World} (h : HRel φ hp nx w) (hf : φ f = none) (o : Ob) (p : Place) (hb : Go.RowKit.Below w.heap.size w w')
    (hpl : ∀ b, p.S b → w.heap.size ≤ b) : Evo φ hp w (phiSet φ f p) ((f, o) :: hp) w' := by
  refine Evo.below hb (fun id q hq => ?_) (fun id o' q b h1 h2 h3 => ?_)
  · unfold phiSet
    split
    · rename_i e; subst e; rw [hf] at hq; cases hq
    · exact hq
  · unfold phiSet at h2
    simp only [lookA, ifb] at h1
    split at h2
    · cases h2; exact .inl (hpl b h3)
    · rename_i hne
      rw [if_neg (fun e => hne e.symm)] at h1
      exact .inr fun hk => hk id o' q h1 h2 h3

theorem HRel.new' {nx : Nat} {w' : World} (h : HRel φ hp nx w) (hf : φ f = none) (hlt : f < nx) (o : Ob) (p : Place) (hb : Go.RowKit.Below w.heap.size w w')
    (hpl : ∀ b, p.S b → w.heap.size ≤ b) (ho : Orel (phiSet φ f p) (okb (phiSet φ f p) ((f, o) :: hp)) w' f o) : HRel (phiSet φ f p) ((f, o) :: hp) nx w' where
  ob := fun id o' h1 => by
    simp only [lookA, ifb] at h1
    split at h1
    · rename_i e; subst e; cases h1; exact ho
    · refine (h.ob id o' h1).evo (evo_new' h hf o p hb hpl) (fun q b hq hS => ?_)
      obtain ⟨q', hq', hl⟩ := (h.ob id o' h1).has
      rw [hq] at hq'; cases hq'
      exact hb.block b (hl b hS)
  fr := fun id hl => by
    unfold phiSet
    rw [if_neg (by omega)]
    exact h.fr id (by omega)
  dj := fun i j o1 o2 p1 p2 b h1 h2 hne h3 h4 h5 h6 => by
    simp only [lookA, ifb] at h1 h2
    unfold phiSet at h3 h4
    by_cases hi : i = f
    · subst hi
      rw [if_pos rfl] at h3; cases h3
      have hj : ¬ i = j := hne
      rw [if_neg hj] at h2
      rw [if_neg (fun e => hj e.symm)] at h4
      obtain ⟨q', hq', hl⟩ := (h.ob j o2 h2).has
      rw [h4] at hq'; cases hq'
      have := hl b h6; have := hpl b h5; omega
    · rw [if_neg (fun e => hi e.symm)] at h1
      rw [if_neg hi] at h3
      by_cases hj : j = f
      · subst hj
        rw [if_pos rfl] at h4; cases h4
        obtain ⟨q', hq', hl⟩ := (h.ob i o1 h1).has
        rw [h3] at hq'; cases hq'
        have := hl b h5; have := hpl b h6; omega
      · rw [if_neg (fun e => hj e.symm)] at h2
        rw [if_neg hj] at h4
        exact h.dj i j o1 o2 p1 p2 b h1 h2 hne h3 h4 h5 h6

theorem alloc_any (hE : ∀ t i, E t = some i → TIok P t i) {nx : Nat} (hh : HRel φ hp nx w) (hf : φ f = none) (hlt : f < nx) (t : TypeId) (ov : Value) {l : Leaf} (h : FRl (falloc E f t) l) :
    ∃ v w', (Instr.alloc t true ov).run P w = .ok v w' ∧ LeafOk φ hp w f nx l v w' := by
  unfold falloc at h
  cases hi : E t with
  | none => rw [hi] at h; exact h.elim
  | some i =>
    rw [hi] at h
    cases h
    obtain ⟨z, hz, hzc⟩ := run_zero (hE t i hi) w
    refine ⟨.pointer (some ⟨w.heap.size, 0, none⟩), w.alloc (.cells z.cells t (0, 0)), by simp [Instr.alloc, hz, run_newVar], phiSet φ f (.at w.heap.size 1 0 0), (f, .box t (i.zero.map (Z.cAt f))) :: hp, fun id => rfl, ?_, ?_, ?_, fun id hid => ?_⟩
    · refine hh.new' hf hlt _ _ (below_new _ _) (fun b hb => by cases hb; exact Nat.le_refl _) ?_
      refine ⟨w.heap.size, i.zero.map Z.val, phiSet_self _ _ _, ?_, L2_map (fun z => Z_relAt _ z) _⟩
      rw [heap_new, ← hzc]
    · exact evo_new' hh hf _ _ (below_new _ _) (fun b hb => by cases hb; exact Nat.le_refl _)
    · exact ⟨_, _, _, _, phiSet_self _ _ _, rfl⟩
    · by_cases e : id = f
      · exact .inr ⟨rfl, e⟩
      · left
        unfold phiSet at hid
        rw [if_neg e] at hid; exact hid

/-! ### 5. Where numbers do not matter -/
theorem clip_new (E : Ev) (h : H) (f : Nat) (t : TypeId) (x hi mx : V) {l : Leaf} (hl : FRl (fclip E h f t x hi mx) l) : l.nw ≠ none := by
  unfold fclip at hl
  repeat' split at hl
  all_goals first
    | exact hl.elim
    | (cases hl; simp)

theorem append_new (L : Lv) (E : Ev) (h : H) (f : Nat) (t tx : TypeId) (x y : V) {l : Leaf} (hl : FRl (fappend L E h f t tx x y) l) : l.nw ≠ none := by
  unfold fappend at hl
  repeat' split at hl
  all_goals first
    | exact hl.elim
    | (obtain ⟨_, hl⟩ := hl; cases hl; simp)

theorem opFR_num (L : Lv) (E : Ev) (h : H) (f f' : Nat) (ev : Operand → V) (op : Op) {l : Leaf} (hl : FRl (opFR L E h f ev op) l) (hn : l.nw = none) : FRl (opFR L E h f' ev op) l := by
  cases op <;> simp only [opFR] at hl ⊢ <;> try exact hl
  case alloc t =>
    exfalso
    unfold falloc at hl
    split at hl
    · cases hl; cases hn
    · exact hl
  case box t x =>
    exfalso
    unfold fbox at hl
    split at hl
    · cases hl; cases hn
    · exact hl
  case buildSlice t n ps =>
    exfalso
    unfold fbuildSlice at hl
    repeat' split at hl
    all_goals first
      | exact hl
      | (cases hl; cases hn)
  case makeMap t r =>
    cases r with
    | some _ => exact hl
    | none =>
      exfalso
      simp only [opFR] at hl
      unfold fmakeMap at hl
      repeat' split at hl
      all_goals first
        | exact hl
        | (cases hl; cases hn)
  case makeSlice t x y =>
    exfalso
    unfold fmakeSlice at hl
    repeat' split at hl
    all_goals first
      | exact hl
      | (obtain ⟨_, hl⟩ := hl; cases hl; cases hn)
  case slice t x lo hi mx =>
    cases mx with
    | none => exact hl
    | some m =>
      cases lo with
      | none =>
        cases hi with
        | none => exact hl
        | some b => exact absurd hn (clip_new E h f t _ _ _ hl)
      | some _ => cases hi <;> exact hl
  case call c =>
    obtain ⟨callee, as, ts⟩ := c
    cases callee with
    | builtin b =>
      simp only [opFR, fbuiltin] at hl ⊢
      split at hl
      · exact hl
      · exact absurd hn (append_new L E h f _ _ _ _ hl)
      · exact hl
      · exact hl
      · exact hl.elim
    | value _ => exact hl
    | invoke _ _ => exact hl
end
end Go.VM
set_option autoImplicit false
set_option linter.all false
namespace Go.VM
open Go Go.Lib

/-- A function told as an operation. -/
structure XOp where
  fr : Lv → H → Nat → List V → FR

/-- An iterator told as a list: what it has captured; what it yields. -/
structure It where
  ins : List Ty
  el : List Ty
  pre : Ds ins → Prop
  fn : Ds ins → List (Ds el)

structure XOk (P : Program) (g : FuncId) (x : XOp) : Prop where
  has : Has P g
  mono : ∀ (L : Lv) (h h' : H) (f : Nat) (as : List V), HLe h h' → x.fr L h f as = .bad ∨ x.fr L h' f as = x.fr L h f as
  num : ∀ (L : Lv) (h : H) (f f' : Nat) (as : List V) (l : Leaf), FRl (x.fr L h f as) l → l.nw = none → FRl (x.fr L h f' as) l
  run : ∀ (φ : Phi) (hp : Hp) (f : Nat) (w : World) (as : List V) (vs : List Value) (l : Leaf), HRel φ hp f w → L2 (Vrel φ (okb φ hp) w) as vs → FRl (x.fr Lv.std (lookA hp) f as) l →
    Calls P g vs.toArray w fun e w' => ∃ v, e = .returned v ∧ LeafOk φ hp w f (l.nx f) l v w'

theorem HRel.le {φ : Phi} {hp : Hp} {nx nx' : Nat} {w : World} (h : HRel φ hp nx w) (hl : nx ≤ nx') : HRel φ hp nx' w := ⟨h.ob, fun id hid => h.fr id (Nat.le_trans hl hid), h.dj⟩

theorem okb_congr {φ : Phi} {hp hp' : Hp} (h : ∀ id, lookA hp' id = lookA hp id) {b : Nat} : okb φ hp' b ↔ okb φ hp b :=
  ⟨fun hb id o p h1 => hb id o p (by rw [h]; exact h1), fun hb id o p h1 => hb id o p (by rw [← h]; exact h1)⟩

theorem HRel.congr {φ : Phi} {hp hp' : Hp} {nx : Nat} {w : World} (h : ∀ id, lookA hp' id = lookA hp id) (hr : HRel φ hp nx w) : HRel φ hp' nx w ∧ Evo φ hp w φ hp' w := by
  have ev : Evo φ hp w φ hp' w := ⟨rfl, rfl, rfl, Nat.le_refl _, fun _ _ h => h, fun id o p b h1 h2 h3 => .inr fun hb => hb id o p (by rw [← h]; exact h1) h2 h3, fun _ _ _ => rfl⟩
  exact ⟨⟨fun id o ho => (hr.ob id o (by rw [← h]; exact ho)).evo ev fun _ _ _ _ => rfl, hr.fr, fun i j o o' p q b h1 h2 => hr.dj i j o o' p q b (by rw [← h]; exact h1) (by rw [← h]; exact h2)⟩, ev⟩

theorem hasAmb_mono {h h' : H} (hl : HLe h h') {ids : List Nat} (ha : hasAmb h ids = true) : hasAmb h' ids = true := by
  unfold hasAmb at ha ⊢
  split at ha
  · rename_i ho
    rw [hl 0 _ ho]; exact ha
  · cases ha

/-! ### contracts on data are such operations -/
def Spec.x (sp : Spec) : XOp where
  fr := fun L h f as => match viewAll L h sp.ins as with
    | some (x, ids) => match hasAmb h ids with
      | true => .o (sp.pre x) (match sp.outs.all Ty.flat with
        | true => .v (outR sp.outs (sp.fn x))
        | false => .new (outR sp.outs (sp.fn x)) [] ids)
      | false => .bad
    | none => .bad

theorem spec_x {P : Program} {g : FuncId} {sp : Spec} (hs : SpecOk P g sp) : XOk P g sp.x where
  has := hs.1
  mono := fun L h h' f as hl => by
    unfold Spec.x
    simp only
    cases hv : viewAll L h sp.ins as with
    | none => exact .inl rfl
    | some r =>
      rw [viewAll_mono L hl _ _ _ hv]
      simp only
      cases ha : hasAmb h r.2 with
      | false => exact .inl rfl
      | true => right; rw [hasAmb_mono hl ha]
  num := fun L h f f' as l hl _ => hl
  run := fun φ hp f w as vs l hh hv hl => by
    unfold Spec.x at hl
    simp only at hl
    split at hl
    · rename_i x ids hvw
      split at hl
      rotate_left
      · exact hl.elim
      rename_i hA
      obtain ⟨hpre, hl⟩ := hl
      have hK := viewAll_ok hh sp.ins as vs x ids hvw hv
      refine (hs.2 _ w vs x (hasAmb_ok hh hA) hK hpre).mono fun en w' he => ?_
      obtain ⟨v, rfl, hb, hR⟩ := he
      refine ⟨v, rfl, ?_⟩
      split at hl
      · rename_i hf
        obtain ⟨x', hx, rfl⟩ := hl
        obtain ⟨q1, q2⟩ := below_h hh hb
        exact ⟨φ, hp, fun id => rfl, q1, q2, hx.rel (outR_ok _ _ _ (flat_KR _ _ _ hf hR)), fun id hid => .inl hid⟩
      · rename_i hf
        cases hl
        obtain ⟨q1, q2⟩ := below_h (hh.delAll ids) hb
        refine ⟨φ, _, fun id => rfl, q1, (evo_delAll φ w ids hp).trans q2, outR_ok _ _ _ (KR_mono (fun b hb' hl => ⟨rfl, ?_⟩) _ _ _ hR), fun id hid => .inl hid⟩
        rcases hb' with hb' | hb'
        · exact hb'
        · intro id o p k1 k2 k3
          obtain ⟨q, hq, hl'⟩ := ((hh.delAll ids).ob id o k1).has
          rw [k2] at hq; cases hq
          have := hl' b k3
          omega
    · exact hl.elim

/-! ### such a call by itself -/
def runX (hp : Hp) (nx : Nat) (k : V → Hp → Nat → VC) : FR → VC
  | .v x => k x hp nx
  | .b c => .br c (k (.c (.bool true)) hp nx) (k (.c (.bool false)) hp nx)
  | .br c t f => .br c (runX hp nx k t) (runX hp nx k f)
  | .o p r => .obl p (runX hp nx k r)
  | .new x [] kill => k x (delAll hp kill) nx
  | .new x [o] kill => k x ((nx, o) :: delAll hp kill) (nx + 1)
  | .upd id o kill => k (.c .un) (setA (delAll hp kill) id o) nx
  | _ => .bad

theorem runX_leaf {hp : Hp} {nx : Nat} {k : V → Hp → Nat → VC} : ∀ r : FR, (runX hp nx k r).holds → ∃ l, FRl r l ∧ (k l.x (l.hp nx hp) (l.nx nx)).holds
  | .v x, h => ⟨⟨x, none, [], none⟩, ⟨x, .inl rfl, rfl⟩, h⟩
  | .b c, h => by
    refine ⟨⟨.c (.bool c), none, [], none⟩, rfl, ?_⟩
    cases c
    · exact h.2 rfl
    · exact h.1 rfl
  | .br c t f, h => by
    cases c
    · obtain ⟨l, h1, h2⟩ := runX_leaf f (h.2 rfl)
      exact ⟨l, ⟨fun e => (by cases e), fun _ => h1⟩, h2⟩
    · obtain ⟨l, h1, h2⟩ := runX_leaf t (h.1 rfl)
      exact ⟨l, ⟨fun _ => h1, fun e => by cases e⟩, h2⟩
  | .o p r, h => by
    obtain ⟨l, h1, h2⟩ := runX_leaf r h.2
    exact ⟨l, ⟨h.1, h1⟩, h2⟩
  | .new x [] kill, h => ⟨⟨x, none, kill, none⟩, rfl, h⟩
  | .new x [o] kill, h => ⟨⟨x, some o, kill, none⟩, rfl, h⟩
  | .new x (_ :: _ :: _) kill, h => h.elim
  | .upd id o kill, h => ⟨⟨.c .un, none, kill, some (id, o)⟩, rfl, h⟩
  | .amb, h => h.elim
  | .bad, h => h.elim

theorem x_sound {P : Program} {g : FuncId} {x : XOp} (hx : XOk P g x) {φ : Phi} {hp : Hp} {nx : Nat} {w : World} {as : List V} {vs : List Value} {k : V → Hp → Nat → VC} (h : (runX hp nx k (x.fr Lv.std (lookA hp) nx as)).holds) (hh : HRel φ hp nx w) (hv : L2 (Vrel φ (okb φ hp) w) as vs) :
    Has P g ∧ Calls P g vs.toArray w fun e w' => ∃ v, e = .returned v ∧ ∃ φ' hp' nx' y, (k y hp' nx').holds ∧ HRel φ' hp' nx' w' ∧ Evo φ hp w φ' hp' w' ∧ Vrel φ' (okb φ' hp') w' y v := by
  obtain ⟨l, h1, h2⟩ := runX_leaf _ h
  refine ⟨hx.has, (hx.run φ hp nx w as vs l hh hv h1).mono fun e w' he => ?_⟩
  obtain ⟨v, rfl, φ', hp', l1, l2, l3, l4, l5⟩ := he
  obtain ⟨q1, q2⟩ := l2.congr (fun id => (l1 id).symm)
  exact ⟨v, rfl, φ', _, _, l.x, h2, q1, l3.trans q2, q2.V l4⟩
end Go.VM
set_option autoImplicit false
set_option linter.all false
namespace Go.VM
open Go Go.Lib
variable {B : Nat × Bool}

/-! ### 1. The generator -/
def disjN (a b : List Nat) : Bool := a.all fun x => !(memN x b)

def idsC : C → List Nat
  | .own id _ => [id]
  | .ptr id _ => [id]
  | .elp id _ _ => [id]
  | .fn _ caps => caps
  | .map id => [id]
  | .selfp id => [id]
  | _ => []
def idsCs : List C → List Nat
  | [] => []
  | c :: l => idsC c ++ idsCs l
def idsT : List (Bool × List C) → List Nat
  | [] => []
  | p :: l => idsCs p.2 ++ idsT l
def idsV : V → List Nat
  | .c x => idsC x
  | .agg l => idsCs l
  | .tup l => idsT l
  | .ipt l => idsCs l
def idsP : List (C × C) → List Nat
  | [] => []
  | p :: l => idsC p.2 ++ idsP l
def idsO : Option Ob → List Nat
  | some (.box _ cs) => idsCs cs
  | some (.rowf _ _ _ _ cs) => idsCs cs
  | some (.mapc l) => idsP l
  | _ => []
def nextIds (hp : Hp) : List Nat → List Nat
  | [] => []
  | id :: l => idsO (lookA hp id) ++ nextIds hp l
def reach : Nat → Hp → List Nat → List Nat
  | 0, _, l => l
  | n + 1, hp, l => match l with
    | [] => []
    | l => l ++ reach n hp (nextIds hp l)
def opdIds (s : St) : List Operand → List Nat
  | [] => []
  | x :: l => idsV (s.ev x) ++ opdIds s l
def hR (used : List Nat) (hp : Hp) : H := fun id => match memN id used with
  | true => lookA hp id
  | false => none

structure Rec where
  i : Nat
  used : List Nat
  tch : List Nat
  nw : Bool
  al : Bool

def okRec (un used tch : List Nat) (nw : Bool) (r : Rec) : Bool := match memN r.i un with
  | false => true
  | true => disjN used r.tch && disjN tch r.used && disjN tch r.tch && (!(nw && r.nw) || r.al)
def okRecs (un used tch : List Nat) (nw : Bool) : List Rec → Bool
  | [] => true
  | r :: l => match okRec un used tch nw r with
    | true => okRecs un used tch nw l
    | false => false

structure Spc where
  x : FuncId → Option XOp
  it : FuncId → Option It
instance : CoeFun Spc fun _ => FuncId → Option XOp := ⟨Spc.x⟩

def stepD (L : Lv) (E : Ev) (spc : Spc) (o : Oper) (used : List Nat) (s : St) (k : St → List Nat → Bool → VC) : VC := match o.op with
  | .call { callee := .value f, args := as, argTypes := _ } => match s.ev f with
    | .c (.fn g caps) => match spc g with
      | some x => runD s o.dst k (x.fr L (hR used s.hp) s.nx (as.toList.map s.ev ++ caps.map fun id => .c (.ptr id 0)))
      | none => .bad
    | _ => .bad
  | op => runD s o.dst k (opFR L E (hR used s.hp) s.nx s.ev op)

def usedOf (s : St) (o : Oper) : List Nat := 0 :: reach 4 s.hp (opdIds s o.op.operands.toList)

def drawGo (L : Lv) (E : Ev) (spc : Spc) (ops : Array Oper) : List (Nat × List Nat) → List Rec → St → (St → VC) → VC
  | [], _, s, k => k s
  | (i, un) :: rest, recs, s, k => match ops[i]? with
    | none => .bad
    | some o => guardG ops o s
        (stepD L E spc o (usedOf s o) s fun s' tch nw => match okRecs un (usedOf s o) tch nw recs with
          | true => drawGo L E spc ops rest (⟨i, usedOf s o, tch, nw, isAlloc o.op⟩ :: recs) s' k
          | false => .bad)
        (drawGo L E spc ops rest (⟨i, [], [], false, false⟩ :: recs) (s.put o.dst (.c .sk)) k)

/-! ### 2. A plan, and whether it is right -/
def apartI (ops : Array Oper) (i j : Nat) : Bool := match ops[i]?, ops[j]? with
  | some x, some y => x.apart ops y
  | _, _ => false
def maskOf (acc : List Nat) (l : List Edge) : Nat := l.foldl (fun s e => if Region.binds .any e then s ||| 2 ^ e.on ||| acc.getD e.on 0 else s) 0
def ancGo : List Oper → List Nat → List Nat
  | [], acc => acc
  | o :: os, acc => ancGo os (acc ++ [maskOf acc o.after.toList])
def planGo (ops : Array Oper) (anc : List Nat) : List (Nat × List Nat) → List Nat → Bool
  | [], _ => true
  | (i, un) :: r, prev => !(memN i prev) && prev.all (fun j => (anc.getD i 0).testBit j || (memN j un && apartI ops i j)) && planGo ops anc r (i :: prev)
def edgesBack (ops : Array Oper) : Bool := (List.range ops.size).all fun i => match ops[i]? with
  | some o => o.after.toList.all fun e => !(Region.binds .any e) || Nat.blt e.on i
  | none => true
def planOk (ops : Array Oper) (plan : List (Nat × List Nat)) : Bool :=
  edgesBack ops && planGo ops (ancGo ops.toList []) plan [] && (List.range ops.size).all fun i => memN i (plan.map (·.1))

/-! ### 3. The trace -/
structure Ent where
  i : Nat
  o : Oper
  l : Leaf
  f : Nat
  used : List Nat

def guardB (ops : Array Oper) (o : Oper) (s : St) (b : Bool) : Prop := match o.guard with
  | none => b = true
  | some (j, want) => ∃ t, (ops[j]?).bind (·.dst) = some t ∧ ((∃ q, (s.look t = .c (.bool q) ∨ s.look t = .c (.sym q)) ∧ b = (q == want)) ∨ (s.look t = .c .sk ∧ b = false))

theorem guardG_split {ops : Array Oper} {o : Oper} {s : St} {go skip : VC} (h : (guardG ops o s go skip).holds) : (guardB ops o s true ∧ go.holds) ∨ (guardB ops o s false ∧ skip.holds) := by
  unfold guardG at h
  unfold guardB
  cases hg : o.guard with
  | none => rw [hg] at h; exact .inl ⟨rfl, h⟩
  | some p =>
    obtain ⟨j, want⟩ := p
    rw [hg] at h
    simp only at h ⊢
    split at h
    · rename_i t ht
      split at h
      · rename_i e
        cases want
        · exact .inr ⟨⟨t, ht, .inl ⟨true, .inl e, rfl⟩⟩, h⟩
        · exact .inl ⟨⟨t, ht, .inl ⟨true, .inl e, rfl⟩⟩, h⟩
      · rename_i e
        cases want
        · exact .inl ⟨⟨t, ht, .inl ⟨false, .inl e, rfl⟩⟩, h⟩
        · exact .inr ⟨⟨t, ht, .inl ⟨false, .inl e, rfl⟩⟩, h⟩
      · rename_i b e
        cases want <;> cases b
        · exact .inl ⟨⟨t, ht, .inl ⟨false, .inr e, rfl⟩⟩, h.2 rfl⟩
        · exact .inr ⟨⟨t, ht, .inl ⟨true, .inr e, rfl⟩⟩, h.1 rfl⟩
        · exact .inr ⟨⟨t, ht, .inl ⟨false, .inr e, rfl⟩⟩, h.2 rfl⟩
        · exact .inl ⟨⟨t, ht, .inl ⟨true, .inr e, rfl⟩⟩, h.1 rfl⟩
      · rename_i e
        exact .inr ⟨⟨t, ht, .inr ⟨e, trivial⟩⟩, h⟩
      · exact h.elim
    · exact h.elim

theorem guardB_wanted {φ : Phi} {s : St} {a : Act} {w : World} (hr : Rel B φ s a w) {ops : Array Oper} {o : Oper} {b : Bool} (h : guardB ops o s b) : Region.wanted o (yielded ops a.tmps) = b := by
  unfold guardB at h
  unfold Region.wanted
  cases hg : o.guard with
  | none => rw [hg] at h; exact h.symm
  | some p =>
    obtain ⟨j, want⟩ := p
    rw [hg] at h
    obtain ⟨t, ht, h⟩ := h
    have hy := yielded_of (ops := ops) (a := a) ht
    have hl : Vrel φ (okb φ s.hp) w (s.look t) (a.tmps.getD t undef) := ev_ok hr (.tmp t)
    simp only
    rcases h with ⟨q, h1, rfl⟩ | ⟨h1, rfl⟩
    · have : a.tmps.getD t undef = .bool q := by
        rcases h1 with h1 | h1 <;> rw [h1] at hl <;> exact hl
      rw [hy.1 q this]
      cases q <;> cases want <;> rfl
    · rw [h1] at hl
      rw [hy.2 hl]
      cases want <;> rfl

/-- What the operation yields in the state of the text's order. -/
def Yld (L : Lv) (E : Ev) (spc : Spc) (o : Oper) (used : List Nat) (s : St) (l : Leaf) : Prop :=
  (∃ f as ts g caps x, o.op = .call { callee := .value f, args := as, argTypes := ts } ∧ s.ev f = .c (.fn g caps) ∧ spc g = some x ∧ FRl (x.fr L (hR used s.hp) s.nx (as.toList.map s.ev ++ caps.map fun id => .c (.ptr id 0))) l) ∨
  FRl (opFR L E (hR used s.hp) s.nx s.ev o.op) l

theorem stepD_yld {L : Lv} {E : Ev} {spc : Spc} {o : Oper} {used : List Nat} {s : St} {k : St → List Nat → Bool → VC} (h : (stepD L E spc o used s k).holds) :
    ∃ l, Yld L E spc o used s l ∧ (k (l.st s o.dst) (l.ids s.nx) l.nw.isSome).holds := by
  unfold stepD at h
  split at h
  · rename_i f as ts ho
    split at h
    · rename_i g caps hf
      split at h
      · rename_i x hx
        obtain ⟨l, h1, h2⟩ := runD_leaf _ h
        exact ⟨l, .inl ⟨f, as, ts, g, caps, x, ho, hf, hx, h1⟩, h2⟩
      · exact h.elim
    · exact h.elim
  · obtain ⟨l, h1, h2⟩ := runD_leaf _ h
    exact ⟨l, .inr h1, h2⟩

def PairOk (ops : Array Oper) (anc : List Nat) (e e' : Ent) : Prop := (anc.getD e.i 0).testBit e'.i = true ∨
  (Oper.apart ops e.o e'.o = true ∧ (∀ id, memN id e.used = true → e'.l.tch e'.f id = none) ∧ (∀ id, memN id e'.used = true → e.l.tch e.f id = none) ∧ (∀ id, e.l.tch e.f id = none ∨ e'.l.tch e'.f id = none) ∧
    (e.l.nw.isSome = true → e'.l.nw.isSome = true → isAlloc e'.o.op = true))

def Tr (L : Lv) (E : Ev) (spc : Spc) (ops : Array Oper) (anc : List Nat) (s0 : St) : List Ent → St → Prop
  | [], s => s = s0
  | e :: es, s => ∃ s1, Tr L E spc ops anc s0 es s1 ∧ ops[e.i]? = some e.o ∧ e.f = s1.nx ∧ (∀ e' ∈ es, e'.i ≠ e.i ∧ PairOk ops anc e e') ∧
      ((guardB ops e.o s1 true ∧ Yld L E spc e.o e.used s1 e.l) ∨ (guardB ops e.o s1 false ∧ e.l = ⟨.c .sk, none, [], none⟩)) ∧ s = e.l.st s1 e.o.dst

theorem disjN_ok {a b : List Nat} (h : disjN a b = true) : ∀ x, x ∈ a → x ∉ b := fun x hx hb => by
  unfold disjN at h
  rw [List.all_eq_true] at h
  have := h x hx
  rw [(memN_iff x b).2 hb] at this
  cases this

def RM (r : Rec) (e : Ent) : Prop := r.i = e.i ∧ r.used = e.used ∧ r.tch = e.l.ids e.f ∧ r.nw = e.l.nw.isSome ∧ (r.al = true → isAlloc e.o.op = true)

theorem okRecs_ok {un used tch : List Nat} {nw : Bool} : ∀ (recs : List Rec) (es : List Ent), L2 RM recs es → okRecs un used tch nw recs = true → ∀ e' ∈ es, memN e'.i un = true →
    (∀ id, id ∈ used → e'.l.tch e'.f id = none) ∧ (∀ id, id ∈ tch → id ∉ e'.used) ∧ (∀ id, id ∈ tch → e'.l.tch e'.f id = none) ∧ (nw = true → e'.l.nw.isSome = true → isAlloc e'.o.op = true)
  | [], [], _, _, e', h, _ => by cases h
  | r :: recs, e :: es, hl, hk, e', hm, hu => by
    unfold okRecs at hk
    split at hk
    · rename_i hr
      rcases List.mem_cons.1 hm with rfl | hm
      · obtain ⟨h1, h2, h3, h4, h5⟩ := hl.1
        unfold okRec at hr
        rw [h1, hu] at hr
        simp only [Bool.and_eq_true] at hr
        obtain ⟨⟨⟨q1, q2⟩, q3⟩, q4⟩ := hr
        refine ⟨fun id hid => e'.l.tch_none _ _ (by rw [← h3]; exact disjN_ok q1 id hid), fun id hid => by rw [← h2]; exact disjN_ok q2 id hid, fun id hid => e'.l.tch_none _ _ (by rw [← h3]; exact disjN_ok q3 id hid), fun hn hn' => h5 ?_⟩
        rw [hn, h4, hn'] at q4
        simpa using q4
      · exact okRecs_ok recs es hl.2 hk e' hm hu
    · cases hk
  | [], _ :: _, hl, _, _, _, _ | _ :: _, [], hl, _, _, _, _ => hl.elim

theorem drawGo_tr {E : Ev} {spc : Spc} {ops : Array Oper} {anc : List Nat} {s0 : St} {k : St → VC} : ∀ (plan : List (Nat × List Nat)) (prev : List Nat) (recs : List Rec) (es : List Ent) (s : St),
    planGo ops anc plan prev = true → prev = es.map (·.i) → L2 RM recs es → (drawGo Lv.std E spc ops plan recs s k).holds → Tr Lv.std E spc ops anc s0 es s →
    ∃ es' s', Tr Lv.std E spc ops anc s0 es' s' ∧ (k s').holds ∧ ∀ i, memN i (plan.map (·.1)) = true ∨ (∃ e ∈ es, e.i = i) → ∃ e ∈ es', e.i = i
  | [], prev, recs, es, s, hp, hprev, hrm, h, ht => ⟨es, s, ht, h, fun i hi => hi.resolve_left (by simp [memN])⟩
  | (i, un) :: rest, prev, recs, es, s, hp, hprev, hrm, h, ht => by
    unfold drawGo at h
    unfold planGo at hp
    simp only [Bool.and_eq_true, Bool.not_eq_true', List.all_eq_true, Bool.or_eq_true] at hp
    obtain ⟨⟨hp1, hp2⟩, hp3⟩ := hp
    split at h
    · exact h.elim
    · rename_i o ho
      have hpair : ∀ e' ∈ es, e'.i ≠ i ∧ ((anc.getD i 0).testBit e'.i = true ∨ (memN e'.i un = true ∧ Oper.apart ops o e'.o = true ∨ ops[e'.i]? ≠ some e'.o)) := fun e' he' => by
        have hin : e'.i ∈ prev := by rw [hprev]; exact List.mem_map.2 ⟨e', he', rfl⟩
        refine ⟨fun e => ?_, ?_⟩
        · rw [← e, (memN_iff _ _).2 hin] at hp1; cases hp1
        · rcases hp2 _ hin with h1 | h1
          · exact .inl h1
          · by_cases hx : ops[e'.i]? = some e'.o
            · refine .inr (.inl ⟨h1.1, ?_⟩)
              have := h1.2
              unfold apartI at this
              rw [ho, hx] at this
              exact this
            · exact .inr (.inr hx)
      have hops : ∀ (es : List Ent) (s : St), Tr Lv.std E spc ops anc s0 es s → ∀ e ∈ es, ops[e.i]? = some e.o := by
        intro es
        induction es with
        | nil => intro s _ e he; cases he
        | cons e es ih =>
          intro s hs e' he'
          obtain ⟨s1, h1, h2, _⟩ := hs
          rcases List.mem_cons.1 he' with rfl | he'
          · exact h2
          · exact ih s1 h1 e' he'
      have fin : ∀ (e : Ent) (r : Rec) (s' : St), e.i = i → RM r e → Tr Lv.std E spc ops anc s0 (e :: es) s' → (drawGo Lv.std E spc ops rest (r :: recs) s' k).holds →
          ∃ es' s', Tr Lv.std E spc ops anc s0 es' s' ∧ (k s').holds ∧ ∀ i', memN i' (((i, un) :: rest).map (·.1)) = true ∨ (∃ e ∈ es, e.i = i') → ∃ e ∈ es', e.i = i' := by
        intro e r s' hei hr ht' hd
        obtain ⟨es', s'', q1, q2, q3⟩ := drawGo_tr rest (i :: prev) (r :: recs) (e :: es) s' hp3 (by simp [hprev, hei]) ⟨hr, hrm⟩ hd ht'
        refine ⟨es', s'', q1, q2, fun i' hi' => q3 i' ?_⟩
        rcases hi' with hi' | ⟨e', he', hi'⟩
        · rw [memN_iff] at hi'
          simp only [List.map_cons, List.mem_cons] at hi'
          rcases hi' with rfl | hi'
          · exact .inr ⟨e, by simp, hei⟩
          · exact .inl ((memN_iff _ _).2 hi')
        · exact .inr ⟨e', by simp [he'], hi'⟩
      rcases guardG_split h with ⟨hg, h⟩ | ⟨hg, h⟩
      · obtain ⟨l, hy, h2⟩ := stepD_yld h
        split at h2
        · rename_i hok
          have hrec := okRecs_ok recs es hrm hok
          refine fin ⟨i, o, l, s.nx, usedOf s o⟩ ⟨i, usedOf s o, l.ids s.nx, l.nw.isSome, isAlloc o.op⟩ _ rfl ⟨rfl, rfl, rfl, rfl, fun h => h⟩ ⟨s, ht, ho, rfl, fun e' he' => ?_, .inl ⟨hg, hy⟩, rfl⟩ h2
          obtain ⟨q1, q2⟩ := hpair e' he'
          refine ⟨q1, ?_⟩
          rcases q2 with q2 | q2 | q2
          · exact .inl q2
          · obtain ⟨r1, r2, r3, r4⟩ := hrec e' he' q2.1
            refine .inr ⟨q2.2, fun id hid => r1 id ((memN_iff _ _).1 hid), fun id hid => l.tch_none _ _ (fun hc => r2 id hc ((memN_iff _ _).1 hid)), fun id => ?_, r4⟩
            by_cases hc : id ∈ l.ids s.nx
            · exact .inr (r3 id hc)
            · exact .inl (l.tch_none _ _ hc)
          · exact absurd (hops es s ht e' he') q2
        · exact h2.elim
      · refine fin ⟨i, o, ⟨.c .sk, none, [], none⟩, s.nx, []⟩ ⟨i, [], [], false, false⟩ _ rfl ⟨rfl, rfl, rfl, rfl, fun h => by cases h⟩ ⟨s, ht, ho, rfl, fun e' he' => ?_, .inr ⟨hg, rfl⟩, rfl⟩ h
        obtain ⟨q1, q2⟩ := hpair e' he'
        refine ⟨q1, ?_⟩
        rcases q2 with q2 | q2 | q2
        · exact .inl q2
        · refine .inr ⟨q2.2, fun id hid => (by cases hid), fun id hid => (by simp [Leaf.tch]), fun id => .inl (by simp [Leaf.tch]), fun hn => by cases hn⟩
        · exact absurd (hops es s ht e' he') q2

/-! ### 4. Ancestors -/
def Closed (ops : Array Oper) (S : Nat → Bool) : Prop := ∀ j o, ops[j]? = some o → S j = true → ∀ e ∈ o.after, Region.binds .any e = true → S e.on = true

theorem mask_ok (acc : List Nat) (i : Nat) : ∀ (l : List Edge) (s : Nat), (l.foldl (fun s e => if Region.binds .any e then s ||| 2 ^ e.on ||| acc.getD e.on 0 else s) s).testBit i = true →
    s.testBit i = true ∨ ∃ e ∈ l, Region.binds .any e = true ∧ (e.on = i ∨ (acc.getD e.on 0).testBit i = true)
  | [], s, h => .inl h
  | e :: l, s, h => by
    simp only [List.foldl_cons] at h
    rcases mask_ok acc i l _ h with h1 | ⟨e', he', h1⟩
    · split at h1
      · rename_i hb
        simp only [Nat.testBit_or, Bool.or_eq_true, Nat.testBit_two_pow, decide_eq_true_eq] at h1
        rcases h1 with (h1 | h1) | h1
        · exact .inl h1
        · exact .inr ⟨e, by simp, hb, .inl h1⟩
        · exact .inr ⟨e, by simp, hb, .inr h1⟩
      · exact .inl h1
    · exact .inr ⟨e', by simp [he'], h1⟩

theorem anc_go {ops : Array Oper} {S : Nat → Bool} (hc : Closed ops S) : ∀ (os : List Oper) (acc pre : List Oper) (m : List Nat), ops.toList = pre ++ os → m.length = pre.length →
    (∀ j o, ops[j]? = some o → j < m.length → (∀ e ∈ o.after, Region.binds .any e = true → S e.on = true) → ∀ i, (m.getD j 0).testBit i = true → S i = true) →
    ∀ j o, ops[j]? = some o → (∀ e ∈ o.after, Region.binds .any e = true → S e.on = true) → ∀ i, ((ancGo os m).getD j 0).testBit i = true → S i = true
  | [], acc, pre, m, hp, hl, hm, j, o, hj, he, i, hi => by
    simp only [ancGo] at hi
    refine hm j o hj ?_ he i hi
    have hlt := (Array.getElem?_eq_some_iff.1 hj).1
    have : ops.toList.length = pre.length := by rw [hp]; simp
    simp at this
    omega
  | o' :: os, acc, pre, m, hp, hl, hm, j, o, hj, he, i, hi => by
    simp only [ancGo] at hi
    refine anc_go hc os acc (pre ++ [o']) (m ++ [maskOf m o'.after.toList]) (by rw [hp]; simp) (by simp [hl]) ?_ j o hj he i hi
    intro j o hj hlt he i hi
    simp only [List.length_append, List.length_cons, List.length_nil] at hlt
    by_cases hjm : j < m.length
    · rw [List.getD_eq_getElem?_getD, List.getElem?_append_left hjm, ← List.getD_eq_getElem?_getD] at hi
      exact hm j o hj hjm he i hi
    · have hje : j = m.length := by omega
      subst hje
      rw [List.getD_eq_getElem?_getD, List.getElem?_append_right (by omega)] at hi
      simp only [Nat.sub_self, List.getElem?_cons_zero, Option.getD_some] at hi
      have ho : o = o' := by
        have h1 : ops.toList[m.length]? = some o := by simpa using hj
        rw [hp, hl, List.getElem?_append_right (by omega)] at h1
        simpa using h1.symm
      subst ho
      unfold maskOf at hi
      rcases mask_ok m i _ 0 hi with h1 | ⟨e, he', hb, h1⟩
      · simp at h1
      · have hS := he e (by simpa using he') hb
        rcases h1 with rfl | h1
        · exact hS
        · have hk : e.on < m.length := by
            rcases Nat.lt_or_ge e.on m.length with h2 | h2
            · exact h2
            · rw [List.getD_eq_getElem?_getD, List.getElem?_eq_none (by omega)] at h1
              simp at h1
          have hsz : m.length < ops.size := (Array.getElem?_eq_some_iff.1 hj).1
          have hon : ops[e.on]? = some (ops[e.on]'(by omega)) := Array.getElem?_eq_getElem (by omega)
          exact hm e.on _ hon hk (hc e.on _ hon hS) i h1

theorem anc_ok {ops : Array Oper} {S : Nat → Bool} (hc : Closed ops S) (j : Nat) (o : Oper) (hj : ops[j]? = some o) (he : ∀ e ∈ o.after, Region.binds .any e = true → S e.on = true) (i : Nat)
    (hi : ((ancGo ops.toList []).getD j 0).testBit i = true) : S i = true :=
  anc_go hc ops.toList [] [] [] (by simp) rfl (fun j o _ h => absurd h (by simp)) j o hj he i hi
end Go.VM
set_option autoImplicit false
set_option linter.all false
namespace Go.VM
open Go Go.Lib
variable {B : Nat × Bool}

/-! ### 1. What a set of operations has left -/
def swS (s0 : St) (S : Nat → Bool) : List Ent → Nat → Option V
  | [], t => lookA s0.sl t
  | e :: es, t => if S e.i = true ∧ e.o.dst = some t ∧ t < s0.n then some e.l.x else swS s0 S es t

def hwS (s0 : St) (S : Nat → Bool) : List Ent → Nat → Option Ob
  | [], id => lookA s0.hp id
  | e :: es, id => if S e.i = true then (match e.l.tch e.f id with | some r => r | none => hwS s0 S es id) else hwS s0 S es id

theorem look_put (s : St) (dst : Option Nat) (x : V) (t : Nat) : lookA (s.put dst x).sl t = if dst = some t ∧ t < s.n then some x else lookA s.sl t := by
  cases dst with
  | none => simp [St.put]
  | some d =>
    unfold St.put
    simp only
    split
    · rename_i hd
      have hd' : d < s.n := Nat.le_of_ble_eq_true hd
      simp only [lookA_setA, Option.some.injEq]
      by_cases h : t = d
      · subst h; simp [hd']
      · have h' : ¬ d = t := fun e => h e.symm
        simp [h, h']
    · rename_i hd
      have hd' : ¬ d < s.n := fun h => hd (Nat.ble_eq_true_of_le h)
      rw [if_neg]
      rintro ⟨h1, h2⟩
      cases h1; exact hd' h2
theorem put_hp (s : St) (dst : Option Nat) (x : V) : (s.put dst x).hp = s.hp ∧ (s.put dst x).n = s.n ∧ (s.put dst x).nx = s.nx := by
  cases dst with
  | none => exact ⟨rfl, rfl, rfl⟩
  | some d => unfold St.put; simp only; split <;> exact ⟨rfl, rfl, rfl⟩

theorem sw_congr {s0 : St} {S S' : Nat → Bool} {t : Nat} : ∀ es : List Ent, (∀ e ∈ es, e.o.dst = some t → t < s0.n → S e.i = S' e.i) → swS s0 S es t = swS s0 S' es t
  | [], _ => rfl
  | e :: es, h => by
    simp only [swS]
    rw [sw_congr es (fun e' he' => h e' (by simp [he']))]
    by_cases hd : e.o.dst = some t ∧ t < s0.n
    · rw [h e (by simp) hd.1 hd.2]
    · have h1 : ¬ (S e.i = true ∧ e.o.dst = some t ∧ t < s0.n) := fun hh => hd hh.2
      have h2 : ¬ (S' e.i = true ∧ e.o.dst = some t ∧ t < s0.n) := fun hh => hd hh.2
      rw [if_neg h1, if_neg h2]

theorem sw_skip {s0 : St} {S : Nat → Bool} {t : Nat} {r : List Ent} : ∀ es : List Ent, (∀ e ∈ es, S e.i = true → e.o.dst ≠ some t) → swS s0 S (es ++ r) t = swS s0 S r t
  | [], _ => rfl
  | e :: es, h => by
    simp only [List.cons_append, swS]
    rw [if_neg (fun hh => h e (by simp) hh.1 hh.2.1)]
    exact sw_skip es (fun e' he' => h e' (by simp [he']))

theorem hw_congr {s0 : St} {S S' : Nat → Bool} {id : Nat} : ∀ es : List Ent, (∀ e ∈ es, e.l.tch e.f id ≠ none → S e.i = S' e.i) → hwS s0 S es id = hwS s0 S' es id
  | [], _ => rfl
  | e :: es, h => by
    simp only [hwS]
    rw [hw_congr es (fun e' he' => h e' (by simp [he']))]
    cases ht : e.l.tch e.f id with
    | none => simp
    | some r => rw [h e (by simp) (by rw [ht]; simp)]

theorem hw_skip {s0 : St} {S : Nat → Bool} {id : Nat} {r : List Ent} : ∀ es : List Ent, (∀ e ∈ es, S e.i = true → e.l.tch e.f id = none) → hwS s0 S (es ++ r) id = hwS s0 S r id
  | [], _ => rfl
  | e :: es, h => by
    simp only [List.cons_append, hwS]
    rw [hw_skip es (fun e' he' => h e' (by simp [he']))]
    by_cases hS : S e.i = true
    · rw [if_pos hS, h e (by simp) hS]
    · rw [if_neg hS]

section
variable {P : Program} {E : Ev} {spc : Spc} {ops : Array Oper} {anc : List Nat} {s0 : St}

theorem Tr.look : ∀ (es : List Ent) (s : St), Tr Lv.std E spc ops anc s0 es s → s.n = s0.n ∧ s0.nx ≤ s.nx ∧ (∀ t, lookA s.sl t = swS s0 (fun _ => true) es t) ∧ (∀ id, lookA s.hp id = hwS s0 (fun _ => true) es id) ∧
    ∀ e ∈ es, s0.nx ≤ e.f ∧ e.f ≤ s.nx ∧ (e.l.nw.isSome = true → e.f < s.nx)
  | [], s, h => by cases h; exact ⟨rfl, Nat.le_refl _, fun _ => rfl, fun _ => rfl, fun e he => by cases he⟩
  | e :: es, s, h => by
    obtain ⟨s1, h1, h2, h3, h4, h5, rfl⟩ := h
    obtain ⟨q1, q2, q3, q4, q5⟩ := Tr.look es s1 h1
    unfold Leaf.st
    obtain ⟨p1, p2, p3⟩ := put_hp { s1 with hp := e.l.hp s1.nx s1.hp, nx := e.l.nx s1.nx } e.o.dst e.l.x
    have hnx : s1.nx ≤ e.l.nx s1.nx ∧ (e.l.nw.isSome = true → s1.nx < e.l.nx s1.nx) := by
      unfold Leaf.nx
      cases e.l.nw <;> simp
    refine ⟨by rw [p2]; exact q1, by rw [p3]; exact Nat.le_trans q2 hnx.1, fun t => ?_, fun id => ?_, fun e' he' => ?_⟩
    · rw [look_put]
      simp only [swS, true_and]
      show (if e.o.dst = some t ∧ t < s1.n then _ else lookA s1.sl t) = _
      rw [q1, q3]
    · rw [p1]
      show lookA (e.l.hp s1.nx s1.hp) id = _
      rw [Leaf.look_hp]
      simp only [hwS, if_true, h3, q4]
      all_goals (cases e.l.tch s1.nx id <;> rfl)
    · rw [p3]
      rcases List.mem_cons.1 he' with rfl | he'
      · rw [h3]; exact ⟨q2, hnx.1, hnx.2⟩
      · obtain ⟨r1, r2, r3⟩ := q5 e' he'
        exact ⟨r1, Nat.le_trans r2 hnx.1, fun hn => Nat.lt_of_lt_of_le (r3 hn) hnx.1⟩

/-- An entry of the trace, with what stands before and behind it. -/
theorem Tr.split : ∀ (tr : List Ent) (s : St), Tr Lv.std E spc ops anc s0 tr s → ∀ e ∈ tr, ∃ es2 es1 s1, tr = es2 ++ e :: es1 ∧ Tr Lv.std E spc ops anc s0 es1 s1 ∧ ops[e.i]? = some e.o ∧ e.f = s1.nx ∧
    (∀ e' ∈ es1, e'.i ≠ e.i ∧ PairOk ops anc e e') ∧ ((guardB ops e.o s1 true ∧ Yld Lv.std E spc e.o e.used s1 e.l) ∨ (guardB ops e.o s1 false ∧ e.l = ⟨.c .sk, none, [], none⟩)) ∧
    (∀ e2 ∈ es2, e.i ≠ e2.i ∧ PairOk ops anc e2 e ∧ ops[e2.i]? = some e2.o) ∧ e.l.nx e.f ≤ s.nx ∧ ∀ e2 ∈ es2, e.l.nx e.f ≤ e2.f
  | [], s, h, e, he => by cases he
  | x :: tr, s, h, e, he => by
    obtain ⟨s1, h1, h2, h3, h4, h5, rfl⟩ := h
    have hs : (x.l.st s1 x.o.dst).nx = x.l.nx s1.nx := (put_hp _ _ _).2.2
    rcases List.mem_cons.1 he with rfl | he
    · exact ⟨[], tr, s1, rfl, h1, h2, h3, h4, h5, fun _ h => (by cases h), by rw [hs, h3]; exact Nat.le_refl _, fun _ h => by cases h⟩
    · obtain ⟨es2, es1, s2, rfl, q1, q2, q3, q4, q5, q6, q7, q8⟩ := Tr.split tr s1 h1 e he
      refine ⟨x :: es2, es1, s2, rfl, q1, q2, q3, q4, q5, fun e2 he2 => ?_, ?_, fun e2 he2 => ?_⟩
      · rcases List.mem_cons.1 he2 with rfl | he2
        · exact ⟨(h4 e (by simp)).1, (h4 e (by simp)).2, h2⟩
        · exact q6 e2 he2
      · rw [hs]
        refine Nat.le_trans q7 ?_
        unfold Leaf.nx
        cases x.l.nw <;> simp
      · rcases List.mem_cons.1 he2 with rfl | he2
        · rw [h3]; exact q7
        · exact q8 e2 he2

/-! ### 2. The invariant -/
def Inv (B : Nat × Bool) (P : Program) (s0 : St) (φ0 : Phi) (w0 : World) (tr : List Ent) (N : Nat) (S : Nat → Bool) (a : Act) (w : World) : Prop := ∃ φ sS,
  sS.n = s0.n ∧ sS.nx = N ∧ (∀ t, lookA sS.sl t = swS s0 S tr t) ∧ (∀ id, lookA sS.hp id = hwS s0 S tr id) ∧ Rel B φ sS a w ∧ Evo φ0 s0.hp w0 φ sS.hp w ∧
  ∀ id, φ id ≠ none → id < s0.nx ∨ ∃ e ∈ tr, S e.i = true ∧ e.l.nw.isSome = true ∧ e.f = id

variable {φ0 : Phi} {w0 : World} {tr es2 es1 : List Ent} {e : Ent} {N : Nat} {S S' : Nat → Bool}

theorem inv_after (hN : e.l.nx e.f ≤ N) (htr : tr = es2 ++ e :: es1) (hc : Closed ops S) (hanc : anc = ancGo ops.toList []) (hn : S e.i = false) (h2 : ∀ e2 ∈ es2, e.i ≠ e2.i ∧ PairOk ops anc e2 e ∧ ops[e2.i]? = some e2.o) (h1 : ∀ e' ∈ es1, e'.i ≠ e.i ∧ PairOk ops anc e e')
    (hS' : ∀ j, S' j = (S j || j == e.i)) {φ : Phi} {sS : St} {a : Act} {w w' : World} {v : Value} (r1 : sS.n = s0.n) (r3 : ∀ t, lookA sS.sl t = swS s0 S tr t) (r4 : ∀ id, lookA sS.hp id = hwS s0 S tr id) (r5 : Rel B φ sS a w)
    (r6 : Evo φ0 s0.hp w0 φ sS.hp w) (r7 : ∀ id, φ id ≠ none → id < s0.nx ∨ ∃ e ∈ tr, S e.i = true ∧ e.l.nw.isSome = true ∧ e.f = id) (hl : LeafOk φ sS.hp w e.f N e.l v w') : Inv B P s0 φ0 w0 tr N S' (a.put e.o.dst v) w' := by
  obtain ⟨φ', hp', l1, l2, l3, l4, l5⟩ := hl
  obtain ⟨p1, p2, p3⟩ := r5.put hp' N l2 l3 e.o.dst e.l.x v l4
  have hSe : S' e.i = true := by rw [hS']; simp
  have hSo : ∀ e' : Ent, e'.i ≠ e.i → S' e'.i = S e'.i := fun e' h => by
    rw [hS']
    have : (e'.i == e.i) = false := by simpa using h
    rw [this, Bool.or_false]
  -- those behind it that are done are apart from it
  have hap : ∀ e2 ∈ es2, S e2.i = true → Oper.apart ops e2.o e.o = true ∧ (∀ id, e2.l.tch e2.f id = none ∨ e.l.tch e.f id = none) := fun e2 he2 hs2 => by
    obtain ⟨_, q2, q3⟩ := h2 e2 he2
    rcases q2 with q2 | q2
    · rw [hanc] at q2
      have := anc_ok hc e2.i e2.o q3 (hc e2.i e2.o q3 hs2) e.i q2
      rw [hn] at this; cases this
    · exact ⟨q2.1, q2.2.2.2.1⟩
  refine ⟨φ', _, by rw [p3]; exact r1, (put_hp _ _ _).2.2, fun t => ?_, fun id => ?_, p1, by rw [p2]; exact r6.trans l3, fun id hid => ?_⟩
  · rw [look_put]
    show (if e.o.dst = some t ∧ t < sS.n then some e.l.x else lookA sS.sl t) = _
    rw [r1, r3, htr]
    by_cases hd : e.o.dst = some t ∧ t < s0.n
    · rw [if_pos hd, sw_skip es2]
      · simp only [swS]
        rw [if_pos ⟨hSe, hd.1, hd.2⟩]
      · intro e2 he2 hs2 hdst
        rw [hSo e2 (Ne.symm (h2 e2 he2).1)] at hs2
        obtain ⟨_, q, _⟩ := Oper.apart_spec (hap e2 he2 hs2).1
        exact q t hdst hd.1
    · rw [if_neg hd]
      refine sw_congr _ fun e' he' hdst hlt => ?_
      by_cases hee : e'.i = e.i
      · exfalso
        rcases List.mem_append.1 he' with hm | hm
        · exact (h2 e' hm).1 hee.symm
        · rcases List.mem_cons.1 hm with rfl | hm
          · exact hd ⟨hdst, hlt⟩
          · exact (h1 e' hm).1 hee
      · exact (hSo e' hee).symm
  · rw [p2, l1, Leaf.look_hp, r4, htr]
    cases ht : e.l.tch e.f id with
    | some r =>
      simp only
      rw [hw_skip es2]
      · simp only [hwS, if_pos hSe, ht]
      · intro e2 he2 hs2
        rw [hSo e2 (Ne.symm (h2 e2 he2).1)] at hs2
        rcases (hap e2 he2 hs2).2 id with q | q
        · exact q
        · rw [ht] at q; cases q
    | none =>
      simp only
      refine hw_congr _ fun e' he' hne => ?_
      by_cases hee : e'.i = e.i
      · exfalso
        rcases List.mem_append.1 he' with hm | hm
        · exact (h2 e' hm).1 hee.symm
        · rcases List.mem_cons.1 hm with rfl | hm
          · exact hne ht
          · exact (h1 e' hm).1 hee
      · exact (hSo e' hee).symm
  · rcases l5 id hid with q | ⟨q1, q2⟩
    · rcases r7 id q with q | ⟨e', m1, m2, m3, m4⟩
      · exact .inl q
      · exact .inr ⟨e', m1, by rw [hS', m2]; rfl, m3, m4⟩
    · exact .inr ⟨e, by rw [htr]; simp, hSe, q1, q2.symm⟩

theorem LeafOk.num {φ : Phi} {hp : Hp} {w w' : World} {f f' nx : Nat} {l : Leaf} {v : Value} (hn : l.nw = none) (h : LeafOk φ hp w f nx l v w') : LeafOk φ hp w f' nx l v w' := by
  obtain ⟨φ', hp', h1, h2, h3, h4, h5⟩ := h
  refine ⟨φ', hp', fun id => ?_, h2, h3, h4, fun id hid => (h5 id hid).imp_right fun h => ?_⟩
  · rw [h1]
    unfold Leaf.hp
    rw [hn]
  · rw [hn] at h; cases h.1

theorem LeafOk.le {φ : Phi} {hp : Hp} {w w' : World} {f nx nx' : Nat} {l : Leaf} {v : Value} (hl : nx ≤ nx') (h : LeafOk φ hp w f nx l v w') : LeafOk φ hp w f nx' l v w' := by
  obtain ⟨φ', hp', h1, h2, h3, h4, h5⟩ := h
  exact ⟨φ', hp', h1, h2.le hl, h3, h4, h5⟩

theorem alloc_of {op : Op} (h : isAlloc op = true) : ∃ t, op = .alloc t := by
  cases op <;> simp [isAlloc] at h
  exact ⟨_, rfl⟩

theorem inv_step {F : Fence} {m : Nat} (hF : FOk F) (hE : ∀ t i, E t = some i → TIok P t i) (hspc : ∀ g x, spc g = some x → XOk P g x) (hanc : anc = ancGo ops.toList []) {sE : St} (ht : Tr Lv.std E spc ops anc s0 tr sE) (hc : Closed ops S) (he : e ∈ tr) (hn : S e.i = false)
    (hed : ∀ x ∈ e.o.after, Region.binds .any x = true → S x.on = true) {a : Act} {w : World} (hi : Inv B P s0 φ0 w0 tr sE.nx S a w) (hS' : ∀ j, S' j = (S j || j == e.i)) {K : Act → World → Prop} {Q : Exit → Act → World → Prop}
    (hK : ∀ a' w', Inv B P s0 φ0 w0 tr sE.nx S' a' w' → K a' w') : wpOpIn F m P ops Q e.i K a w := by
  obtain ⟨es2, es1, s1, htr, t1, t2, t3, t4, t5, t6, t7, t8⟩ := Tr.split tr sE ht e he
  obtain ⟨φ, sS, r1, r2, r3, r4, r5, r6, r7⟩ := hi
  obtain ⟨c1, c2, c3, c4, c5⟩ := Tr.look es1 s1 t1
  have hA : ∀ e' ∈ es1, S e'.i = false → Oper.apart ops e.o e'.o = true ∧ (∀ id, memN id e.used = true → e'.l.tch e'.f id = none) := fun e' he' hs => by
    rcases (t4 e' he').2 with q | q
    · rw [hanc] at q
      have := anc_ok hc e.i e.o t2 hed e'.i q
      rw [hs] at this; cases this
    · exact ⟨q.1, q.2.1⟩
  have hB : ∀ e2 ∈ es2, S e2.i = true → Oper.apart ops e2.o e.o = true ∧ (∀ id, memN id e.used = true → e2.l.tch e2.f id = none) ∧ (e2.l.nw.isSome = true → e.l.nw.isSome = true → isAlloc e.o.op = true) := fun e2 he2 hs2 => by
    obtain ⟨_, q2, q3⟩ := t6 e2 he2
    rcases q2 with q2 | q2
    · rw [hanc] at q2
      have := anc_ok hc e2.i e2.o q3 (hc e2.i e2.o q3 hs2) e.i q2
      rw [hn] at this; cases this
    · exact ⟨q2.1, q2.2.2.1, q2.2.2.2.2⟩
  have hsl : ∀ t, t ∈ e.o.looksAt ops → lookA sS.sl t = lookA s1.sl t := fun t htl => by
    rw [r3, c3, htr, sw_skip es2]
    · simp only [swS, hn, Bool.false_eq_true, false_and, if_false]
      refine sw_congr _ fun e' he' hdst hlt => ?_
      cases hs : S e'.i with
      | true => rfl
      | false =>
        exfalso
        obtain ⟨_, _, q⟩ := Oper.apart_spec (hA e' he' hs).1
        exact q t hdst htl
    · intro e2 he2 hs2 hdst
      obtain ⟨q, _, _⟩ := Oper.apart_spec (hB e2 he2 hs2).1
      exact q t hdst htl
  have hhp : ∀ id, memN id e.used = true → lookA sS.hp id = lookA s1.hp id := fun id hid => by
    rw [r4, c4, htr, hw_skip es2 (fun e2 he2 hs2 => (hB e2 he2 hs2).2.1 id hid)]
    simp only [hwS, hn, Bool.false_eq_true, if_false]
    refine hw_congr _ fun e' he' hne => ?_
    cases hs : S e'.i with
    | true => rfl
    | false => exact absurd ((hA e' he' hs).2 id hid) hne
  have hev : ∀ x, x ∈ e.o.op.operands.toList → sS.ev x = s1.ev x := fun x hx => by
    cases x with
    | tmp t =>
      show sS.look t = s1.look t
      unfold St.look
      rw [hsl t (List.mem_append_left _ (List.mem_filterMap.2 ⟨.tmp t, hx, rfl⟩))]
    | _ => rfl
  have hg : ∀ b, guardB ops e.o s1 b → guardB ops e.o sS b := fun b hb => by
    unfold guardB at hb ⊢
    cases hgd : e.o.guard with
    | none => rw [hgd] at hb; exact hb
    | some p =>
      obtain ⟨j, want⟩ := p
      rw [hgd] at hb
      obtain ⟨t, q1, q2⟩ := hb
      have : sS.look t = s1.look t := by
        unfold St.look
        rw [hsl t (List.mem_append_right _ (by simp [hgd, q1]))]
      exact ⟨t, q1, by rw [this]; exact q2⟩
  have after : ∀ v w', LeafOk φ sS.hp w e.f sE.nx e.l v w' → K (a.put e.o.dst v) w' := fun v w' hl =>
    hK _ _ (inv_after t7 htr hc hanc hn t6 t4 hS' r1 r3 r4 r5 r6 r7 hl)
  unfold wpOpIn
  simp only [t2]
  rcases t5 with ⟨g1, hy⟩ | ⟨g1, hl⟩
  · rw [guardB_wanted r5 (hg _ g1), if_pos rfl]
    refine ⟨fun f _ => hF.fn f, ?_⟩
    have hargs : ∀ as : List Operand, (∀ x ∈ as, x ∈ e.o.op.operands.toList) → as.map sS.ev = as.map s1.ev := fun as has => List.map_congr_left fun x hx => hev x (has x hx)
    have hle : HLe (hR e.used s1.hp) (lookA sS.hp) := fun id o hid => by
      unfold hR at hid
      cases hm : memN id e.used with
      | true => rw [hm] at hid; rw [hhp id hm]; exact hid
      | false => rw [hm] at hid; cases hid
    have hfree : isAlloc e.o.op = false → e.l.nw.isSome = true → HRel φ sS.hp e.f w := fun hal hnw => ⟨r5.h.ob, fun id hid => by
      cases hφ : φ id with
      | none => rfl
      | some p =>
        exfalso
        rcases r7 id (by rw [hφ]; simp) with q | ⟨e', m1, m2, m3, m4⟩
        · have : s0.nx ≤ e.f := by rw [t3]; exact c2
          omega
        · rw [htr] at m1
          rcases List.mem_append.1 m1 with m1 | m1
          · have := (hB e' m1 m2).2.2 m3 hnw
            rw [hal] at this; cases this
          · rcases List.mem_cons.1 m1 with rfl | m1
            · rw [m2] at hn; cases hn
            · have := (c5 e' m1).2.2 m3
              omega, r5.h.dj⟩
    rcases hy with ⟨f, as, ts, g, caps, x, ho, hf, hsp, hy⟩ | hy
    · have hf' : sS.ev f = .c (.fn g caps) := by rw [hev f (by rw [ho]; simp [Op.operands, Call.operands])]; exact hf
      have has : as.toList.map sS.ev = as.toList.map s1.ev := hargs _ fun x hx => by rw [ho]; simp [Op.operands, Call.operands]; exact .inr (by simpa using hx)
      have hs := hspc g x hsp
      have hy2 : FRl (x.fr Lv.std (lookA sS.hp) e.f (as.toList.map sS.ev ++ caps.map fun id => .c (.ptr id 0))) e.l := by
        rw [has, t3]
        rcases hs.mono Lv.std _ _ s1.nx (as.toList.map s1.ev ++ caps.map fun id => .c (.ptr id 0)) hle with q | q
        · rw [q] at hy; exact hy.elim
        · rw [q]; exact hy
      have hal : isAlloc e.o.op = false := by rw [ho]; rfl
      have hv : Vrel φ (okb φ sS.hp) w (.c (.fn g caps)) (a.eval f) := by rw [← hf']; exact ev_ok r5 f
      obtain ⟨vs0, hv1, hv2⟩ := hv
      have hargv : L2 (Vrel φ (okb φ sS.hp) w) (as.toList.map sS.ev ++ caps.map fun id => .c (.ptr id 0)) (as.toList.map a.eval ++ vs0) := L2_append (evs_ok r5 as.toList) (L2_ptrs caps vs0 hv2)
      have hcall : Calls P g (as.toList.map a.eval ++ vs0).toArray w fun en w' => ∃ v, en = .returned v ∧ LeafOk φ sS.hp w e.f sE.nx e.l v w' := by
        cases hnw : e.l.nw with
        | none =>
          refine (hs.run φ sS.hp sE.nx w _ _ e.l (by rw [← r2]; exact r5.h) hargv (hs.num _ _ _ _ _ _ hy2 hnw)).mono fun en w' hen => ?_
          obtain ⟨v, rfl, hlo⟩ := hen
          refine ⟨v, rfl, (hlo.num hnw).le ?_⟩
          unfold Leaf.nx; rw [hnw]; exact Nat.le_refl _
        | some ob =>
          refine (hs.run φ sS.hp e.f w _ _ e.l (hfree hal (by rw [hnw]; rfl)) hargv hy2).mono fun en w' hen => ?_
          obtain ⟨v, rfl, hlo⟩ := hen
          exact ⟨v, rfl, hlo.le t7⟩
      obtain ⟨fn, q1, q2, q3⟩ := hs.has
      have e1 : (as.toList.map a.eval ++ vs0).toArray = as.map a.eval ++ List.toArray vs0 := by apply Array.ext'; simp
      rw [e1] at hcall
      rw [Oper.semAt_eq _ _ _ (fun c q => by rw [ho] at q; cases q)]
      have hx : (execOp a.eval e.o).run P w = .ok (.enter g (as.map a.eval ++ List.toArray vs0)) w := by
        unfold execOp
        simp only [ho, resolve, Sem.run_bind, hv1, Deferred.ofValue, Sem.run_pure, Result.andThen_ok, invoke, Array.empty_append, Array.append_empty]
        exact run_callFunc q1 q2 q3
      rw [hx, Oper.uponIn_enter]
      refine ⟨hF.dp, hF.calls (hcall.mono fun en w' hen => ?_)⟩
      obtain ⟨v, rfl, hlo⟩ := hen
      exact after v w' hlo
    · have hy2 : FRl (opFR Lv.std E (lookA sS.hp) e.f sS.ev e.o.op) e.l := by
        rw [opFR_ev Lv.std E (lookA sS.hp) e.f e.o.op hev, t3]
        rcases opFR_mono Lv.std E hle s1.nx s1.ev e.o.op with q | q
        · rw [q] at hy; exact hy.elim
        · rw [q]; exact hy
      rw [Oper.semAt_eq _ _ _ (fun c q => by rw [q] at hy2; exact hy2)]
      have run : ∀ f nx, HRel φ sS.hp f w → FRl (opFR Lv.std E (lookA sS.hp) f sS.ev e.o.op) e.l → e.l.nx f ≤ nx → (∀ v w', LeafOk φ sS.hp w f nx e.l v w' → LeafOk φ sS.hp w e.f sE.nx e.l v w') → e.o.uponIn F m P a K Q ((execOp a.eval e.o).run P w) := fun f nx hh hfr hle conv => by
        obtain ⟨rv, k1, k2⟩ := op_ok (P := P) (w := w) hE hh (ev_ok r5) e.o
        obtain ⟨v, w', k3, k4⟩ := fr_leaf _ hfr k1
        have k5 := after v w' (conv v w' (k4.le hle))
        rcases k2 v w' k3 with k6 | ⟨k6, rfl⟩
        · rw [k6]; exact k5
        · rw [k6]; exact k5
      cases hal : isAlloc e.o.op with
      | true =>
        obtain ⟨t, hot⟩ := alloc_of hal
        rw [hot] at hy2
        simp only [opFR] at hy2
        have hnw : e.l.nw.isSome = true := by
          unfold falloc at hy2
          split at hy2
          · rw [hy2]; rfl
          · exact hy2.elim
        have hnx1 : e.l.nx e.f = e.f + 1 := by
          unfold Leaf.nx
          cases hq : e.l.nw with
          | none => rw [hq] at hnw; cases hnw
          | some _ => rfl
        have hfr : φ e.f = none := by
          cases hφ : φ e.f with
          | none => rfl
          | some p =>
            exfalso
            rcases r7 e.f (by rw [hφ]; simp) with q | ⟨e', m1, m2, m3, m4⟩
            · have : s0.nx ≤ e.f := by rw [t3]; exact c2
              omega
            · rw [htr] at m1
              rcases List.mem_append.1 m1 with m1 | m1
              · -- e' is behind e: its number is greater
                have := t8 e' m1
                rw [hnx1] at this
                omega
              · rcases List.mem_cons.1 m1 with rfl | m1
                · rw [m2] at hn; cases hn
                · have := (c5 e' m1).2.2 m3
                  rw [t3] at m4; omega
        have hlt : e.f < sE.nx := by
          omega
        obtain ⟨v, w', k3, k4⟩ := alloc_any (P := P) hE (r5.h) hfr (by rw [r2]; exact hlt) t (.tuple #[]) hy2
        rw [r2] at k4
        have k5 := after v w' k4
        have : (execOp a.eval e.o).run P w = .ok (.value v) w' := by
          unfold execOp
          simp only [hot]
          exact run_val k3
        rw [this]; exact k5
      | false =>
        cases hnw : e.l.nw with
        | none =>
          refine run sE.nx sE.nx (by rw [← r2]; exact r5.h) (opFR_num _ _ _ _ _ _ _ hy2 hnw) ?_ (fun v w' h => h.num hnw)
          unfold Leaf.nx; rw [hnw]; exact Nat.le_refl _
        | some o =>
          exact run e.f sE.nx (hfree hal (by rw [hnw]; rfl)) hy2 t7 (fun v w' h => h)
  · rw [guardB_wanted r5 (hg _ g1), if_neg (by simp)]
    refine ⟨fun f _ => hF.fn f, after undef w ?_⟩
    rw [hl]
    refine ⟨φ, sS.hp, fun id => rfl, by rw [← r2]; exact r5.h, Evo.refl _ _ _, rfl, fun id hid => .inl hid⟩
end
end Go.VM
set_option autoImplicit false
set_option linter.all false
namespace Go.VM
open Go Go.Lib
variable {B : Nat × Bool}

def unl : List Bool → Nat
  | [] => 0
  | true :: l => unl l
  | false :: l => unl l + 1

theorem unl_set : ∀ (l : List Bool) (i : Nat), l[i]? = some false → unl (l.set i true) + 1 = unl l
  | [], i, h => by simp at h
  | b :: l, 0, h => by simp at h; subst h; simp [unl]
  | b :: l, i + 1, h => by
    simp at h
    have := unl_set l i h
    cases b <;> simp [unl] <;> omega

theorem unl_zero : ∀ (l : List Bool), unl l = 0 → ∀ i, i < l.length → l[i]? = some true
  | [], _, i, hi => by simp at hi
  | true :: l, h, 0, _ => rfl
  | true :: l, h, i + 1, hi => by simpa using unl_zero l (by simpa [unl] using h) i (by simpa using hi)
  | false :: l, h, _, _ => by simp [unl] at h

section
variable {P : Program} {E : Ev} {spc : Spc} {ops : Array Oper}

theorem getD_setB (arr : Array Bool) (i j : Nat) (hi : i < arr.size) : (arr.setIfInBounds i true).getD j false = (arr.getD j false || j == i) := by
  simp only [Array.getD_eq_getD_getElem?, Array.getElem?_setIfInBounds]
  by_cases h : i = j
  · subst h; simp [hi]
  · have : (j == i) = false := by simpa using fun e => h e.symm
    simp [h, this]

theorem draw_sound {F : Fence} {m : Nat} (hF : FOk F) (hm : P.follows .mixedOrders = true) (hE : ∀ t i, E t = some i → TIok P t i) (hspc : ∀ g x, spc g = some x → XOk P g x) {plan : List (Nat × List Nat)} (hpl : planOk ops plan = true)
    (id : Nat) (φ : Phi) (s : St) (a : Act) (w : World) (k : St → VC) (Q : Exit → Act → World → Prop) (h : (drawGo Lv.std E spc ops plan [] s k).holds) (hr : Rel B φ s a w) (hQ : ∀ a' w', Ends B φ s.hp w s.n k a' w' → Q .normal a' w') :
    (Code.region id ops true).wpIn F m P Q a w := by
  unfold planOk at hpl
  simp only [Bool.and_eq_true, List.all_eq_true, List.mem_range] at hpl
  obtain ⟨⟨hback, hgo⟩, hcov⟩ := hpl
  obtain ⟨tr, sE, ht, hk, hall⟩ := drawGo_tr (anc := ancGo ops.toList []) (s0 := s) plan [] [] [] s hgo rfl trivial h rfl
  have hcov' : ∀ i, i < ops.size → ∃ e ∈ tr, e.i = i := fun i hi => hall i (.inl (hcov i hi))
  obtain ⟨d1, d2, d3, d4, d5⟩ := Tr.look tr sE ht
  have hback' : ∀ (i : Nat) (o : Oper), ops[i]? = some o → ∀ e ∈ o.after, Region.binds .any e = true → e.on < i := fun i o ho e he hb => by
    have hlt := (Array.getElem?_eq_some_iff.1 ho).1
    unfold edgesBack at hback
    rw [List.all_eq_true] at hback
    have := hback i (by simpa using hlt)
    rw [ho] at this
    simp only [List.all_eq_true, Bool.or_eq_true, Bool.not_eq_true'] at this
    rcases this e (by simpa using he) with q | q
    · rw [hb] at q; cases q
    · exact Nat.le_of_ble_eq_true q
  refine wpIn_region_any hm ?_
  let w1 : World := { w with drawn := w.drawn + 1 }
  have hbel : Go.RowKit.Below w.heap.size w w1 := (Go.RowKit.Below.refl _ w).drew
  obtain ⟨hh1, ev1⟩ := below_h hr.h hbel
  have key : ∀ (n : Nat) (arr : Array Bool) (a : Act) (w' : World), arr.size = ops.size → unl arr.toList ≤ n → Closed ops (fun j => arr.getD j false) → Inv B P s φ w tr sE.nx (fun j => arr.getD j false) a w' → wpAnyIn F m P .any ops Q n arr a w' := by
    have done : ∀ (arr : Array Bool) (a : Act) (w' : World), (∀ i, i < ops.size → arr.getD i false = true) → Inv B P s φ w tr sE.nx (fun j => arr.getD j false) a w' → Q .normal a w' := by
      rintro arr a w' hal ⟨φ', sS, r1, r2, r3, r4, r5, r6, r7⟩
      have hS : ∀ e ∈ tr, arr.getD e.i false = true := fun e he => by
        obtain ⟨es2, es1, s1, htr, t1, t2, _⟩ := Tr.split tr sE ht e he
        exact hal e.i (Array.getElem?_eq_some_iff.1 t2).1
      have hsl : ∀ t, lookA sE.sl t = lookA sS.sl t := fun t => by
        rw [d3, r3]
        exact sw_congr tr fun e he _ _ => (hS e he).symm
      have hhp : ∀ id, lookA sE.hp id = lookA sS.hp id := fun id => by
        rw [d4, r4]
        exact hw_congr tr fun e he _ => (hS e he).symm
      have hok : ∀ b, okb φ' sS.hp b → okb φ' sE.hp b := fun b hb => (okb_congr hhp).2 hb
      refine hQ a w' ⟨φ', sE, ⟨?_, r5.bs, ?_, fun j v hj => ?_, fun id o ho => ?_, ?_, fun i j o o' p q b h1 h2 => ?_⟩, ⟨r6.os, r6.tape, r6.output, r6.size, r6.ph, fun id o p b h1 => ?_, r6.bl⟩, d1, hk⟩
      · rw [d1, ← r1]; exact r5.sz
      · have ev0 : Evo φ' sS.hp w' φ' sE.hp w' := ⟨rfl, rfl, rfl, Nat.le_refl _, fun _ _ h => h, fun id o p b h1 h2 h3 => .inr fun hb => hok b hb id o p h1 h2 h3, fun _ _ _ => rfl⟩
        exact ev0.D r5.df
      · rw [hsl] at hj
        have ev0 : Evo φ' sS.hp w' φ' sE.hp w' := ⟨rfl, rfl, rfl, Nat.le_refl _, fun _ _ h => h, fun id o p b h1 h2 h3 => .inr fun hb => hok b hb id o p h1 h2 h3, fun _ _ _ => rfl⟩
        exact ev0.V (r5.sl j v hj)
      · rw [hhp] at ho
        have ev0 : Evo φ' sS.hp w' φ' sE.hp w' := ⟨rfl, rfl, rfl, Nat.le_refl _, fun _ _ h => h, fun id o p b h1 h2 h3 => .inr fun hb => hok b hb id o p h1 h2 h3, fun _ _ _ => rfl⟩
        exact (r5.ob id o ho).evo ev0 fun p b _ _ => rfl
      · rw [← r2]; exact r5.fr
      · rw [hhp] at h1 h2
        exact r5.dj i j o o' p q b h1 h2
      · rw [hhp] at h1
        exact r6.ow id o p b h1
    intro n
    induction n with
    | zero =>
      intro arr a w' hsz hu hc hi
      have hal : ∀ i, i < ops.size → arr.getD i false = true := fun i hi' => by
        have := unl_zero arr.toList (by omega) i (by simpa [hsz] using hi')
        rw [Array.getD_eq_getD_getElem?]
        rw [Array.getElem?_toList] at this
        rw [this]; rfl
      refine ⟨?_, done arr a w' hal hi⟩
      rw [List.eq_nil_iff_forall_not_mem]
      intro i hmem
      obtain ⟨q1, o, q2, _⟩ := mem_ready.1 hmem
      have hlt := (Array.getElem?_eq_some_iff.1 q2).1
      have := hal i hlt
      rw [Array.getD_eq_getD_getElem?] at this q1
      rw [Array.getElem?_eq_getElem (by omega)] at this q1
      simp only [Option.getD_some] at this q1
      rw [this] at q1; cases q1
    | succ n ih =>
      intro arr a w' hsz hu hc hi
      refine ⟨fun hnil => ?_, fun i hmem => ?_⟩
      · refine done arr a w' (fun i => ?_) hi
        induction i using Nat.strongRecOn with
        | _ i ih2 =>
          intro hlt
          cases hb : arr.getD i false with
          | true => rfl
          | false =>
            exfalso
            have ho : ops[i]? = some ops[i] := Array.getElem?_eq_getElem hlt
            have : i ∈ Region.ready .any ops arr := by
              refine mem_ready.2 ⟨?_, ops[i], ho, fun e he hbd => ?_⟩
              · rw [Array.getD_eq_getD_getElem?] at hb ⊢
                rw [Array.getElem?_eq_getElem (by omega)] at hb ⊢
                simpa using hb
              · have h1 := hback' i _ ho e he hbd
                exact ih2 e.on h1 (by omega)
            rw [hnil] at this; cases this
      · obtain ⟨q1, o, q2, q3⟩ := mem_ready.1 hmem
        have hlt := (Array.getElem?_eq_some_iff.1 q2).1
        have hun : arr[i]? = some false := by
          rw [Array.getD_eq_getD_getElem?] at q1
          rw [Array.getElem?_eq_getElem (by omega)] at q1 ⊢
          simpa using q1
        have hfalse : arr.getD i false = false := by rw [Array.getD_eq_getD_getElem?, hun]; rfl
        obtain ⟨e, he, hei⟩ := hcov' i hlt
        obtain ⟨_, _, _, _, _, t2, _⟩ := Tr.split tr sE ht e he
        rw [hei, q2] at t2
        have heo : e.o = o := by cases t2; rfl
        have hset := getD_setB arr i
        have := inv_step (m := m) hF (P := P) (Q := Q) (K := wpAnyIn F m P .any ops Q n (arr.setIfInBounds i true)) (S := fun j => arr.getD j false) (S' := fun j => (arr.setIfInBounds i true).getD j false) hE hspc rfl ht hc he (by rw [hei]; exact hfalse) (by rw [heo]; exact q3) hi
          (fun j => by rw [hei]; exact hset j (by omega)) (fun a2 w2 hi2 => ih _ a2 w2 (by simp [hsz]) ?_ ?_ hi2)
        · rw [hei] at this; exact this
        · have h1 := unl_set arr.toList i (by rw [Array.getElem?_toList]; exact hun)
          have h2 : (arr.setIfInBounds i true).toList = arr.toList.set i true := by simp
          rw [h2]; omega
        · intro j oj hj hS x hx hb
          show (arr.setIfInBounds i true).getD x.on false = true
          have hS' : (arr.setIfInBounds i true).getD j false = true := hS
          rw [hset j (by omega)] at hS'
          rw [hset x.on (by omega)]
          by_cases hji : j = i
          · subst hji
            rw [q2] at hj; cases hj
            rw [q3 x hx hb]; rfl
          · have : (j == i) = false := by simpa using hji
            rw [this, Bool.or_false] at hS'
            have := hc j oj hj hS' x hx hb
            rw [show arr.getD x.on false = true from this]; rfl
  refine key ops.size _ a w1 (by simp) ?_ ?_ ?_
  · have : ∀ n, unl (List.replicate n false) = n := by
      intro n
      induction n with
      | zero => rfl
      | succ n ih => simp [List.replicate_succ, unl, ih]
    simp only [Array.toList_replicate, this]
    exact Nat.le_refl _
  · intro j o hj hS
    exfalso
    have : (Array.replicate ops.size false).getD j false = false := by
      rw [Array.getD_eq_getD_getElem?, Array.getElem?_replicate]; split <;> rfl
    rw [show (Array.replicate ops.size false).getD j false = true from hS] at this; cases this
  · have hfalse : ∀ j, (Array.replicate ops.size false).getD j false = false := fun j => by
      rw [Array.getD_eq_getD_getElem?, Array.getElem?_replicate]; split <;> rfl
    have hsw : ∀ (tr : List Ent) t, swS s (fun j => (Array.replicate ops.size false).getD j false) tr t = lookA s.sl t := fun tr t => by
      induction tr with
      | nil => rfl
      | cons e tr ih => simp only [swS, hfalse, Bool.false_eq_true, false_and, if_false] at ih ⊢; exact ih
    have hhw : ∀ (tr : List Ent) id, hwS s (fun j => (Array.replicate ops.size false).getD j false) tr id = lookA s.hp id := fun tr id => by
      induction tr with
      | nil => rfl
      | cons e tr ih => simp only [hwS, hfalse, Bool.false_eq_true, if_false] at ih ⊢; exact ih
    refine ⟨φ, { s with nx := sE.nx }, rfl, rfl, fun t => (hsw tr t).symm, fun id => (hhw tr id).symm, ⟨hr.sz, Nat.le_trans hr.bs ev1.size, ev1.D hr.df, fun j v hj => ev1.V (hr.sl j v hj), hh1.ob, (hh1.le d2).fr, hh1.dj⟩, ev1, fun id hid => .inl ?_⟩
    rcases Nat.lt_or_ge id s.nx with q | q
    · exact q
    · exact absurd (hr.fr id q) hid
end
end Go.VM
set_option autoImplicit false
set_option linter.all false
namespace Go.VM
open Go Go.Lib
variable {B : Nat × Bool}

/-! ### 1. New numbers for objects -/
def posOf (r : Nat) : List Nat → Nat → Option Nat
  | [], _ => none
  | x :: l, i => if Nat.beq x r then some i else posOf r l (i + 1)

/-- Those in R become n, n + 1, ..; those below n stay. -/
def renId (n : Nat) (R : List Nat) (id : Nat) : Option Nat := match posOf id R n with
  | some j => some j
  | none => if Nat.blt id n then some id else none

def renIds (n : Nat) (R : List Nat) : List Nat → Option (List Nat)
  | [] => some []
  | id :: l => match renId n R id, renIds n R l with
    | some j, some m => some (j :: m)
    | _, _ => none

def renC (n : Nat) (R : List Nat) : C → Option C
  | .own id l => match renId n R id with
    | some j => some (.own j l)
    | none => none
  | .ptr id o => match renId n R id with
    | some j => some (.ptr j o)
    | none => none
  | .elp id i o => match renId n R id with
    | some j => some (.elp j i o)
    | none => none
  | .map id => match renId n R id with
    | some j => some (.map j)
    | none => none
  | .fn f caps => match renIds n R caps with
    | some l => some (.fn f l)
    | none => none
  | .selfp id => match renId n R id with
    | some j => some (.selfp j)
    | none => none
  | .bool b => some (.sym b)
  | c => some c

def renCs (n : Nat) (R : List Nat) : List C → Option (List C)
  | [] => some []
  | c :: l => match renC n R c, renCs n R l with
    | some j, some m => some (j :: m)
    | _, _ => none

def renV (n : Nat) (R : List Nat) : V → Option V
  | .c c => match renC n R c with
    | some c => some (.c c)
    | none => none
  | .agg l => match renCs n R l with
    | some l => some (.agg l)
    | none => none
  | .ipt l => match renCs n R l with
    | some l => some (.ipt l)
    | none => none
  | .tup _ => none

def renPs (n : Nat) (R : List Nat) : List (C × C) → Option (List (C × C))
  | [] => some []
  | (a, b) :: l => match renC n R b, renPs n R l with
    | some j, some m => some ((a, j) :: m)
    | _, _ => none

def keyC : C → Bool
  | .int _ _ | .str _ => true
  | _ => false

def renO (n : Nat) (R : List Nat) : Ob → Option Ob
  | .box t cs => match renCs n R cs with
    | some cs => some (.box t cs)
    | none => none
  | .rowf t e l j cs => match renCs n R cs with
    | some cs => some (.rowf t e l j cs)
    | none => none
  | .mapc l => if l.all (fun p => keyC p.1) then match renPs n R l with
    | some l => some (.mapc l)
    | none => none
    else none
  | o => some o

section
variable {φ φ' : Phi} {ok ok' : Nat → Prop} {w : World} {n : Nat} {R : List Nat}

/-- Where things lie, told anew. -/
def phiRen (φ : Phi) (n : Nat) (R : List Nat) : Phi := fun id => if id < n then φ id else match R[id - n]? with
  | some r => φ r
  | none => none

theorem posOf_ok (r : Nat) : ∀ (l : List Nat) (i j : Nat), posOf r l i = some j → i ≤ j ∧ l[j - i]? = some r
  | [], _, _, h => by cases h
  | x :: l, i, j, h => by
    unfold posOf at h
    split at h
    · rename_i e
      cases h
      have := beq_eq e
      subst this
      exact ⟨Nat.le_refl _, by simp⟩
    · obtain ⟨h1, h2⟩ := posOf_ok r l (i + 1) j h
      refine ⟨by omega, ?_⟩
      rw [show j - i = (j - (i + 1)) + 1 by omega, List.getElem?_cons_succ]
      exact h2

theorem renId_phi {id j : Nat} (h : renId n R id = some j) : phiRen φ n R j = φ id := by
  unfold renId at h
  unfold phiRen
  split at h
  · rename_i k hk
    cases h
    obtain ⟨h1, h2⟩ := posOf_ok id R n j hk
    rw [if_neg (by omega), h2]
  · split at h
    · rename_i hlt
      cases h
      have : id < n := Nat.le_of_ble_eq_true hlt
      rw [if_pos this]
    · cases h

/-- Different ids stay different. -/
theorem renId_inj {i j k : Nat} (hi : renId n R i = some k) (hj : renId n R j = some k) : i = j := by
  unfold renId at hi hj
  split at hi
  · rename_i a ha
    cases hi
    obtain ⟨h1, h2⟩ := posOf_ok i R n k ha
    split at hj
    · rename_i b hb
      cases hj
      obtain ⟨_, h3⟩ := posOf_ok j R n k hb
      rw [h2] at h3; cases h3; rfl
    · split at hj
      · rename_i hlt
        have : j < n := Nat.le_of_ble_eq_true hlt
        cases hj
        omega
      · cases hj
  · split at hi
    · rename_i hlt
      have hl : i < n := Nat.le_of_ble_eq_true hlt
      cases hi
      split at hj
      · rename_i b hb
        cases hj
        obtain ⟨h1, _⟩ := posOf_ok j R n i hb
        omega
      · split at hj
        · cases hj; rfl
        · cases hj
    · cases hi

variable (hok : ∀ b, ok b → ok' b)
include hok

theorem renK (t : Ty) (x : t.D) (vs : List Value) (h : K ok w t x vs) : K ok' w t x vs := K_mono (fun b hb _ => ⟨rfl, hok b hb⟩) t x vs h

theorem renIds_ok : ∀ (l m : List Nat) (vs : List Value), renIds n R l = some m → L2 (fun id u => isPtr φ id 0 u) l vs → L2 (fun id u => isPtr (phiRen φ n R) id 0 u) m vs
  | [], m, [], h, _ => by cases h; exact trivial
  | id :: l, m, v :: vs, h, hl => by
    unfold renIds at h
    split at h
    · rename_i j m' h1 h2
      cases h
      obtain ⟨b, sz, cap, nn, g1, g2⟩ := hl.1
      exact ⟨⟨b, sz, cap, nn, by rw [renId_phi h1]; exact g1, g2⟩, renIds_ok l m' vs h2 hl.2⟩
    · cases h
  | [], _, _ :: _, _, hl | _ :: _, _, [], _, hl => hl.elim

theorem renC_ok {c c' : C} {v : Value} (h : renC n R c = some c') (hv : Crel φ ok w c v) : Crel (phiRen φ n R) ok' w c' v := by
  cases c <;> simp only [renC] at h
  case own id l =>
    split at h
    · rename_i j hj
      cases h
      rcases hv with ⟨h1, h2⟩ | ⟨b, sz, cap, nn, h1, h2⟩
      · exact .inl ⟨by rw [renId_phi hj]; exact h1, h2⟩
      · exact .inr ⟨b, sz, cap, nn, by rw [renId_phi hj]; exact h1, h2⟩
    · cases h
  case ptr id o =>
    split at h
    · rename_i j hj
      cases h
      obtain ⟨b, sz, cap, nn, h1, h2⟩ := hv
      exact ⟨b, sz, cap, nn, by rw [renId_phi hj]; exact h1, h2⟩
    · cases h
  case selfp id =>
    split at h
    · rename_i j hj
      cases h
      rcases hv with h1 | ⟨b, sz, cap, nn, h1, h2⟩
      · exact .inl h1
      · exact .inr ⟨b, sz, cap, nn, by rw [renId_phi hj]; exact h1, h2⟩
    · cases h
  case elp id i o =>
    split at h
    · rename_i j hj
      cases h
      obtain ⟨b, sz, cap, nn, h1, h2⟩ := hv
      exact ⟨b, sz, cap, nn, by rw [renId_phi hj]; exact h1, h2⟩
    · cases h
  case map id =>
    split at h
    · rename_i j hj
      cases h
      obtain ⟨b, sz, cap, nn, h1, h2⟩ := hv
      exact ⟨b, sz, cap, nn, by rw [renId_phi hj]; exact h1, h2⟩
    · cases h
  case fn f caps =>
    split at h
    · rename_i l hl
      cases h
      obtain ⟨vs, h1, h2⟩ := hv
      exact ⟨vs, h1, renIds_ok hok caps l vs hl h2⟩
    · cases h
  case bool b => cases h; exact hv
  case sl e l => cases h; exact renK hok (.sl e) l _ hv
  all_goals (cases h; exact hv)

theorem renCs_ok : ∀ (l m : List C) (vs : List Value), renCs n R l = some m → L2 (Crel φ ok w) l vs → L2 (Crel (phiRen φ n R) ok' w) m vs
  | [], m, [], h, _ => by cases h; exact trivial
  | c :: l, m, v :: vs, h, hl => by
    unfold renCs at h
    split at h
    · rename_i j m' h1 h2
      cases h
      exact ⟨renC_ok hok h1 hl.1, renCs_ok l m' vs h2 hl.2⟩
    · cases h
  | [], _, _ :: _, _, hl | _ :: _, _, [], _, hl => hl.elim

theorem renCs_len : ∀ (l m : List C), renCs n R l = some m → m.length = l.length
  | [], m, h => by cases h; rfl
  | c :: l, m, h => by
    unfold renCs at h
    split at h
    · rename_i j m' h1 h2
      cases h
      simp [renCs_len l m' h2]
    · cases h

theorem renV_ok {x x' : V} {v : Value} (h : renV n R x = some x') (hv : Vrel φ ok w x v) : Vrel (phiRen φ n R) ok' w x' v := by
  cases x <;> simp only [renV] at h
  case c c =>
    split at h
    · rename_i c' hc
      cases h
      exact renC_ok hok hc hv
    · cases h
  case agg l =>
    split at h
    · rename_i l' hl
      cases h
      obtain ⟨vs, h1, h2⟩ := hv
      exact ⟨vs, h1, renCs_ok hok l l' vs hl h2⟩
    · cases h
  case ipt l =>
    split at h
    · rename_i l' hl
      cases h
      obtain ⟨ad, vs, h1, h2, h3⟩ := hv
      exact ⟨ad, vs, h1, renCs_ok hok l l' vs hl h2, fun i u hu => ⟨hok _ (h3 i u hu).1, (h3 i u hu).2⟩⟩
    · cases h
  case tup => cases h

theorem renPs_ok : ∀ (l m : List (C × C)) (es : List MapEntry), renPs n R l = some m → l.all (fun p => keyC p.1) = true → L2 (fun (x : C × C) (e : MapEntry) => Crel φ ok w x.1 e.key ∧ Crel φ ok w x.2 e.val) l es →
    L2 (fun (x : C × C) (e : MapEntry) => Crel (phiRen φ n R) ok' w x.1 e.key ∧ Crel (phiRen φ n R) ok' w x.2 e.val) m es
  | [], m, [], h, _, _ => by cases h; exact trivial
  | (a, b) :: l, m, v :: vs, h, hk, hl => by
    simp only [List.all_cons, Bool.and_eq_true] at hk
    unfold renPs at h
    split at h
    · rename_i j m' h1 h2
      cases h
      refine ⟨⟨?_, renC_ok hok h1 hl.1.2⟩, renPs_ok l m' vs h2 hk.2 hl.2⟩
      have h3 := hl.1.1
      have h4 := hk.1
      cases a <;> simp only [keyC, Bool.false_eq_true] at h4 <;> exact h3
    · cases h
  | [], _, _ :: _, _, _, hl | _ :: _, _, [], _, _, hl => hl.elim

theorem renO_ok {id j : Nat} (hj : renId n R id = some j) {o o' : Ob} (h : renO n R o = some o') (hv : Orel φ ok w id o) : Orel (phiRen φ n R) ok' w j o' := by
  have hφ := renId_phi (φ := φ) hj
  cases o <;> simp only [renO] at h
  case box t cs =>
    split at h
    · rename_i l' hl
      cases h
      obtain ⟨b, vs, h1, h2, h3⟩ := hv
      exact ⟨b, vs, by rw [hφ]; exact h1, h2, renCs_ok hok cs l' vs hl h3⟩
    · cases h
  case row t e l =>
    cases h
    rcases hv with ⟨h1, h2⟩ | ⟨b, cap, arr, h1, h2, h3, h4, h5⟩
    · exact .inl ⟨by rw [hφ]; exact h1, h2⟩
    · refine .inr ⟨b, cap, arr, by rw [hφ]; exact h1, h2, h3, h4, fun q x hx => ?_⟩
      obtain ⟨vs, q1, q2⟩ := h5 q x hx
      exact ⟨vs, renK hok _ _ _ q1, q2⟩
  case rowf t e l q cs =>
    split at h
    · rename_i l' hl
      cases h
      obtain ⟨b, cap, arr, h1, h2, h3, h4, h5, h6, h7, vs, h8, h9⟩ := hv
      refine ⟨b, cap, arr, by rw [hφ]; exact h1, h2, h3, h4, fun q' x hne hx => ?_, h6, by rw [renCs_len hok cs l' hl]; exact h7, vs, renCs_ok hok cs l' vs hl h8, h9⟩
      obtain ⟨vs, q1, q2⟩ := h5 q' x hne hx
      exact ⟨vs, renK hok _ _ _ q1, q2⟩
    · cases h
  case map k v l =>
    cases h
    obtain ⟨b, es, clock, h1, h2, h3⟩ := hv
    exact ⟨b, es, clock, by rw [hφ]; exact h1, h2, L2_mono (fun _ _ hh => ⟨renK hok _ _ _ hh.1, renK hok _ _ _ hh.2⟩) h3⟩
  case mapc l =>
    split at h
    · rename_i hk
      split at h
      · rename_i l' hl
        cases h
        obtain ⟨b, es, clock, h1, h2, h3⟩ := hv
        exact ⟨b, es, clock, by rw [hφ]; exact h1, h2, renPs_ok hok l l' es.toList hl hk h3⟩
      · cases h
    · cases h
  case amb =>
    cases h
    obtain ⟨S, w0, h1, h2⟩ := hv
    exact ⟨S, w0, by rw [hφ]; exact h1, h2⟩
end

/-! ### 2. States -/
def normSl (n : Nat) (R : List Nat) (sl : List (Nat × V)) : List Nat → Option (List (Nat × V))
  | [] => some []
  | j :: js => match lookA sl j with
    | some v => match renV n R v, normSl n R sl js with
      | some v, some l => some ((j, v) :: l)
      | _, _ => none
    | none => none

def insId (x : Nat × Ob) : Hp → Hp
  | [] => [x]
  | y :: l => if Nat.ble x.1 y.1 then x :: y :: l else y :: insId x l

def normHp (n : Nat) (R : List Nat) (hp : Hp) : Hp → Hp
  | [] => []
  | (id, _) :: l => match renId n R id, lookA hp id with
    | some j, some o => match renO n R o with
      | some o => insId (j, o) (normHp n R hp l)
      | none => normHp n R hp l
    | _, _ => normHp n R hp l

def norm (n : Nat) (js R : List Nat) (s : St) : Option St := match normSl n R s.sl js with
  | some sl => some { n := s.n, sl := sl, hp := normHp n R s.hp s.hp, nx := n + R.length }
  | none => none

theorem mem_insId (x y : Nat × Ob) : ∀ l : Hp, y ∈ insId x l → y = x ∨ y ∈ l
  | [], h => by simp [insId] at h; exact .inl h
  | z :: l, h => by
    unfold insId at h
    split at h
    · simpa using h
    · rcases List.mem_cons.1 h with h | h
      · exact .inr (by simp [h])
      · rcases mem_insId x y l h with h | h
        · exact .inl h
        · exact .inr (by simp [h])

theorem mem_normHp (n : Nat) (R : List Nat) (hp : Hp) (y : Nat × Ob) : ∀ l : Hp, y ∈ normHp n R hp l → ∃ id o, lookA hp id = some o ∧ renId n R id = some y.1 ∧ renO n R o = some y.2
  | [], h => by cases h
  | (id, o) :: l, h => by
    unfold normHp at h
    split at h
    · rename_i j o1 h1 h2
      split at h
      · rename_i o2 h3
        rcases mem_insId _ _ _ h with rfl | h
        · exact ⟨id, o1, h2, h1, h3⟩
        · exact mem_normHp n R hp y l h
      · exact mem_normHp n R hp y l h
    · exact mem_normHp n R hp y l h

theorem look_mem {α : Type} {x : α} {i : Nat} : ∀ l : List (Nat × α), lookA l i = some x → (i, x) ∈ l
  | [], h => by cases h
  | (k, v) :: l, h => by
    simp only [lookA, ifb] at h
    split at h
    · rename_i e; subst e; cases h; simp
    · simp [look_mem l h]

theorem look_normSl (n : Nat) (R : List Nat) (sl : List (Nat × V)) : ∀ (js : List Nat) (out : List (Nat × V)), normSl n R sl js = some out → ∀ j v, lookA out j = some v → ∃ v0, lookA sl j = some v0 ∧ renV n R v0 = some v
  | [], out, h, j, v, hv => by cases h; cases hv
  | i :: js, out, h, j, v, hv => by
    unfold normSl at h
    split at h
    · rename_i v0 h0
      split at h
      · rename_i v1 l h1 h2
        cases h
        simp only [lookA, ifb] at hv
        split at hv
        · rename_i e; subst e; cases hv; exact ⟨v0, h0, h1⟩
        · exact look_normSl n R sl js l h2 j v hv
      · cases h
    · cases h

/-- A state's normal form says as much. -/
theorem norm_ok {φ : Phi} {s s' : St} {a : Act} {w : World} {n : Nat} {js R : List Nat} (h : norm n js R s = some s') (hr : Rel B φ s a w) :
    Rel B (phiRen φ n R) s' a w ∧ s'.n = s.n ∧ (∀ φ0 hp0 w0, (∀ id, n ≤ id → φ0 id = none) → Evo φ0 hp0 w0 φ s.hp w → Evo φ0 hp0 w0 (phiRen φ n R) s'.hp w) ∧ ∀ b, okb φ s.hp b → okb (phiRen φ n R) s'.hp b := by
  unfold norm at h
  split at h
  · rename_i sl hsl
    cases h
    have hob : ∀ j o', lookA (normHp n R s.hp s.hp) j = some o' → ∃ id o, lookA s.hp id = some o ∧ renId n R id = some j ∧ renO n R o = some o' := fun j o' hj => mem_normHp n R s.hp (j, o') s.hp (look_mem _ hj)
    have hok : ∀ b, okb φ s.hp b → okb (phiRen φ n R) (normHp n R s.hp s.hp) b := fun b hb j o' p h1 h2 h3 => by
      obtain ⟨id, o, g1, g2, g3⟩ := hob j o' h1
      rw [renId_phi g2] at h2
      exact hb id o p g1 h2 h3
    refine ⟨⟨hr.sz, hr.bs, hr.df.mono hok, fun j v hv => ?_, fun j o' hj => ?_, fun id hid => ?_, fun i j o o' p q b h1 h2 hne h3 h4 => ?_⟩, rfl, fun φ0 hp0 w0 hfr ev => ?_, hok⟩
    · obtain ⟨v0, g1, g2⟩ := look_normSl n R s.sl js sl hsl j v hv
      exact renV_ok hok g2 (hr.sl j v0 g1)
    · obtain ⟨id, o, g1, g2, g3⟩ := hob j o' hj
      exact renO_ok hok g2 g3 (hr.ob id o g1)
    · show phiRen φ n R id = none
      unfold phiRen
      have hid' : n + R.length ≤ id := hid
      rw [if_neg (by omega), List.getElem?_eq_none (by omega)]
    · obtain ⟨i', o1, g1, g2, g3⟩ := hob i o h1
      obtain ⟨j', o2, k1, k2, k3⟩ := hob j o' h2
      rw [renId_phi g2] at h3
      rw [renId_phi k2] at h4
      refine hr.dj i' j' o1 o2 p q b g1 k1 (fun e => hne ?_) h3 h4
      subst e
      rw [g2] at k2; cases k2; rfl
    · refine ⟨ev.os, ev.tape, ev.output, ev.size, fun id p hp => ?_, fun j o' p b h1 h2 h3 => ?_, ev.bl⟩
      · have hlt : id < n := by
          rcases Nat.lt_or_ge id n with h | h
          · exact h
          · rw [hfr id h] at hp; cases hp
        unfold phiRen
        rw [if_pos hlt]
        exact ev.ph id p hp
      · obtain ⟨id, o, g1, g2, g3⟩ := hob j o' h1
        rw [renId_phi g2] at h2
        exact ev.ow id o p b g1 h2 h3
  · cases h
end Go.VM
set_option autoImplicit false
set_option linter.all false
namespace Go.VM
open Go Go.Lib
variable {B : Nat × Bool}

/-! ### 1. The generator's states -/
inductive Ex
  | normal
  | exit (id : Nat)
  | ret

abbrev Kont := Ex → St → VC

def Ex.to : Ex → Exit
  | .normal => .normal
  | .exit id => .exit id
  | .ret => .ret
def Ex.code : Ex → Option Code
  | .normal => none
  | .exit id => some (.exit id)
  | .ret => some .ret

/-! ### 2. A block that is no cells is turned -/
section
variable {w : World} {r : Nat} {o o' : Obj} {φ : Phi} {ok : Nat → Prop} {hp : Hp}

theorem cell_turn (h : w.heap[r]? = some o) (hc : o.isCells = false) {a : Addr} {v : Value} (hv : w.cell? a = some v) : (w.putObj r o').cell? a = some v := by
  have hne : a.block ≠ r := fun e => by
    obtain ⟨o2, h2, h3⟩ := cells_of_cell hv
    rw [e, h] at h2; cases h2
    rw [hc] at h3; cases h3
  rw [World.cell?_of_block (w := w)]
  · exact hv
  · exact World.putObj_heap_other hne

theorem K_turn (h : w.heap[r]? = some o) (hc : o.isCells = false) : ∀ (t : Ty) (x : t.D) (cs : List Value), K ok w t x cs → K ok (w.putObj r o') t x cs
  | .int _, _, _, h1 | .bool, _, _, h1 | .str, _, _, h1 => h1
  | .sl e, l, cs, h1 => by
    obtain ⟨A, c, rfl, hcap, h2⟩ := h1
    refine ⟨A, c, rfl, hcap, fun hn => ?_⟩
    obtain ⟨ad, rfl, hok, hj⟩ := h2 hn
    refine ⟨ad, rfl, hok, fun j x hx => ?_⟩
    obtain ⟨vs, hk, hv⟩ := hj j x hx
    exact ⟨vs, K_turn h hc e x vs hk, fun i u hu => cell_turn h hc (hv i u hu)⟩
  | .pair a b, x, cs, h1 => by
    obtain ⟨c1, c2, rfl, h2, h3⟩ := h1
    exact ⟨c1, c2, rfl, K_turn h hc a _ _ h2, K_turn h hc b _ _ h3⟩
  | .wrap a, x, cs, h1 => K_turn h hc a x cs h1

theorem C_turn (h : w.heap[r]? = some o) (hc : o.isCells = false) {x : C} {v : Value} (hx : Crel φ ok w x v) : Crel φ ok (w.putObj r o') x v := by
  cases x with
  | sl e l => exact K_turn h hc _ _ _ hx
  | _ => exact hx

theorem V_turn (h : w.heap[r]? = some o) (hc : o.isCells = false) {x : V} {v : Value} (hx : Vrel φ ok w x v) : Vrel φ ok (w.putObj r o') x v := by
  cases x with
  | c x => exact C_turn h hc hx
  | agg l => obtain ⟨vs, h1, h2⟩ := hx; exact ⟨vs, h1, L2_mono (fun _ _ hh => C_turn h hc hh) h2⟩
  | tup l =>
    obtain ⟨vs, h1, h2⟩ := hx
    refine ⟨vs, h1, L2_mono (fun y u hh => ?_) h2⟩
    unfold tupRel at hh ⊢
    split at hh
    · rename_i hy
      rw [if_pos hy]
      obtain ⟨us, e, hh⟩ := hh
      exact ⟨us, e, L2_mono (fun _ _ hh => C_turn h hc hh) hh⟩
    · rename_i hy
      rw [if_neg hy]
      obtain ⟨c, e, hh⟩ := hh
      exact ⟨c, e, C_turn h hc hh⟩
  | ipt l =>
    obtain ⟨ad, vs, h1, h2, h3⟩ := hx
    exact ⟨ad, vs, h1, L2_mono (fun _ _ hh => C_turn h hc hh) h2, fun i u hu => ⟨(h3 i u hu).1, cell_turn h hc (h3 i u hu).2⟩⟩

theorem O_turn (h : w.heap[r]? = some o) (hc : o.isCells = false) {id : Nat} {x : Ob} (hx : Orel φ ok w id x) (hne : ∀ p, φ id = some p → ¬ p.S r) : Orel φ ok (w.putObj r o') id x := by
  have hb : ∀ b sz cap n, φ id = some (.at b sz cap n) → (w.putObj r o').heap[b]? = w.heap[b]? := fun b sz cap n hp => World.putObj_heap_other fun e => hne _ hp e.symm
  cases x with
  | box t cs =>
    obtain ⟨b, vs, h1, h2, h3⟩ := hx
    exact ⟨b, vs, h1, (hb _ _ _ _ h1).trans h2, L2_mono (fun _ _ hh => C_turn h hc hh) h3⟩
  | row t ty l =>
    rcases hx with ⟨h1, h2⟩ | ⟨b, cap, arr, h1, h2, h3, h4, h5⟩
    · exact .inl ⟨h1, h2⟩
    · refine .inr ⟨b, cap, arr, h1, (hb _ _ _ _ h1).trans h2, h3, h4, fun j x hx => ?_⟩
      obtain ⟨vs, hk, hv⟩ := h5 j x hx
      exact ⟨vs, K_turn h hc _ _ _ hk, hv⟩
  | rowf t ty l q cs =>
    obtain ⟨b, cap, arr, h1, h2, h3, h4, h5, h6, h7, vs, h8, h9⟩ := hx
    refine ⟨b, cap, arr, h1, (hb _ _ _ _ h1).trans h2, h3, h4, fun j x hne hx => ?_, h6, h7, vs, L2_mono (fun _ _ hh => C_turn h hc hh) h8, h9⟩
    obtain ⟨vs, hk, hv⟩ := h5 j x hne hx
    exact ⟨vs, K_turn h hc _ _ _ hk, hv⟩
  | map k v l =>
    obtain ⟨b, es, clock, h1, h2, h3⟩ := hx
    exact ⟨b, es, clock, h1, (hb _ _ _ _ h1).trans h2, L2_mono (fun _ _ hh => ⟨K_turn h hc _ _ _ hh.1, K_turn h hc _ _ _ hh.2⟩) h3⟩
  | mapc l =>
    obtain ⟨b, es, clock, h1, h2, h3⟩ := hx
    exact ⟨b, es, clock, h1, (hb _ _ _ _ h1).trans h2, L2_mono (fun _ _ hh => ⟨C_turn h hc hh.1, C_turn h hc hh.2⟩) h3⟩
  | amb =>
    obtain ⟨S, w0, h1, h2, h3⟩ := hx
    refine ⟨S, w0, h1, h2, fun b hb' => ⟨by rw [World.putObj_size]; exact (h3 b hb').1, ?_⟩⟩
    rw [World.putObj_heap_other (fun e => hne _ h1 (by rw [← e]; exact hb'))]
    exact (h3 b hb').2

theorem H_turn {nx : Nat} (h : w.heap[r]? = some o) (hc : o.isCells = false) (hh : HRel φ hp nx w) (hok : okb φ hp r) : HRel φ hp nx (w.putObj r o') :=
  ⟨fun id x hx => O_turn h hc (hh.ob id x hx) fun p hp' => hok id x p hx hp', hh.fr, hh.dj⟩

theorem Rel_turn {s : St} {a : Act} (h : w.heap[r]? = some o) (hc : o.isCells = false) (hd : o ≠ .deferred (some [])) (hr : Rel B φ s a w) (hok : okb φ s.hp r) : Rel B φ s a (w.putObj r o') := by
  have hh := H_turn (o' := o') h hc hr.h hok
  refine ⟨hr.sz, by rw [World.putObj_size]; exact hr.bs, ?_, fun j v hj => V_turn h hc (hr.sl j v hj), hh.ob, hh.fr, hh.dj⟩
  obtain ⟨l, h1, h2, h4, h3⟩ := hr.df
  refine ⟨l, h1, h2, h4, fun D hm => ⟨(h3 D hm).1, ?_, (h3 D hm).2.2⟩⟩
  rw [World.putObj_heap_other (fun e => by have := (h3 D hm).2.1; rw [e, h] at this; cases this; exact hd rfl)]
  exact (h3 D hm).2.1

theorem Evo_turn {φ' : Phi} {hp' : Hp} {w' : World} (ev : Evo φ hp w φ' hp' w') (hr : w.heap.size ≤ r) : Evo φ hp w φ' hp' (w'.putObj r o') :=
  ⟨ev.os, ev.tape, ev.output, by rw [World.putObj_size]; exact ev.size, ev.ph, ev.ow, fun b hb hk => by
    rw [World.putObj_heap_other (by omega)]; exact ev.bl b hb hk⟩
end

/-! ### 3. Flat data as values -/
def flatV : (t : Ty) → t.D → List Value
  | .int k, x => [.int k x]
  | .bool, x => [.bool x]
  | .str, x => [.string x]
  | .sl _, _ => [undef]
  | .pair a b, x => flatV a x.1 ++ flatV b x.2
  | .wrap a, x => flatV a x
def encV (t : Ty) (x : t.D) : Value := if t.agg then .agg (flatV t x).toArray else (flatV t x).headD undef
def encs : (ts : List Ty) → Ds ts → List Value
  | [], _ => []
  | t :: ts, x => encV t x.1 :: encs ts x.2

theorem K_flat {ok : Nat → Prop} {w : World} : ∀ (t : Ty) (x : t.D) (cs : List Value), t.flat = true → (K ok w t x cs ↔ cs = flatV t x)
  | .int _, _, _, _ | .bool, _, _, _ | .str, _, _, _ => Iff.rfl
  | .sl _, _, _, hf => by cases hf
  | .pair a b, x, cs, hf => by
    simp only [Ty.flat, Bool.and_eq_true] at hf
    constructor
    · rintro ⟨c1, c2, rfl, h1, h2⟩
      rw [(K_flat a _ _ hf.1).1 h1, (K_flat b _ _ hf.2).1 h2]; rfl
    · rintro rfl
      exact ⟨_, _, rfl, (K_flat a _ _ hf.1).2 rfl, (K_flat b _ _ hf.2).2 rfl⟩
  | .wrap a, x, cs, hf => K_flat a x cs hf
theorem flatV_one : ∀ (t : Ty) (x : t.D), t.agg = false → ∃ v, flatV t x = [v]
  | .int _, _, _ | .bool, _, _ | .str, _, _ | .sl _, _, _ => ⟨_, rfl⟩
theorem KV_flat {ok : Nat → Prop} {w : World} {t : Ty} {x : t.D} {v : Value} (hf : t.flat = true) : KV ok w t x v ↔ v = encV t x := by
  unfold KV encV
  split
  · constructor
    · rintro ⟨cs, rfl, h⟩; rw [(K_flat t x cs hf).1 h]
    · rintro rfl; exact ⟨_, rfl, (K_flat t x _ hf).2 rfl⟩
  · rename_i h
    obtain ⟨u, hu⟩ := flatV_one t x (by simpa using h)
    rw [K_flat t x _ hf, hu]
    simp
theorem KVs_flat {ok : Nat → Prop} {w : World} : ∀ (ts : List Ty) (x : Ds ts) (vs : List Value), ts.all Ty.flat = true → (KVs ok w ts x vs ↔ vs = encs ts x)
  | [], _, _, _ => Iff.rfl
  | t :: ts, x, [], hf => ⟨fun h => h.elim, fun h => by cases h⟩
  | t :: ts, x, v :: vs, hf => by
    simp only [List.all_cons, Bool.and_eq_true] at hf
    show KV ok w t x.1 v ∧ KVs ok w ts x.2 vs ↔ v :: vs = encV t x.1 :: encs ts x.2
    rw [KV_flat hf.1, KVs_flat ts x.2 vs hf.2, List.cons.injEq]

/-! ### 4. What is asked of an iterator -/
/-- Memory goes on: what is not in C stays, and so do the package variables. -/
structure Frm (C : Nat → Prop) (w w' : World) : Prop where
  os : w'.os = w.os
  tape : w'.tape = w.tape
  output : w'.output = w.output
  size : w.heap.size ≤ w'.heap.size
  bl : ∀ b, b < w.heap.size → ¬ C b → w'.heap[b]? = w.heap[b]?
  gl : ∀ b, glB b → w'.heap[b]? = w.heap[b]?

/-- A captured variable that holds a datum. -/
def CapOk (ok : Nat → Prop) (w : World) (t : Ty) (x : t.D) (v : Value) : Prop := ∃ ad vs, v = .pointer (some ad) ∧ K ok w t x vs ∧ ∀ i u, vs[i]? = some u → ok ad.block ∧ w.cell? (ad.add i) = some u
def CapsOk (ok : Nat → Prop) (w : World) : (ts : List Ty) → Ds ts → List Value → Prop
  | [], _, vs => vs = []
  | t :: ts, x, v :: vs => CapOk ok w t x.1 v ∧ CapsOk ok w ts x.2 vs
  | _ :: _, _, [] => False

/-- It stays so while memory is made. -/
def Grows {β : Type} (J : β → (Nat → Prop) → World → Prop) : Prop := ∀ x C w w', J x C w → Go.RowKit.Below w.heap.size w w' → J x C w'

/-- Behind a round: what the caller may write is new, or was its own before. -/
def Next (w w' : World) (C C' : Nat → Prop) : Prop := (∀ b, C' b → b < w'.heap.size) ∧ ∀ b, b < w.heap.size → C' b → C b

def ItOk (P : Program) (g : FuncId) (it : It) : Prop := Has P g ∧ it.el.all Ty.flat = true ∧ ∀ (ok : Nat → Prop) (w : World) (caps : List Value) (x : Ds it.ins), GlOk ok w → CapsOk ok w it.ins x caps → it.pre x →
  ∀ (l : Nat) (J Jx : List (Ds it.el) → (Nat → Prop) → World → Prop) (W : World) (C0 : Nat → Prop), Go.RowKit.Below w.heap.size w W → (∀ b, C0 b → b < W.heap.size ∧ ¬ (b < w.heap.size ∧ ok b)) → Grows J → Grows Jx →
    (∀ pre y rest W1 C, it.fn x = pre ++ y :: rest → J pre C W1 → YieldAt Fence.wide 0 P l (encs it.el y).toArray W1 fun e W' =>
      Frm C W1 W' ∧ ∃ C', Next W1 W' C C' ∧ ((e = .returned (.bool true) ∧ J (pre ++ [y]) C' W') ∨ (e = .returned (.bool false) ∧ Jx (pre ++ [y]) C' W'))) → J [] C0 W →
    Calls P g (Value.func (.yield l) #[] #[] :: caps).toArray W fun e W' => (∃ v, e = .returned v) ∧ ((∃ C, J (it.fn x) C W') ∨ ∃ pre C, Jx pre C W')

/-! ### 5. What a closure has captured -/
def viewCaps (L : Lv) (h : H) : (ts : List Ty) → List Nat → Option (Ds ts × List Nat)
  | [], [] => some ((), [])
  | t :: ts, id :: caps => match h id with
    | some (.box _ cs) => match view L h t cs with
      | some (x, [], ids) => match viewCaps L h ts caps with
        | some (xs, j) => some ((x, xs), (id :: ids) ++ j)
        | none => none
      | _ => none
    | _ => none
  | _, _ => none

section
variable {φ : Phi} {hp : Hp} {w : World} {f : Nat}
theorem CapOk.mono {ok ok' : Nat → Prop} {w' : World} (h : ∀ b, ok b → b < w.heap.size → w'.heap[b]? = w.heap[b]? ∧ ok' b) {t : Ty} {x : t.D} {v : Value} (hk : CapOk ok w t x v) : CapOk ok' w' t x v := by
  obtain ⟨ad, vs, h1, h2, h3⟩ := hk
  refine ⟨ad, vs, h1, K_mono h t x vs h2, fun i u hu => ?_⟩
  obtain ⟨q1, q2⟩ := h3 i u hu
  obtain ⟨q3, q4⟩ := h _ q1 (block_of_cell q2)
  refine ⟨q4, ?_⟩
  rw [World.cell?_of_block (w := w)]
  · exact q2
  · rw [add_block]; exact q3
theorem CapsOk.mono {ok ok' : Nat → Prop} {w' : World} (h : ∀ b, ok b → b < w.heap.size → w'.heap[b]? = w.heap[b]? ∧ ok' b) : ∀ (ts : List Ty) (x : Ds ts) (vs : List Value), CapsOk ok w ts x vs → CapsOk ok' w' ts x vs
  | [], _, _, hk => hk
  | t :: ts, x, v :: vs, hk => ⟨CapOk.mono h hk.1, CapsOk.mono h ts x.2 vs hk.2⟩
  | _ :: _, _, [], hk => hk

theorem viewCaps_ok (hh : HRel φ hp f w) : ∀ (ts : List Ty) (caps : List Nat) (us : List Value) (x : Ds ts) (ids : List Nat), viewCaps Lv.std (lookA hp) ts caps = some (x, ids) → L2 (fun id u => isPtr φ id 0 u) caps us → CapsOk (okb φ (delAll hp ids)) w ts x us
  | [], [], [], x, ids, h, _ => rfl
  | t :: ts, id :: caps, u :: us, x, ids, h, hl => by
    unfold viewCaps at h
    split at h
    · rename_i tt cs ho
      split at h
      · rename_i y idsy hv
        split at h
        · rename_i xs j hx
          cases h
          refine ⟨?_, CapsOk.mono (fun b hb _ => ⟨rfl, ok_append (id :: idsy) j hb⟩) ts xs us (viewCaps_ok hh ts caps us xs j hx hl.2)⟩
          obtain ⟨b, sz, cap, n, g1, rfl⟩ := hl.1
          obtain ⟨b', vs, k1, k2, k3⟩ := hh.ob id _ ho
          rw [g1] at k1; cases k1
          obtain ⟨v1, v2, e, q1, q2⟩ := view_ok hh t cs vs y [] idsy hv k3
          have : v2 = [] := by
            cases v2 with
            | nil => rfl
            | cons _ _ => exact q2.elim
          subst this
          rw [List.append_nil] at e
          subst e
          have hokc : ∀ b, okb φ (delAll hp idsy) b → okb φ (delAll hp ((id :: idsy) ++ j)) b := fun b hb => ok_append' (id :: idsy) j (ok_append [id] idsy hb)
          refine ⟨⟨b, 0, none⟩, vs, rfl, K_mono (fun b hb _ => ⟨rfl, hokc b hb⟩) t y vs q1, fun i u hu => ⟨?_, ?_⟩⟩
          · intro id' o p h1 h2 h3
            rw [lookA_delAll] at h1
            split at h1
            · cases h1
            · rename_i hm
              by_cases hid : id' = id
              · subst hid; exact hm (by simp)
              · exact hh.dj id' id o _ p _ b h1 ho hid h2 g1 h3 rfl
          · rw [add_plain, cell_at k2]
            simpa using hu
        · cases h
      · cases h
    · cases h
  | [], _ :: _, _, x, ids, h, _ => by cases h
  | _ :: _, [], _, x, ids, h, _ => by cases h
  | [], [], _ :: _, _, _, _, hl | _ :: _, _ :: _, [], _, _, _, hl => hl.elim
end

/-! ### 6. The loop's variables -/
def putPs : List Tmp → (ts : List Ty) → Ds ts → St → Option St
  | [], [], _, s => some s
  | p :: ps, t :: ts, y, s => putPs ps ts y.2 (s.put (some p) (outV t y.1))
  | _, _, _, _ => none

theorem putPs_ok {φ : Phi} {w : World} {ds : List Deferred} : ∀ (ps : List Tmp) (ts : List Ty) (y : Ds ts) (s s' : St) (tm : Array Value), ts.all Ty.flat = true → putPs ps ts y s = some s' → Rel B φ s { tmps := tm, defers := ds } w →
    Rel B φ s' { tmps := (ps.zip (encs ts y)).foldl (fun t (p : Tmp × Value) => t.setIfInBounds p.1 p.2) tm, defers := ds } w ∧ s'.hp = s.hp ∧ s'.n = s.n ∧ s'.nx = s.nx ∧ (encs ts y).length = ps.length
  | [], [], y, s, s', tm, _, h, hr => by cases h; exact ⟨hr, rfl, rfl, rfl, rfl⟩
  | p :: ps, t :: ts, y, s, s', tm, hf, h, hr => by
    simp only [List.all_cons, Bool.and_eq_true] at hf
    obtain ⟨q1, q2, q3⟩ := hr.put s.hp s.nx hr.h (Evo.refl _ _ _) (some p) (outV t y.1) (encV t y.1) (outV_ok ((KV_flat hf.1).2 rfl))
    obtain ⟨r1, r2, r3, r4, r5⟩ := putPs_ok ps ts y.2 _ s' _ hf.2 h q1
    refine ⟨r1, r2.trans q2, r3.trans q3, r4.trans (put_hp _ _ _).2.2, by simp [encs, r5]⟩
  | [], _ :: _, y, s, s', tm, _, h, _ => by cases h
  | _ :: _, [], y, s, s', tm, _, h, _ => by cases h

theorem Rel.evo {φ φ' : Phi} {s : St} {a : Act} {w w' : World} (r : Rel B φ s a w) (hh : HRel φ' s.hp s.nx w') (ev : Evo φ s.hp w φ' s.hp w') : Rel B φ' s a w' :=
  ⟨r.sz, Nat.le_trans r.bs ev.size, ev.D r.df, fun j v hj => ev.V (r.sl j v hj), hh.ob, hh.fr, hh.dj⟩
theorem Rel.below {φ : Phi} {s : St} {a : Act} {w w' : World} (r : Rel B φ s a w) (hb : Go.RowKit.Below w.heap.size w w') : Rel B φ s a w' ∧ Evo φ s.hp w φ s.hp w' := by
  obtain ⟨h1, h2⟩ := below_h r.h hb
  exact ⟨r.evo h1 h2, h2⟩
theorem HRel.okNew {φ : Phi} {hp : Hp} {nx : Nat} {w : World} (h : HRel φ hp nx w) {b : Nat} (hb : w.heap.size ≤ b) : okb φ hp b := fun id o p h1 h2 h3 => by
  obtain ⟨q, hq, hl⟩ := (h.ob id o h1).has
  rw [h2] at hq; cases hq
  have := hl b h3
  omega
end Go.VM
set_option autoImplicit false
set_option linter.all false
namespace Go.VM
open Go Go.Lib
variable {B : Nat × Bool}

/-! ### 1. The generator -/
/-- A row that is nil becomes an empty row of the call's own: in a slot, or in a cell of the variable that a slot points to. -/
def adopt (s : St) (j : Nat) (i : Option Nat) (et : TypeId) (e : Ty) : Option St := match i with
  | none => match s.look j with
    | .c .nils => some { s with sl := setA s.sl j (.c (.own s.nx 0)), hp := (s.nx, .row et e []) :: s.hp, nx := s.nx + 1 }
    | _ => none
  | some i => match s.look j with
    | .c (.ptr id 0) => match lookA s.hp id with
      | some (.box t cs) => match cs[i]? with
        | some .nils => some { s with hp := setA ((s.nx, .row et e []) :: s.hp) id (.box t (cs.set i (.own s.nx 0))), nx := s.nx + 1 }
        | _ => none
      | _ => none
    | _ => none

def adopts : List (Nat × Option Nat × TypeId × Ty) → St → Option St
  | [], s => some s
  | (j, i, et, e) :: l, s => match adopt s j i et e with
    | some s => adopts l s
    | none => none

/-- What is written at a loop. -/
structure Ann : Type 1 where
  js : List Nat
  ren : St → List Nat
  ad : List (Nat × Option Nat × TypeId × Ty)
  X : Type
  c : St → X → St
  ext : St → X
  I : St → X → Prop
  mu : St → X → Nat

def loopVC (an : Ann) (body : St → Kont → VC) (s : St) (k : Kont) : VC := match adopts an.ad s with
  | none => .bad
  | some s1 => match norm s1.nx an.js (an.ren s1) s1 with
    | none => .bad
    | some n0 => .obl (n0 = an.c n0 (an.ext n0)) (.obl (an.I n0 (an.ext n0)) (.all an.X fun x => .imp (an.I n0 x) (body (an.c n0 x) fun e s2 => match e with
        | .normal => match norm s1.nx an.js (an.ren s2) s2 with
          | some n2 => .ok (n2 = an.c n0 (an.ext n2) ∧ an.I n0 (an.ext n2) ∧ an.mu n0 (an.ext n2) < an.mu n0 x)
          | none => .bad
        | .exit id => k (.exit id) s2
        | .ret => k .ret s2)))

def unroll (body : St → Kont → VC) : Nat → St → Kont → VC
  | 0, _, _ => .bad
  | n + 1, s, k => body s fun e s2 => match e with
    | .normal => unroll body n s2 k
    | .exit id => k (.exit id) s2
    | .ret => k .ret s2

/-- What is written at a range over a function. -/
structure RAnn : Type 1 where
  js : List Nat
  ren : St → List Nat
  ad : List (Nat × Option Nat × TypeId × Ty)
  X : Type
  c : St → X → St
  ext : St → X
  I : St → Nat → X → Prop

/-- Behind a round: its slots are as they were. -/
def backS (s s2 : St) : St := { s with hp := s2.hp, nx := s2.nx }

def rangeVC (L : Lv) (spc : Spc) (an : RAnn) (f : Operand) (ps : Array Tmp) (gA gB : St → Kont → VC) (s : St) (k : Kont) : VC := match adopts an.ad s with
  | none => .bad
  | some s0 => match s0.ev f with
    | .c (.fn g caps) => match spc.it g with
      | none => .bad
      | some it => match viewCaps L (lookA s0.hp) it.ins caps with
        | none => .bad
        | some (v, ids) => match hasAmb (lookA s0.hp) ids with
          | false => .bad
          | true => match norm s0.nx an.js (an.ren { s0 with hp := delAll s0.hp ids }) { s0 with hp := delAll s0.hp ids } with
            | none => .bad
            | some n0 => .obl (it.pre v) (.obl (n0 = an.c n0 (an.ext n0)) (.obl (an.I n0 0 (an.ext n0)) (.all Bool fun b => .br b
                (.all an.X fun x => .all Nat fun i => .all (Ds it.el) fun y => .imp (L.nth (Ds it.el) (it.fn v) i y ∧ an.I n0 i x) (match putPs ps.toList it.el y (an.c n0 x) with
                  | none => .bad
                  | some s2 => match hasAmb (lookA s2.hp) [] with
                   | false => .bad
                   | true => gA s2 fun e s3 => match e with
                    | .normal => gB s3 fun e s4 => match hasAmb (lookA s4.hp) [] with
                     | false => .bad
                     | true => match e with
                      | .normal => match norm s0.nx an.js (an.ren (backS (an.c n0 x) s4)) (backS (an.c n0 x) s4) with
                        | some n2 => .ok (n2 = an.c n0 (an.ext n2) ∧ an.I n0 (i + 1) (an.ext n2))
                        | none => .bad
                      | .exit id => k (.exit id) (backS (an.c n0 x) s4)
                      | .ret => k .ret (backS (an.c n0 x) s4)
                    | _ => .bad))
                (.all an.X fun x => .imp (an.I n0 (L.cnt (Ds it.el) (it.fn v)) x) (k .normal (an.c n0 x))))))
    | _ => .bad

inductive LAnn : Type 1
  | no
  | un (n : Nat)
  | an (a : Ann)
  | rf (a : RAnn)

abbrev Plan := List (Nat × List Nat)

/-- A row of one's own is given away: from here on the slot holds a list. -/
def pub1 (L : Lv) (s : St) (j : Nat) : St := match s.look j with
  | .c (.own id n) => match lookA s.hp id with
    | some (.row _ e _) => match viewV L (lookA s.hp) (.sl e) (.c (.own id n)) with
      | some (x, ids) => { s with hp := delAll s.hp ids }.put (some j) (outV (.sl e) x)
      | none => s
    | _ => s
  | _ => s
def pubAll (L : Lv) : List (Nat × List Nat) → St → St
  | [], s => s
  | p :: l, s => pubAll L l (pub1 L s p.1)

def vcgC (L : Lv) (E : Ev) (call : CallG) (spc : Spc) (pl : Nat → Plan) (ann : Nat → LAnn) : Nat → Code → St → Kont → VC
  | _, .skip, s, k => k .normal s
  | _, .region id ops draw, s, k => match draw with
    | true => drawGo L E spc ops (pl id) [] s (k .normal)
    | false => vcgOps L E call ops ops.toList (pubAll L (pl id) s) (k .normal)
  | b, .seq x y, s, k => vcgC L E call spc pl ann b x s fun e s1 => match e with
    | .normal => vcgC L E call spc pl ann b y s1 k
    | .exit id => k (.exit id) s1
    | .ret => k .ret s1
  | b, .cond c x y, s, k => match s.ev c with
    | .c (.bool true) => vcgC L E call spc pl ann b x s k
    | .c (.bool false) => vcgC L E call spc pl ann b y s k
    | .c (.sym q) => .br q (vcgC L E call spc pl ann b x s k) (vcgC L E call spc pl ann b y s k)
    | _ => .bad
  | _, .block id c, s, k => vcgC L E call spc pl ann id c s fun e s1 => match e with
    | .normal => k .normal s1
    | .exit id' => if Nat.beq id' id then k .normal s1 else k (.exit id') s1
    | .ret => k .ret s1
  | b, .loop c, s, k => match ann b with
    | .no => .bad
    | .un n => unroll (vcgC L E call spc pl ann b c) n s k
    | .an a => loopVC a (vcgC L E call spc pl ann b c) s k
    | .rf _ => .bad
  | b, .rangeFunc f ps x y, s, k => match ann b with
    | .rf a => rangeVC L spc a f ps (vcgC L E call spc pl ann b x) (vcgC L E call spc pl ann b y) s k
    | _ => .bad
  | _, .exit id, s, k => k (.exit id) s
  | _, .label _, s, k => k .normal s
  | _, .ret, s, k => k .ret s
  | _, _, _, _ => .bad

/-! ### 2. Soundness -/
def EndsC (B : Nat × Bool) (φ : Phi) (hp : Hp) (w : World) (n : Nat) (k : Kont) (e : Exit) (a' : Act) (w' : World) : Prop := ∃ x : Ex, x.to = e ∧ Ends B φ hp w n (k x) a' w'

/-- The generator is sound at a piece of code. -/
def CodeOk (F : Fence) (B : Nat × Bool) (P : Program) (c : Code) (gen : St → Kont → VC) : Prop := ∀ (m : Nat) (φ : Phi) (s : St) (a : Act) (w : World) (k : Kont) (Q : Exit → Act → World → Prop),
  (gen s k).holds → Rel B φ s a w → (∀ e a' w', EndsC B φ s.hp w s.n k e a' w' → Q e a' w') → c.wpIn F m P Q a w

section
variable {P : Program} {E : Ev}

theorem Ends.from {φ φ' : Phi} {hp hp' : Hp} {w w' : World} {n : Nat} {k : St → VC} {a2 : Act} {w2 : World} (ev : Evo φ hp w φ' hp' w') (h : Ends B φ' hp' w' n k a2 w2) : Ends B φ hp w n k a2 w2 := by
  obtain ⟨φ2, s2, t1, t2, t3, t4⟩ := h
  exact ⟨φ2, s2, t1, ev.trans t2, t3, t4⟩

theorem least (p : Nat → Prop) (h : ∃ n, p n) : ∃ n, p n ∧ ∀ m, p m → n ≤ m := by
  obtain ⟨n, hn⟩ := h
  induction n using Nat.strongRecOn with
  | _ n ih =>
    by_cases hx : ∃ m, m < n ∧ p m
    · obtain ⟨m, h1, h2⟩ := hx; exact ih m h1 h2
    · exact ⟨n, hn, fun m hm => by
        rcases Nat.lt_or_ge m n with h | h
        · exact absurd ⟨m, h, hm⟩ hx
        · exact h⟩

/-- A loop whose measure is of a thing that is told beside. -/
theorem wp_loop_g {F : Fence} {m : Nat} {c : Code} {Q : Exit → Act → World → Prop} {G : Type} (I : G → Act → World → Prop) (μ : G → Nat) {a : Act} {w : World} (h0 : ∃ g, I g a w)
    (round : ∀ g a w, I g a w → c.wpIn F m P (Exit.then (fun a' w' => ∃ g', I g' a' w' ∧ μ g' < μ g) Q) a w) : (Code.loop c).wpIn F m P Q a w := by
  have hm : ∀ (a : Act) (w : World), ∃ n, (∃ g, I g a w) → (∃ g, I g a w ∧ μ g = n) ∧ ∀ g, I g a w → n ≤ μ g := by
    intro a w
    by_cases h : ∃ g, I g a w
    · obtain ⟨g, hg⟩ := h
      obtain ⟨n, h1, h2⟩ := least (fun n => ∃ g, I g a w ∧ μ g = n) ⟨μ g, g, hg, rfl⟩
      exact ⟨n, fun _ => ⟨h1, fun g hg => h2 _ ⟨g, hg, rfl⟩⟩⟩
    · exact ⟨0, fun hh => absurd hh h⟩
  refine wpIn_loop (fun a w => ∃ g, I g a w) (fun a w => Classical.choose (hm a w)) h0 fun a w hI => ?_
  obtain ⟨⟨g, hg, hgn⟩, _⟩ := Classical.choose_spec (hm a w) hI
  refine wpIn_mono (round g a w hg) fun e a' w' he => ?_
  cases e with
  | normal =>
    obtain ⟨g', h1, h2⟩ := he
    refine ⟨⟨g', h1⟩, ?_⟩
    have := (Classical.choose_spec (hm a' w') ⟨g', h1⟩).2 g' h1
    omega
  | _ => exact he

theorem adopt_ok {φ : Phi} {s s' : St} {a : Act} {w : World} {j : Nat} {i : Option Nat} {et : TypeId} {e : Ty} (h : adopt s j i et e = some s') (hr : Rel B φ s a w) :
    ∃ φ', Rel B φ' s' a w ∧ Evo φ s.hp w φ' s'.hp w ∧ s'.n = s.n := by
  have hb := Go.RowKit.Below.refl w.heap.size w
  have hpl : ∀ b, Place.nil.S b → w.heap.size ≤ b := fun b hb => hb.elim
  have hn := hr.h.new (Nat.le_refl s.nx) (.row et e []) .nil hb hpl (.inl ⟨phiSet_self _ _ _, rfl⟩)
  have ev := evo_new hr.h (Nat.le_refl s.nx) (.row et e []) .nil hb hpl
  unfold adopt at h
  cases i with
  | none =>
    simp only at h
    split at h
    · rename_i hl
      cases h
      refine ⟨_, ⟨hr.sz, hr.bs, ev.D hr.df, fun q v hv => ?_, hn.ob, hn.fr, hn.dj⟩, ev, rfl⟩
      change lookA (setA s.sl j _) q = some v at hv
      rw [lookA_setA] at hv
      split at hv
      · rename_i hq
        cases hv
        subst hq
        have hv := ev_ok hr (.tmp q)
        have hv' : Vrel φ (okb φ s.hp) w (s.look q) (a.tmps.getD q undef) := hv
        rw [hl] at hv'
        exact .inl ⟨phiSet_self _ _ _, rfl, none, hv'⟩
      · exact ev.V (hr.sl q v hv)
    · cases h
  | some i =>
    simp only at h
    split at h
    · rename_i id hl
      split at h
      · rename_i t cs ho
        split at h
        · rename_i hc
          cases h
          have hne : id ≠ s.nx := fun e => by have := hr.h.lt ho; omega
          have ho' : lookA ((s.nx, Ob.row et e []) :: s.hp) id = some (.box t cs) := by
            simp only [lookA, ifb]
            rw [if_neg (fun e => hne e.symm)]; exact ho
          obtain ⟨b, vs, h1, h2, h3⟩ := hn.ob id _ ho'
          have ht : Turned w w b := ⟨rfl, rfl, rfl, rfl, fun _ _ => rfl⟩
          have ev2 := evo_upd (φ := phiSet φ s.nx .nil) ho' h1 (show (Place.at b 1 0 0).S b from rfl) ht [] (.box t (cs.set i (.own s.nx 0)))
          have hu := hn.upd ho' h1 (show (Place.at b 1 0 0).S b from rfl) ht [] (.box t (cs.set i (.own s.nx 0))) (by
            refine ⟨b, vs, h1, h2, ?_⟩
            have h3' := L2_mono (fun _ _ hh => ev2.C hh) h3
            obtain ⟨v, hv1, hv2⟩ := L2_get h3' hc
            have : vs = vs.set i v := by
              refine List.ext_getElem? fun q => ?_
              by_cases hq : i = q
              · subst hq
                rw [List.getElem?_set_self (List.getElem?_eq_some_iff.1 hv1).1]; exact hv1
              · rw [List.getElem?_set_ne hq]
            rw [this]
            exact L2_set (.inl ⟨phiSet_self _ _ _, rfl, none, hv2⟩) i h3')
          refine ⟨_, ⟨hr.sz, hr.bs, (ev.trans ev2).D hr.df, fun q v hv => (ev.trans ev2).V (hr.sl q v hv), hu.ob, hu.fr, hu.dj⟩, ev.trans ev2, rfl⟩
        · cases h
      · cases h
    · cases h

theorem adopts_ok : ∀ (l : List (Nat × Option Nat × TypeId × Ty)) {φ : Phi} {s s' : St} {a : Act} {w : World}, adopts l s = some s' → Rel B φ s a w → ∃ φ', Rel B φ' s' a w ∧ Evo φ s.hp w φ' s'.hp w ∧ s'.n = s.n
  | [], φ, s, s', a, w, h, hr => by cases h; exact ⟨φ, hr, Evo.refl _ _ _, rfl⟩
  | (j, i, et, e) :: l, φ, s, s', a, w, h, hr => by
    unfold adopts at h
    split at h
    · rename_i s1 h1
      obtain ⟨φ1, r1, e1, n1⟩ := adopt_ok h1 hr
      obtain ⟨φ2, r2, e2, n2⟩ := adopts_ok l h r1
      exact ⟨φ2, r2, e1.trans e2, n2.trans n1⟩
    · cases h

theorem loop_sound {F : Fence} {c : Code} {gen : St → Kont → VC} (an : Ann) (hb : CodeOk F B P c gen) : CodeOk F B P (.loop c) (loopVC an gen) := by
  intro m φ s a w k Q h hr hQ
  unfold loopVC at h
  split at h
  · exact h.elim
  · rename_i s1 hs1
    obtain ⟨φ1, r1, e1, m1⟩ := adopts_ok an.ad hs1 hr
    have hfr : ∀ id, s1.nx ≤ id → φ id = none := fun id hid => by
      cases hp : φ id with
      | none => rfl
      | some p => have := e1.ph id p hp; rw [r1.fr id hid] at this; cases this
    split at h
    · exact h.elim
    · rename_i n0 hn0
      obtain ⟨h1, h2, h3⟩ := h
      obtain ⟨r0, m0, e0, _⟩ := norm_ok hn0 r1
      refine wp_loop_g (fun (x : an.X) a' w' => an.I n0 x ∧ ∃ φ', Rel B φ' (an.c n0 x) a' w' ∧ Evo φ s.hp w φ' (an.c n0 x).hp w' ∧ (an.c n0 x).n = s.n) (an.mu n0) ⟨an.ext n0, h2, phiRen φ1 s1.nx (an.ren s1), ?_⟩ ?_
      · rw [← h1]; exact ⟨r0, e0 _ _ _ hfr e1, m0.trans m1⟩
      · rintro x a1 w1 ⟨hI, φ', r2, e2, m2⟩
        refine hb m φ' (an.c n0 x) a1 w1 _ _ (h3 x hI) r2 ?_
        rintro e a2 w2 ⟨y, rfl, he⟩
        have he' := he.from e2
        rw [m2] at he'
        cases y with
        | normal =>
          obtain ⟨φ3, s3, t1, t2, t3, t4⟩ := he'
          simp only at t4
          split at t4
          · rename_i n2 hn2
            obtain ⟨q1, q2, q3⟩ := t4
            obtain ⟨r4, m4, e4, _⟩ := norm_ok hn2 t1
            refine ⟨an.ext n2, ⟨q2, phiRen φ3 s1.nx (an.ren s3), ?_⟩, q3⟩
            rw [← q1]; exact ⟨r4, e4 _ _ _ hfr t2, m4.trans t3⟩
          · exact t4.elim
        | exit id => exact hQ _ _ _ ⟨.exit id, rfl, he'⟩
        | ret => exact hQ _ _ _ ⟨.ret, rfl, he'⟩

theorem unroll_sound {F : Fence} {c : Code} {gen : St → Kont → VC} (hb : CodeOk F B P c gen) (n : Nat) : CodeOk F B P (.loop c) (unroll gen n) := by
  intro m φ s a w k Q h hr hQ
  refine wp_loop_g (fun (x : Nat) a' w' => ∃ φ' s', (unroll gen x s' k).holds ∧ Rel B φ' s' a' w' ∧ Evo φ s.hp w φ' s'.hp w' ∧ s'.n = s.n) (fun x => x) ⟨n, φ, s, h, hr, Evo.refl _ _ _, rfl⟩ ?_
  rintro x a1 w1 ⟨φ', s', h', r', e', m'⟩
  cases x with
  | zero => exact h'.elim
  | succ x =>
    refine hb m φ' s' a1 w1 _ _ h' r' ?_
    rintro e a2 w2 ⟨y, rfl, he⟩
    have he' := he.from e'
    rw [m'] at he'
    cases y with
    | normal =>
      obtain ⟨φ3, s3, t1, t2, t3, t4⟩ := he'
      exact ⟨x, ⟨φ3, s3, t4, t1, t2, t3⟩, Nat.lt_succ_self _⟩
    | exit id => exact hQ _ _ _ ⟨.exit id, rfl, he'⟩
    | ret => exact hQ _ _ _ ⟨.ret, rfl, he'⟩

/-- No range over a function is in it. -/
def noRf : Code → Bool
  | .seq x y => noRf x && noRf y
  | .cond _ x y => noRf x && noRf y
  | .block _ c => noRf c
  | .loop c => noRf c
  | .rangeFunc _ _ _ _ => false
  | _ => true

/-- The plans are right. -/
def plansOk (pl : Nat → Plan) : Code → Bool
  | .region id ops draw => !draw || planOk ops (pl id)
  | .seq x y => plansOk pl x && plansOk pl y
  | .cond _ x y => plansOk pl x && plansOk pl y
  | .block _ c => plansOk pl c
  | .loop c => plansOk pl c
  | .rangeFunc _ _ x y => plansOk pl x && plansOk pl y && noRf x && noRf y
  | _ => true

theorem put_self (a : Act) (j : Nat) : a.put (some j) (a.tmps.getD j undef) = a := by
  show { a with tmps := a.tmps.setIfInBounds j (a.tmps.getD j undef) } = a
  have : a.tmps.setIfInBounds j (a.tmps.getD j undef) = a.tmps := by
    apply Array.ext
    · simp
    · intro i h1 h2
      rw [Array.getElem_setIfInBounds h2]
      split
      · rename_i e; subst e; simp [Array.getD_eq_getD_getElem?, h2]
      · rfl
  rw [this]
theorem pub1_ok {φ : Phi} {s : St} {a : Act} {w : World} (hr : Rel B φ s a w) (j : Nat) : Rel B φ (pub1 Lv.std s j) a w ∧ Evo φ s.hp w φ (pub1 Lv.std s j).hp w ∧ (pub1 Lv.std s j).n = s.n := by
  unfold pub1
  split
  rotate_left
  · exact ⟨hr, Evo.refl _ _ _, rfl⟩
  rename_i id n hl
  split
  rotate_left
  · exact ⟨hr, Evo.refl _ _ _, rfl⟩
  rename_i t e l ho
  split
  rotate_left
  · exact ⟨hr, Evo.refl _ _ _, rfl⟩
  rename_i x ids hv
  have hh : HRel φ s.hp s.nx w := ⟨hr.ob, hr.fr, hr.dj⟩
  have hs : lookA s.sl j = some (.c (.own id n)) := by
    unfold St.look at hl
    cases h : lookA s.sl j with
    | none => rw [h] at hl; cases hl
    | some y => rw [h] at hl; exact congrArg some hl
  have hK := viewV_ok hh hv (hr.sl j _ hs)
  obtain ⟨q1, q2, q3⟩ := hr.put (delAll s.hp ids) s.nx (hh.delAll ids) (evo_delAll φ w ids s.hp) (some j) (outV (.sl e) x) (a.tmps.getD j undef) (outV_ok hK)
  rw [put_self] at q1
  have q2' : ({ s with hp := delAll s.hp ids }.put (some j) (outV (.sl e) x)).hp = delAll s.hp ids := q2
  exact ⟨q1, by rw [q2']; exact evo_delAll φ w ids s.hp, q3⟩
theorem pubAll_ok {φ : Phi} {a : Act} {w : World} : ∀ (l : List (Nat × List Nat)) (s : St), Rel B φ s a w → Rel B φ (pubAll Lv.std l s) a w ∧ Evo φ s.hp w φ (pubAll Lv.std l s).hp w ∧ (pubAll Lv.std l s).n = s.n
  | [], s, h => ⟨h, Evo.refl _ _ _, rfl⟩
  | p :: l, s, h => by
    obtain ⟨h1, h2, h3⟩ := pub1_ok h p.1
    obtain ⟨k1, k2, k3⟩ := pubAll_ok l _ h1
    exact ⟨k1, h2.trans k2, k3.trans h3⟩

theorem range_sound (hB2 : B.2 = true) {spc : Spc} (hits : ∀ g it, spc.it g = some it → ItOk P g it) (an : RAnn) (f : Operand) (ps : Array Tmp) {cA cB : Code} {gA gB : St → Kont → VC} (hA : ∀ l, CodeOk (Fence.wide.inRound l) B P cA gA) (hB : ∀ l, CodeOk (Fence.wide.inRound l) B P cB gB) :
    CodeOk Fence.wide B P (.rangeFunc f ps cA cB) (rangeVC Lv.std spc an f ps gA gB) := by
  intro m φ s a w k Q h hr hQ
  unfold rangeVC at h
  split at h
  · exact h.elim
  rename_i s0 hs0
  obtain ⟨φ0, r0, e0, m0⟩ := adopts_ok an.ad hs0 hr
  split at h
  rotate_left
  · exact h.elim
  rename_i g caps hf
  split at h
  · exact h.elim
  rename_i it hit
  split at h
  · exact h.elim
  rename_i v ids hv
  split at h
  · exact h.elim
  rename_i ha
  split at h
  · exact h.elim
  rename_i n0 hn0
  obtain ⟨hpre, h1, h2, h3⟩ := h
  have hround := (h3 true).1 rfl
  have hafter := (h3 false).2 rfl
  clear h3
  have hfv : Vrel φ0 (okb φ0 s0.hp) w (.c (.fn g caps)) (a.eval f) := by rw [← hf]; exact ev_ok r0 f
  obtain ⟨vs, hv1, hv2⟩ := hfv
  have hGl := hasAmb_ok r0.h ha
  have hCaps := viewCaps_ok r0.h it.ins caps vs v ids hv hv2
  have ed := evo_delAll φ0 w ids s0.hp
  have r1 : Rel B φ0 { s0 with hp := delAll s0.hp ids } a w := ⟨r0.sz, r0.bs, ed.D r0.df, fun j v hj => ed.V (r0.sl j v hj), (r0.h.delAll ids).ob, r0.fr, (r0.h.delAll ids).dj⟩
  obtain ⟨rn, mn, en, okn⟩ := norm_ok hn0 r1
  have e1 : Evo φ s.hp w φ0 (delAll s0.hp ids) w := e0.trans ed
  obtain ⟨⟨fn, q1, q2, q3⟩, hflat, hitk⟩ := hits g it hit
  have hitk := hitk (okb φ0 (delAll s0.hp ids)) w vs v hGl hCaps hpre
  refine wpIn_rangeFunc fun fn' _ => ?_
  obtain ⟨rec, hrec⟩ : ∃ rec : LoopState → Option Code → Loop, rec = fun st pe => { state := st, pending := pe, fn := fn', tmps := a.tmps, params := ps, assign := cA, body := cB, defers := w.heap.size } := ⟨_, rfl⟩
  obtain ⟨W1, hW1⟩ : ∃ W1, (w.alloc (.deferred (some []))).alloc (.loop (rec .ready none)) = W1 := ⟨_, rfl⟩
  have hL1 : W1.heap[w.heap.size + 1]? = some (.loop (rec .ready none)) := by
    rw [← hW1]; have := World.alloc_heap_new (w.alloc (.deferred (some []))) (.loop (rec .ready none)); rwa [World.size_alloc] at this
  have hK1 : W1.heap[w.heap.size]? = some (.deferred (some [])) := by
    rw [← hW1]; exact (Go.RowKit.Below.heap_alloc _ _ _ (by simp)).trans (World.alloc_heap_new w _)
  have hb1 : Go.RowKit.Below w.heap.size w W1 := by
    rw [← hW1]; exact ((Go.RowKit.Below.refl _ w).alloc (Nat.le_refl _) _).alloc (by simp) _
  let a' : Act := { a with defers := mkD w.heap.size :: a.defers }
  let J : List (Ds it.el) → (Nat → Prop) → World → Prop := fun pre C W => ∃ x φ', an.I n0 pre.length x ∧ Rel B φ' (an.c n0 x) a W ∧ Evo φ0 (delAll s0.hp ids) w φ' (an.c n0 x).hp W ∧ (an.c n0 x).n = s.n ∧
    W.heap[w.heap.size + 1]? = some (.loop (rec .ready none)) ∧ W.heap[w.heap.size]? = some (.deferred (some [])) ∧ okb φ' (an.c n0 x).hp (w.heap.size + 1) ∧ okb φ' (an.c n0 x).hp w.heap.size ∧
    ∀ b, C b ↔ (¬ okb φ' (an.c n0 x).hp b ∨ b = w.heap.size + 1)
  let Jx : List (Ds it.el) → (Nat → Prop) → World → Prop := fun pre C W => ∃ (y : Ex) (c : Code) (φ' : Phi) (s' : St), y.code = some c ∧ Rel B φ' s' a' W ∧ Evo φ0 (delAll s0.hp ids) w φ' s'.hp W ∧ s'.n = s.n ∧ (k y s').holds ∧
    W.heap[w.heap.size + 1]? = some (.loop (rec .done (some c))) ∧ okb φ' s'.hp (w.heap.size + 1)
  have hJ : Grows J := by
    rintro pre C W W' ⟨x, φ', i1, i2, i3, i4, i5, i6, i7, i8, i9⟩ hb
    obtain ⟨b1, b2⟩ := i2.below hb
    exact ⟨x, φ', i1, b1, i3.trans b2, i4, (hb.block _ (Array.getElem?_eq_some_iff.1 i5).1).trans i5, (hb.block _ (Array.getElem?_eq_some_iff.1 i6).1).trans i6, i7, i8, i9⟩
  have hJx : Grows Jx := by
    rintro pre C W W' ⟨y, c, φ', s', i1, i2, i3, i4, i5, i6, i7⟩ hb
    obtain ⟨b1, b2⟩ := i2.below hb
    exact ⟨y, c, φ', s', i1, b1, i3.trans b2, i4, i5, (hb.block _ (Array.getElem?_eq_some_iff.1 i6).1).trans i6, i7⟩
  have ltC : ∀ {φ' : Phi} {s' : St} {a : Act} {W : World}, Rel B φ' s' a W → w.heap.size + 1 < W.heap.size → ∀ b, (¬ okb φ' s'.hp b ∨ b = w.heap.size + 1) → b < W.heap.size := fun hr hl b hb => by
    rcases hb with hb | rfl
    · rcases Nat.lt_or_ge b _ with h | h
      · exact h
      · exact absurd (hr.h.okNew h) hb
    · exact hl
  let C0 : Nat → Prop := fun b => ¬ okb (phiRen φ0 s0.nx (an.ren { s0 with hp := delAll s0.hp ids })) n0.hp b ∨ b = w.heap.size + 1
  have hJ0 : J [] C0 W1 := by
    have evn := en φ0 (delAll s0.hp ids) w (fun id hid => r0.fr id hid) (Evo.refl _ _ _)
    obtain ⟨b1, b2⟩ := rn.below hb1
    refine ⟨an.ext n0, phiRen φ0 s0.nx (an.ren { s0 with hp := delAll s0.hp ids }), h2, ?_⟩
    rw [← h1]
    exact ⟨b1, evn.trans b2, mn.trans m0, hL1, hK1, rn.h.okNew (by omega), rn.h.okNew (Nat.le_refl _), fun b => Iff.rfl⟩
  refine ⟨w.heap.size + 1, [mkD w.heap.size], W1, { target := .fn (.func g) vs.toArray, args := #[.func (.yield (w.heap.size + 1)) #[] #[]] }, W1, g,
    (Value.func (.yield (w.heap.size + 1)) #[] #[] :: vs).toArray, W1, ?_, ?_, fun _ _ => trivial, ?_, fun h => (by cases h), callsIn_wide.2 ((hitk (w.heap.size + 1) J Jx W1 C0 hb1 (fun b hb => ⟨ltC (rn.below hb1).1 (Array.getElem?_eq_some_iff.1 hL1).1 b hb, fun hh => ?_⟩) hJ hJx ?_ hJ0).mono ?_)⟩
  · rw [← hW1, hrec]; exact run_enterLoop_outer _ _ _ _ _
  · simp only [resolve, hv1]
    simp [go_sem]
  · have : (Value.func (.yield (w.heap.size + 1)) #[] #[] :: vs).toArray = #[.func (.yield (w.heap.size + 1)) #[] #[]] ++ vs.toArray := by apply Array.ext'; simp
    rw [this]
    simp only [invoke, Sem.run_bind, Sem.run_pure, Result.andThen_ok]
    exact run_callFunc q1 q2 q3
  · rcases hb with hb | hb
    · exact hb (okn b hh.2)
    · omega
  · -- a round
    rintro pre y rest W C hL ⟨x, φ', hI, i2, i3, i4, i5, i6, i7, i8, i9⟩
    have hh := hround x pre.length y ⟨by show (it.fn v)[pre.length]? = some y; rw [hL]; simp, hI⟩
    split at hh
    · exact hh.elim
    rename_i s2 hs2
    split at hh
    · exact hh.elim
    rename_i hamb2
    have i2' : Rel B φ' (an.c n0 x) { tmps := a.tmps, defers := [] } W := ⟨i2.sz, i2.bs, Dfs.nil _ _ _, i2.sl, i2.ob, i2.fr, i2.dj⟩
    obtain ⟨j1, j2, j3, j4, j5⟩ := putPs_ok ps.toList it.el y _ s2 a.tmps hflat hs2 i2'
    have hsz : (encs it.el y).toArray.size = ps.size := by simpa using j5
    have hlt : w.heap.size + 1 < W.heap.size := (Array.getElem?_eq_some_iff.1 i5).1
    refine ⟨fn', _, cA, cB, ?_, roundIn_of_wpIn trivial (hA _ _ φ' s2 { tmps := (ps.zip (encs it.el y).toArray).foldl (fun t (p, v) => t.setIfInBounds p v) a.tmps, defers := [] } W _ _ hh ?_ ?_)⟩
    · have := run_yield (P := P) (args := (encs it.el y).toArray) i5 (by rw [hrec]; exact hsz)
      rw [hrec] at this
      exact this
    · have : (ps.zip (encs it.el y).toArray).foldl (fun t (p, v) => t.setIfInBounds p v) a.tmps = (ps.toList.zip (encs it.el y)).foldl (fun t (p : Tmp × Value) => t.setIfInBounds p.1 p.2) a.tmps := by
        rw [← Array.foldl_toList]
        simp
      rw [this]; exact j1
    rintro e a3 W3 ⟨z, rfl, φ3, s3, t1, t2, t3, t4⟩
    cases z with
    | exit id => exact t4.elim
    | ret => exact t4.elim
    | normal =>
    have ol2 : okb φ' s2.hp (w.heap.size + 1) := by rw [j2]; exact i7
    have oD2 : okb φ' s2.hp w.heap.size := by rw [j2]; exact i8
    have hl3 : W3.heap[w.heap.size + 1]? = some (.loop (rec .ready none)) := (t2.bl _ hlt ol2).trans i5
    have hD3 : W3.heap[w.heap.size]? = some (.deferred (some [])) := (t2.bl _ (by omega) oD2).trans i6
    have ol3 := t2.ok ol2 hlt
    have oD3 := t2.ok oD2 (by omega)
    refine ⟨_, run_beginRound hl3 (by rw [hrec]), ?_⟩
    have hsz3 : W.heap.size ≤ W3.heap.size := t2.size
    have hl3' : (W3.putObj (w.heap.size + 1) (.loop { rec .ready none with state := .busy })).heap[w.heap.size + 1]? = some (.loop { rec .ready none with state := .busy }) := World.putObj_heap_same (by omega)
    have hD3' : (W3.putObj (w.heap.size + 1) (.loop { rec .ready none with state := .busy })).heap[w.heap.size]? = some (.deferred (some [])) := (World.putObj_heap_other (by omega)).trans hD3
    have i3' : Evo φ0 (delAll s0.hp ids) w φ' s2.hp W := by rw [j2]; exact i3
    have ev3 := Evo_turn (o' := .loop { rec .ready none with state := .busy }) (r := w.heap.size + 1) (i3'.trans t2) (by omega)
    refine hB _ _ φ3 s3 a3 _ _ _ t4 (Rel_turn hl3 rfl (by simp) t1 ol3) ?_
    rintro e a4 W4 ⟨z, rfl, φ4, s4, u1, u2, u3, u4⟩
    have hlt4 : w.heap.size + 1 < W4.heap.size := by have := u2.size; rw [World.putObj_size] at this; omega
    have hl4 : W4.heap[w.heap.size + 1]? = some (.loop { rec .ready none with state := .busy }) := (u2.bl _ (by rw [World.putObj_size]; omega) ol3).trans hl3'
    have hD4 : W4.heap[w.heap.size]? = some (.deferred (some [])) := (u2.bl _ (by rw [World.putObj_size]; omega) oD3).trans hD3'
    have ol4 := u2.ok ol3 (by rw [World.putObj_size]; omega)
    have oD4 := u2.ok oD3 (by rw [World.putObj_size]; omega)
    simp only at u4
    split at u4
    · exact u4.elim
    rename_i hamb4
    -- the package variables
    have hgl : ∀ b, glB b → W4.heap[b]? = W.heap[b]? := by
      have q2 : lookA s2.hp 0 = some .amb := by
        unfold hasAmb at hamb2; split at hamb2
        · assumption
        · cases hamb2
      have q4 : lookA s4.hp 0 = some .amb := by
        unfold hasAmb at hamb4; split at hamb4
        · assumption
        · cases hamb4
      obtain ⟨S2, v2, g1, g2, g3⟩ := i2.ob 0 .amb (by rw [← j2]; exact q2)
      obtain ⟨S4, v4, g4, g5, g6⟩ := u1.ob 0 .amb q4
      have := u2.ph _ _ (t2.ph _ _ g1)
      rw [g4] at this; cases this
      exact fun b hb => (g6 b (g2.2 b hb)).2.trans (g3 b (g2.2 b hb)).2.symm
    -- behind the round
    have fin : ∀ (jump : Option Code), (Instr.endRound (w.heap.size + 1) jump).run P W4 = .ok (.bool jump.isNone) (W4.putObj (w.heap.size + 1) (.loop (rec (if jump.isNone then .ready else .done) jump))) ∧
        Rel B φ4 (backS (an.c n0 x) s4) a (W4.putObj (w.heap.size + 1) (.loop (rec (if jump.isNone then .ready else .done) jump))) ∧ Evo φ0 (delAll s0.hp ids) w φ4 s4.hp (W4.putObj (w.heap.size + 1) (.loop (rec (if jump.isNone then .ready else .done) jump))) ∧
        Frm C W (W4.putObj (w.heap.size + 1) (.loop (rec (if jump.isNone then .ready else .done) jump))) ∧
        (W4.putObj (w.heap.size + 1) (.loop (rec (if jump.isNone then .ready else .done) jump))).heap[w.heap.size + 1]? = some (.loop (rec (if jump.isNone then .ready else .done) jump)) ∧
        (W4.putObj (w.heap.size + 1) (.loop (rec (if jump.isNone then .ready else .done) jump))).heap[w.heap.size]? = some (.deferred (some [])) := by
      intro jump
      have ev5 := Evo_turn (o' := .loop (rec (if jump.isNone then .ready else .done) jump)) (r := w.heap.size + 1) (ev3.trans u2) (by omega)
      have hh5 := H_turn (o' := .loop (rec (if jump.isNone then .ready else .done) jump)) hl4 rfl u1.h ol4
      refine ⟨?_, ⟨i2.sz, Nat.le_trans r1.bs ev5.size, ev5.D r1.df, fun j v hj => ?_, hh5.ob, hh5.fr, hh5.dj⟩, ev5, ⟨ev5.os.trans i3.os.symm, ev5.tape.trans i3.tape.symm, ev5.output.trans i3.output.symm, ?_, fun b hb hC => ?_, fun b hb => ?_⟩, World.putObj_heap_same hlt4, (World.putObj_heap_other (by omega)).trans hD4⟩
      · have := run_endRound (P := P) jump hl4
        rw [hrec] at this ⊢
        exact this
      · have q : Vrel φ' (okb φ' s2.hp) W v (a.tmps.getD j undef) := by rw [j2]; exact i2.sl j v hj
        exact V_turn hl4 rfl (u2.V (V_turn hl3 rfl (t2.V q)))
      · have := u2.size; rw [World.putObj_size] at this ⊢; omega
      · rw [i9, not_or, Classical.not_not] at hC
        obtain ⟨hC1, hC2⟩ := hC
        rw [← j2] at hC1
        rw [World.putObj_heap_other hC2]
        refine (u2.bl b (by rw [World.putObj_size]; omega) (t2.ok hC1 hb)).trans ?_
        rw [World.putObj_heap_other hC2]
        exact t2.bl b hb hC1
      · rw [World.putObj_heap_other (fun e => by
          have := hGl.1.sz
          rcases hb with rfl | rfl | rfl <;> simp only [glN] at this <;> omega)]
        exact hgl b hb
    have oldC : ∀ b, b < W.heap.size → ¬ okb φ4 s4.hp b ∨ b = w.heap.size + 1 → C b := fun b hb hC => (i9 b).2 (hC.imp_left fun h hk => h (u2.ok (t2.ok (by rw [j2]; exact hk) hb) (by rw [World.putObj_size]; omega)))
    have away : ∀ (z : Ex) (c : Code), z.code = some c → (k z (backS (an.c n0 x) s4)).holds → ∃ v W', (Instr.endRound (w.heap.size + 1) (some c)).run P W4 = .ok v W' ∧
        (Frm C W W' ∧ ∃ C', Next W W' C C' ∧ ((Ending.returned v = .returned (.bool true) ∧ J (pre ++ [y]) C' W') ∨ (Ending.returned v = .returned (.bool false) ∧ Jx (pre ++ [y]) C' W'))) := by
      intro z c hz hk
      obtain ⟨f1, f2, f3, f4, f5, f6⟩ := fin (some c)
      refine ⟨_, _, f1, f4, fun b => ¬ okb φ4 s4.hp b ∨ b = w.heap.size + 1, ⟨fun b hb => ltC f2 (Array.getElem?_eq_some_iff.1 f5).1 b hb, oldC⟩, .inr ⟨rfl, z, c, φ4, _, hz, ⟨f2.sz, f2.bs, ?_, f2.sl, f2.ob, f2.fr, f2.dj⟩, f3, i4, hk, f5, ol4⟩⟩
      obtain ⟨ll, d1, d2, _, d3⟩ := f2.df
      obtain ⟨l0, c1, c2, _, c3⟩ := r1.df
      refine ⟨w.heap.size :: ll, by show mkD w.heap.size :: a.defers = _; rw [d1]; rfl, List.nodup_cons.2 ⟨fun hm => ?_, d2⟩, fun h => (by rw [hB2] at h; cases h), fun D hD => ?_⟩
      · have : l0 = ll := by
          have e := c1.symm.trans d1
          refine (List.map_inj_right fun x y h => ?_).1 e
          unfold mkD at h
          injection h with h _
          injection h
        rw [← this] at hm
        have := (Array.getElem?_eq_some_iff.1 (c3 _ hm).2.1).1
        omega
      · rcases List.mem_cons.1 hD with rfl | hD
        · exact ⟨r1.bs, f6, oD4⟩
        · exact d3 D hD
    cases z with
    | exit id => exact away (.exit id) _ rfl u4
    | ret => exact away .ret _ rfl u4
    | normal =>
      obtain ⟨f1, f2, f3, f4, f5, f6⟩ := fin none
      simp only at u4
      split at u4
      · rename_i n2 hn2
        obtain ⟨v1, v2⟩ := u4
        obtain ⟨o1, o2, o3, o4⟩ := norm_ok hn2 f2
        refine ⟨_, _, f1, f4, fun b => ¬ okb (phiRen φ4 s0.nx (an.ren (backS (an.c n0 x) s4))) n2.hp b ∨ b = w.heap.size + 1, ⟨fun b hb => ltC o1 (Array.getElem?_eq_some_iff.1 f5).1 b hb, fun b hb hC => oldC b hb (hC.imp_left fun h hk => h (o4 b hk))⟩, .inl ⟨rfl, ?_⟩⟩
        refine ⟨an.ext n2, phiRen φ4 s0.nx (an.ren (backS (an.c n0 x) s4)), by simpa using v2, ?_⟩
        rw [← v1]
        exact ⟨o1, o3 _ _ _ (fun id hid => r0.fr id hid) f3, o2.trans i4, f5, f6, o4 _ ol4, o4 _ oD4, fun b => Iff.rfl⟩
      · exact u4.elim
  · -- behind the iterator
    rintro e W2 ⟨⟨v, rfl⟩, ⟨C, x, φ', hI, i2, i3, i4, i5, i6, i7, i8, i9⟩ | ⟨pre, C, y, c, φ', s', i1, i2, i3, i4, i5, i6, i7⟩⟩
    · refine ⟨none, _, by have := run_endLoop (P := P) i5 (by rw [hrec]; simp); rw [hrec] at this; exact this, hQ _ _ _ ⟨.normal, rfl, φ', an.c n0 x, Rel_turn i5 rfl (by simp) ⟨i2.sz, i2.bs, ?_, i2.sl, i2.ob, i2.fr, i2.dj⟩ i7, Evo_turn (e1.trans i3) (by omega), i4, hafter x hI⟩⟩
      obtain ⟨ll, d1, d2, _, d3⟩ := i2.df
      obtain ⟨l0, c1, c2, _, c3⟩ := r1.df
      refine ⟨w.heap.size :: ll, by show mkD w.heap.size :: a.defers = _; rw [d1]; rfl, List.nodup_cons.2 ⟨fun hm => ?_, d2⟩, fun h => (by rw [hB2] at h; cases h), fun D hD => ?_⟩
      · have : l0 = ll := by
          have e := c1.symm.trans d1
          refine (List.map_inj_right fun x y h => ?_).1 e
          unfold mkD at h
          injection h with h _
          injection h
        rw [← this] at hm
        have := (Array.getElem?_eq_some_iff.1 (c3 _ hm).2.1).1
        omega
      · rcases List.mem_cons.1 hD with rfl | hD
        · exact ⟨r1.bs, i6, i8⟩
        · exact d3 D hD
    · refine ⟨some c, _, by have := run_endLoop (P := P) i6 (by rw [hrec]; simp); rw [hrec] at this; exact this, ?_⟩
      have hE : EndsC B φ s.hp w s.n k y.to a' (W2.putObj (w.heap.size + 1) (.loop { rec .done (some c) with state := .exhausted })) :=
        ⟨y, rfl, φ', s', Rel_turn i6 rfl (by simp) i2 i7, Evo_turn (e1.trans i3) (by omega), i4, i5⟩
      rw [hrec] at hE
      cases y with
      | normal => cases i1
      | exit id => cases i1; exact wpIn_exit (hQ _ _ _ hE)
      | ret => cases i1; exact wpIn_ret (hQ _ _ _ hE)

theorem code_sound {F : Fence} (hF : FOk F) {call : CallG} {spc : Spc} {pl : Nat → Plan} (hm : P.follows .mixedOrders = true) (hE : ∀ t i, E t = some i → TIok P t i) (hcall : CallOk P call) (hspc : ∀ g x, spc g = some x → XOk P g x) (hits : ∀ g it, spc.it g = some it → ItOk P g it) (ann : Nat → LAnn) : ∀ (c : Code) (b : Nat), plansOk pl c = true → ((F = Fence.wide ∧ B.2 = true) ∨ noRf c = true) → CodeOk F B P c (vcgC Lv.std E call spc pl ann b c)
  | .skip, b, hp, hR, m, φ, s, a, w, k, Q, h, hr, hQ => wpIn_skip (hQ _ _ _ ⟨.normal, rfl, φ, s, hr, Evo.refl _ _ _, rfl, h⟩)
  | .region id ops draw, b, hp, hR, m, φ, s, a, w, k, Q, h, hr, hQ => by
    unfold vcgC at h
    cases draw
    · obtain ⟨p1, p2, p3⟩ := pubAll_ok (pl id) s hr
      refine wpIn_region (ops_sound hF hE hcall ops ops.toList _ (range_get ops) φ _ a w _ h p1 fun a' w' he => hQ _ _ _ ⟨.normal, rfl, ?_⟩)
      have he' := he.from p2
      rw [p3] at he'
      exact he'
    · exact draw_sound hF hm hE hspc (by simpa [plansOk] using hp) id φ s a w _ Q h hr fun a' w' he => hQ _ _ _ ⟨.normal, rfl, he⟩
  | .seq x y, b, hp, hR, m, φ, s, a, w, k, Q, h, hr, hQ => by
    unfold vcgC at h
    refine wpIn_seq (code_sound hF hm hE hcall hspc hits ann x b (by simp only [plansOk, Bool.and_eq_true] at hp; exact hp.1) (hR.imp_right fun h => (Bool.and_eq_true_iff.1 h).1) m φ s a w _ _ h hr ?_)
    rintro e a1 w1 ⟨z, rfl, he⟩
    cases z with
    | normal =>
      obtain ⟨φ1, s1, t1, t2, t3, t4⟩ := he
      refine code_sound hF hm hE hcall hspc hits ann y b (by simp only [plansOk, Bool.and_eq_true] at hp; exact hp.2) (hR.imp_right fun h => (Bool.and_eq_true_iff.1 h).2) m φ1 s1 a1 w1 k _ t4 t1 ?_
      rintro e a2 w2 ⟨z, rfl, he2⟩
      have he3 := he2.from t2
      rw [t3] at he3
      exact hQ _ _ _ ⟨z, rfl, he3⟩
    | exit id => exact hQ _ _ _ ⟨.exit id, rfl, he⟩
    | ret => exact hQ _ _ _ ⟨.ret, rfl, he⟩
  | .cond c x y, b, hp, hR, m, φ, s, a, w, k, Q, h, hr, hQ => by
    unfold vcgC at h
    have hv := ev_ok hr c
    split at h
    · rename_i e; rw [e] at hv
      exact wpIn_cond_true hv (code_sound hF hm hE hcall hspc hits ann x b (by simp only [plansOk, Bool.and_eq_true] at hp; exact hp.1) (hR.imp_right fun h => (Bool.and_eq_true_iff.1 h).1) m φ s a w k Q h hr hQ)
    · rename_i e; rw [e] at hv
      exact wpIn_cond_false hv (code_sound hF hm hE hcall hspc hits ann y b (by simp only [plansOk, Bool.and_eq_true] at hp; exact hp.2) (hR.imp_right fun h => (Bool.and_eq_true_iff.1 h).2) m φ s a w k Q h hr hQ)
    · rename_i q e; rw [e] at hv
      refine wpIn_cond_split hv (fun e => ?_) (fun e => ?_)
      · exact code_sound hF hm hE hcall hspc hits ann x b (by simp only [plansOk, Bool.and_eq_true] at hp; exact hp.1) (hR.imp_right fun h => (Bool.and_eq_true_iff.1 h).1) m φ s a w k Q (h.1 e) hr hQ
      · exact code_sound hF hm hE hcall hspc hits ann y b (by simp only [plansOk, Bool.and_eq_true] at hp; exact hp.2) (hR.imp_right fun h => (Bool.and_eq_true_iff.1 h).2) m φ s a w k Q (h.2 e) hr hQ
    · exact h.elim
  | .block id c, b, hp, hR, m, φ, s, a, w, k, Q, h, hr, hQ => by
    unfold vcgC at h
    refine wpIn_block (code_sound hF hm hE hcall hspc hits ann c id hp hR m φ s a w _ _ h hr ?_)
    rintro e a1 w1 ⟨z, rfl, he⟩
    cases z with
    | normal => exact hQ _ _ _ ⟨.normal, rfl, he⟩
    | exit id' =>
      simp only [Ex.to, Exit.inBlock]
      obtain ⟨φ1, s1, t1, t2, t3, t4⟩ := he
      simp only at t4
      rw [ifb] at t4
      by_cases e : id' = id
      · rw [if_pos e] at t4 ⊢
        exact hQ _ _ _ ⟨.normal, rfl, φ1, s1, t1, t2, t3, t4⟩
      · rw [if_neg e] at t4 ⊢
        exact hQ _ _ _ ⟨.exit id', rfl, φ1, s1, t1, t2, t3, t4⟩
    | ret => exact hQ _ _ _ ⟨.ret, rfl, he⟩
  | .loop c, b, hp, hR, m, φ, s, a, w, k, Q, h, hr, hQ => by
    unfold vcgC at h
    split at h
    · exact h.elim
    · exact unroll_sound (code_sound hF hm hE hcall hspc hits ann c b hp hR) _ m φ s a w k Q h hr hQ
    · exact loop_sound _ (code_sound hF hm hE hcall hspc hits ann c b hp hR) m φ s a w k Q h hr hQ
    · exact h.elim
  | .exit id, b, hp, hR, m, φ, s, a, w, k, Q, h, hr, hQ => wpIn_exit (hQ _ _ _ ⟨.exit id, rfl, φ, s, hr, Evo.refl _ _ _, rfl, h⟩)
  | .label l, b, hp, hR, m, φ, s, a, w, k, Q, h, hr, hQ => wpIn_label (hQ _ _ _ ⟨.normal, rfl, φ, s, hr, Evo.refl _ _ _, rfl, h⟩)
  | .ret, b, hp, hR, m, φ, s, a, w, k, Q, h, hr, hQ => wpIn_ret (hQ _ _ _ ⟨.ret, rfl, φ, s, hr, Evo.refl _ _ _, rfl, h⟩)
  | .rangeFunc f ps x y, b, hp, hR, m, φ, s, a, w, k, Q, h, hr, hQ => by
    unfold vcgC at h
    rcases hR with ⟨rfl, hR⟩ | hR
    rotate_left
    · cases hR
    simp only [plansOk, Bool.and_eq_true] at hp
    obtain ⟨⟨⟨p1, p2⟩, p3⟩, p4⟩ := hp
    split at h
    · rename_i an _
      exact range_sound hR hits an f ps (fun l => code_sound (.round l) hm hE hcall hspc hits ann x b p1 (.inr p3)) (fun l => code_sound (.round l) hm hE hcall hspc hits ann y b p2 (.inr p4)) m φ s a w k Q h hr hQ
    · exact h.elim
  | .scope _, b, hp, hR, m, φ, s, a, w, k, Q, h, hr, hQ => by unfold vcgC at h; exact h.elim
  | .goto _, b, hp, hR, m, φ, s, a, w, k, Q, h, hr, hQ => by unfold vcgC at h; exact h.elim
  | .refuse _, b, hp, hR, m, φ, s, a, w, k, Q, h, hr, hQ => by unfold vcgC at h; exact h.elim
end
end Go.VM
set_option autoImplicit false
set_option linter.all false
namespace Go.VM
open Go Go.Lib

/-! ### 3. Calls -/
structure FnD : Type 1 where
  code : Code
  ntmps : Nat
  res : List ResultVar
  pl : Nat → Plan
  ann : Nat → LAnn

inductive FT : Type 1
  | no
  | spec (s : Spec)
  | ext (x : XOp)
  | inl (d : FnD)
  | it (i : It)

def argSl : Nat → List V → List (Nat × V)
  | _, [] => []
  | i, v :: vs => (i, v) :: argSl (i + 1) vs

def mkO (agg : Bool) (cs : List C) : Option V :=
  if agg then some (.agg cs) else match cs with
    | [x] => some (.c x)
    | _ => none

def resV1 (L : Lv) (E : Ev) (s : St) : ResultVar → Option V
  | .tmp t => some (s.look t)
  | .cell a t => match E t, s.look a with
    | some i, .c (.ptr id off) => match lookA s.hp id with
      | some (.box _ cs) => if Nat.ble (off + i.size) cs.length then mkO i.kd.isAgg ((cs.drop off).take i.size) else none
      | _ => none
    | _, _ => none

def resVs (L : Lv) (E : Ev) (s : St) : List ResultVar → Option (List V)
  | [] => some []
  | r :: rs => match resV1 L E s r, resVs L E s rs with
    | some v, some vs => some (v :: vs)
    | _, _ => none

def tupOf : List V → Option (List (Bool × List C))
  | [] => some []
  | .c c :: r => (tupOf r).map ((false, [c]) :: ·)
  | .agg l :: r => (tupOf r).map ((true, l) :: ·)
  | _ => none

def resVC (L : Lv) (E : Ev) (rs : List ResultVar) (s : St) (k : V → VC) : VC := match resVs L E s rs with
  | some [v] => k v
  | some vs => match tupOf vs with
    | some l => k (.tup l)
    | none => .bad
  | none => .bad

def bodyVC (L : Lv) (E : Ev) (call : CallG) (spc : Spc) (d : FnD) (as : List V) (hp : Hp) (nx : Nat) (k : V → Hp → Nat → VC) : VC :=
  vcgC L E call spc d.pl d.ann 0 d.code { n := as.length + (d.ntmps - as.length), sl := argSl 0 as, hp := hp, nx := nx } fun e s => match e with
    | .exit _ => .bad
    | .normal => resVC L E d.res s fun v => k v s.hp s.nx
    | .ret => resVC L E d.res s fun v => k v s.hp s.nx

/-- The contracts of a table. -/
def spcOf (fns : FuncId → FT) : Spc where
  x := fun g => match fns g with
    | .spec sp => some sp.x
    | .ext x => some x
    | _ => none
  it := fun g => match fns g with
    | .it i => some i
    | _ => none

def callG (L : Lv) (E : Ev) (fns : FuncId → FT) : Nat → CallG
  | 0 => fun g as hp nx k => match fns g with
    | .spec sp => specVC L sp as hp nx k
    | .ext x => runX hp nx k (x.fr L (lookA hp) nx as)
    | _ => .bad
  | n + 1 => fun g as hp nx k => match fns g with
    | .spec sp => specVC L sp as hp nx k
    | .ext x => runX hp nx k (x.fr L (lookA hp) nx as)
    | .inl d => bodyVC L E (callG L E fns n) (spcOf fns) d as hp nx k
    | _ => .bad

/-- The condition of a contract. -/
def contractVC (L : Lv) (E : Ev) (call : CallG) (spc : Spc) (d : FnD) (sp : Spec) (x : Ds sp.ins) : VC := bodyVC L E call spc d (outVs sp.ins x) [(0, .amb)] 1 fun v hp _ => match lookA hp 0 with
  | some .amb => match viewR L (lookA hp) sp.outs v with
    | some (y, ids) => if ids.contains 0 then .bad else .ok (y = sp.fn x)
    | none => .bad
  | _ => .bad

/-! ### 4. Soundness -/
def FnOk (P : Program) (g : FuncId) (d : FnD) : Prop := ∃ fn, P.funcs[g]? = some fn ∧ (fn.name == "runtime.NumGoroutine") = false ∧ fn.body = some d.code ∧ fn.ntmps = d.ntmps ∧ fn.results.toList = d.res ∧ plansOk d.pl d.code = true

section
variable {P : Program} {E : Ev} {φ : Phi} {w : World} {hp : Hp} {f : Nat}

theorem FnOk.has {g : FuncId} {d : FnD} (h : FnOk P g d) : Has P g := by
  obtain ⟨fn, h1, h2, h3, _⟩ := h
  exact ⟨fn, h1, h2, by rw [h3]; rfl⟩

end
end Go.VM
set_option autoImplicit false
set_option linter.all false
namespace Go.VM
open Go Go.Lib
variable {B : Nat × Bool}

section
variable {P : Program} {E : Ev} {φ : Phi} {w : World} {hp : Hp} {f : Nat}

theorem argSl_look : ∀ (vs : List V) (us : List Value) (i : Nat), L2 (Vrel φ (okb φ hp) w) vs us → ∀ j v, lookA (argSl i vs) j = some v → i ≤ j ∧ ∃ u, us[j - i]? = some u ∧ Vrel φ (okb φ hp) w v u
  | [], [], _, _, j, v, h => by cases h
  | x :: vs, u :: us, i, hl, j, v, h => by
    simp only [argSl, lookA, ifb] at h
    split at h
    · rename_i e
      subst e; cases h
      exact ⟨Nat.le_refl _, u, by simp, hl.1⟩
    · obtain ⟨h1, u', h2, h3⟩ := argSl_look vs us (i + 1) hl.2 j v h
      refine ⟨by omega, u', ?_, h3⟩
      rw [show j - i = (j - (i + 1)) + 1 by omega, List.getElem?_cons_succ]; exact h2
  | [], _ :: _, _, hl, _, _, _ | _ :: _, [], _, hl, _, _, _ => hl.elim

theorem start_rel {nx : Nat} (hB : B.1 ≤ w.heap.size) (hh : HRel φ hp nx w) {as : List V} {vs : List Value} (hv : L2 (Vrel φ (okb φ hp) w) as vs) (m : Nat) :
    Rel B φ { n := as.length + (m - as.length), sl := argSl 0 as, hp := hp, nx := nx } { tmps := vs.toArray ++ Array.replicate (m - vs.toArray.size) undef, defers := [] } w := by
  have hl := L2_len hv
  refine ⟨by simp [hl], hB, Dfs.nil _ _ _, fun j v hj => ?_, hh.ob, hh.fr, hh.dj⟩
  obtain ⟨_, u, h1, h2⟩ := argSl_look as vs 0 hv j v hj
  have hlt := (List.getElem?_eq_some_iff.1 h1).1
  have : (vs.toArray ++ Array.replicate (m - vs.toArray.size) undef).getD j undef = u := by
    rw [Array.getD_eq_getD_getElem?, Array.getElem?_append_left (by simpa using hlt)]
    simp only [Nat.sub_zero] at h1
    simp [h1]
  rw [this]; exact h2

theorem mkO_ok {ok : Nat → Prop} {b : Bool} {cs : List C} {vs : List Value} {x : V} (hl : L2 (Crel φ ok w) cs vs) {v : Value} (h : mkO b cs = some x) (hv : if b then v = .agg vs.toArray else vs = [v]) : Vrel φ ok w x v := by
  unfold mkO at h
  cases b
  · simp only [Bool.false_eq_true, if_false] at hv h
    subst hv
    match cs, hl with
    | [y], hl => cases h; exact hl.1
  · simp only [if_true] at hv h
    cases h
    exact ⟨vs, hv, hl⟩

def resRun (P : Program) (a : Act) : ResultVar → Sem Value
  | .tmp t => pure (a.tmps.getD t undef)
  | .cell c t => do loadVar t (← asAddr (a.tmps.getD c undef))

theorem resV1_ok (hE : ∀ t i, E t = some i → TIok P t i) {s : St} {a : Act} (hr : Rel B φ s a w) (r : ResultVar) (x : V) (h : resV1 Lv.std E s r = some x) :
    ∃ v, (resRun P a r).run P w = .ok v w ∧ Vrel φ (okb φ s.hp) w x v := by
  cases r with
  | tmp t =>
    simp only [resV1, Option.some.injEq] at h
    subst h
    exact ⟨_, rfl, ev_ok hr (.tmp t)⟩
  | cell c t =>
    simp only [resV1] at h
    split at h
    · rename_i i id off hi hl
      split at h
      · rename_i tt cs ho
        split at h
        · rename_i hle
          have hle' := Nat.le_of_ble_eq_true hle
          have hv : Vrel φ (okb φ s.hp) w (s.look c) (a.tmps.getD c undef) := ev_ok hr (.tmp c)
          rw [hl] at hv
          obtain ⟨b, sz, cap, nn, g1, g2⟩ := hv
          obtain ⟨b', vs, g3, g4, g5⟩ := hr.ob id _ ho
          rw [g1] at g3; cases g3
          have hlen := L2_len g5
          obtain ⟨u, hu, hc⟩ := run_loadVar (P := P) (w := w) (hE t i hi) ⟨b, off, none⟩ ((vs.drop off).take i.size) (by rw [List.length_take, List.length_drop]; omega) (fun j x hx => by
            rw [add_plain, cell_at g4]
            have := getElem?_drop_take hx
            simpa using this)
          exact ⟨u, by simp [resRun, g2, asAddr, hu], mkO_ok (L2_take i.size (L2_drop off g5)) h hc⟩
        · cases h
      · cases h
    · cases h

theorem resVs_ok (hE : ∀ t i, E t = some i → TIok P t i) {s : St} {a : Act} (hr : Rel B φ s a w) : ∀ (rs : List ResultVar) (xs : List V), resVs Lv.std E s rs = some xs →
    ∃ vs, (rs.mapM (resRun P a)).run P w = .ok vs w ∧ L2 (Vrel φ (okb φ s.hp) w) xs vs
  | [], xs, h => by cases h; exact ⟨[], by simp, trivial⟩
  | r :: rs, xs, h => by
    unfold resVs at h
    split at h
    · rename_i v vs h1 h2
      cases h
      obtain ⟨u, q1, q2⟩ := resV1_ok hE hr r v h1
      obtain ⟨us, q3, q4⟩ := resVs_ok hE hr rs vs h2
      exact ⟨u :: us, by simp [q1, q3], q2, q4⟩
    · cases h

theorem tupOf_ok {ok : Nat → Prop} : ∀ (xs : List V) (vs : List Value) (l : List (Bool × List C)), tupOf xs = some l → L2 (Vrel φ ok w) xs vs → L2 (tupRel (Crel φ ok w)) l vs
  | [], [], l, h, _ => by cases h; exact trivial
  | x :: xs, v :: vs, l, h, hl => by
    unfold tupOf at h
    split at h
    · rename_i heq; cases heq
    · rename_i c r heq
      cases heq
      cases hr : tupOf xs with
      | none => rw [hr] at h; cases h
      | some l' =>
        rw [hr] at h; cases h
        exact ⟨⟨c, rfl, hl.1⟩, tupOf_ok xs vs l' hr hl.2⟩
    · rename_i cs r heq
      cases heq
      cases hr : tupOf xs with
      | none => rw [hr] at h; cases h
      | some l' =>
        rw [hr] at h; cases h
        exact ⟨hl.1, tupOf_ok xs vs l' hr hl.2⟩
    · cases h
  | [], _ :: _, _, _, hl | _ :: _, [], _, _, hl => hl.elim

theorem res_sound (hE : ∀ t i, E t = some i → TIok P t i) {s : St} {a : Act} (hr : Rel B φ s a w) (fn : Func) (k : V → VC) (h : (resVC Lv.std E fn.results.toList s k).holds) :
    ∃ v x, (results fn a.tmps).run P w = .ok v w ∧ Vrel φ (okb φ s.hp) w x v ∧ (k x).holds := by
  have main : ∀ (xs : List V), resVs Lv.std E s fn.results.toList = some xs → ∃ vs : List Value, L2 (Vrel φ (okb φ s.hp) w) xs vs ∧ (results fn a.tmps).run P w = .ok (if h : vs.toArray.size = 1 then vs.toArray[0] else .tuple vs.toArray) w := by
    intro xs hx
    obtain ⟨vs, q1, q2⟩ := resVs_ok (P := P) hE hr _ xs hx
    refine ⟨vs, q2, ?_⟩
    have e : (results fn a.tmps) = (do
        let vs ← fn.results.mapM (resRun P a)
        pure (if h : vs.size = 1 then vs[0] else .tuple vs)) := by
      unfold results
      congr 1
    rw [e, Array.mapM_eq_mapM_toList]
    simp only [Sem.run_bind, Sem.run_map, q1, Result.andThen_ok, Sem.run_pure]
  unfold resVC at h
  split at h
  · rename_i v hv
    obtain ⟨vs, q1, q2⟩ := main _ hv
    match vs, q1 with
    | [u], q1 => exact ⟨u, v, by rw [q2]; rfl, q1.1, h⟩
    | [], q1 => exact q1.elim
    | _ :: _ :: _, q1 => exact q1.2.elim
  · rename_i xs hne hx
    split at h
    · rename_i l hl
      obtain ⟨vs, q1, q2⟩ := main _ hx
      have hlen := L2_len q1
      have : vs.toArray.size ≠ 1 := by
        rw [List.size_toArray]
        intro e
        match xs, hne, hlen with
        | [x], hne, _ => exact hne x rfl
        | [], _, hlen => simp at hlen; omega
        | _ :: _ :: _, _, hlen => simp at hlen; omega
      refine ⟨.tuple vs.toArray, .tup l, by rw [q2, dif_neg this], ⟨vs, rfl, tupOf_ok xs vs l hl q1⟩, h⟩
    · exact h.elim
  · exact h.elim

/-- A frame that has put off nothing but marks leaves. -/
theorem leave_ok {fn : Func} {tmps : Array Value} {R : Ending → World → Prop} {φ0 : Phi} {hp0 : Hp} {w0 : World} {sl : List (Nat × V)} {nx : Nat} : ∀ (l : List Nat) (w : World), HRel φ hp nx w → Evo φ0 hp0 w0 φ hp w →
    (∀ j v, lookA sl j = some v → Vrel φ (okb φ hp) w v (tmps.getD j undef)) → l.Nodup → (∀ D ∈ l, w0.heap.size ≤ D ∧ w.heap[D]? = some (.deferred (some [])) ∧ okb φ hp D) →
    (∀ w', HRel φ hp nx w' → Evo φ0 hp0 w0 φ hp w' → (∀ j v, lookA sl j = some v → Vrel φ (okb φ hp) w' v (tmps.getD j undef)) → ∃ v, (results fn tmps).run P w' = .ok v w' ∧ R (.returned v) w') →
    LeavesInM Fence.wide 0 P fn tmps R (l.map mkD) .returning w
  | [], w, hh, ev, hs, _, _, h => h w hh ev hs
  | D :: l, w, hh, ev, hs, hn, hd, h => by
    obtain ⟨h1, h2, h3⟩ := hd D (by simp)
    rw [List.nodup_cons] at hn
    refine ⟨by simp, .inl ⟨D, _, rfl, run_takeDeferred h2, leave_ok l _ (H_turn h2 rfl hh h3) (Evo_turn ev h1) (fun j v hj => V_turn h2 rfl (hs j v hj)) hn.2 (fun D' hm => ?_) h⟩⟩
    obtain ⟨k1, k2, k3⟩ := hd D' (by simp [hm])
    exact ⟨k1, by rw [World.putObj_heap_other (fun e => hn.1 (by rw [← e]; exact hm))]; exact k2, k3⟩

theorem body_sound {call : CallG} {spc : Spc} (hm : P.follows .mixedOrders = true) (hE : ∀ t i, E t = some i → TIok P t i) (hcall : CallOk P call) (hspc : ∀ g x, spc g = some x → XOk P g x) (hits : ∀ g it, spc.it g = some it → ItOk P g it) {g : FuncId} {d : FnD} (hg : FnOk P g d) {as : List V} {k : V → Hp → Nat → VC} {nx : Nat} {vs : List Value}
    (h : (bodyVC Lv.std E call spc d as hp nx k).holds) (hh : HRel φ hp nx w) (hv : L2 (Vrel φ (okb φ hp) w) as vs) :
    Calls P g vs.toArray w fun e w' => ∃ v, e = .returned v ∧ ∃ φ' hp' nx' x, (k x hp' nx').holds ∧ HRel φ' hp' nx' w' ∧ Evo φ hp w φ' hp' w' ∧ Vrel φ' (okb φ' hp') w' x v := by
  obtain ⟨fn, h1, h2, h3, h4, h5, h6⟩ := hg
  refine (callsIn_wide (n := 0)).1 (callsIn_of_wp_marks h1 h3 trivial ?_)
  rw [h4]
  refine code_sound .wide hm hE hcall hspc hits d.ann d.code 0 h6 (.inl ⟨rfl, rfl⟩) 0 φ _ _ w _ _ h (start_rel (B := (w.heap.size, true)) (Nat.le_refl _) hh hv d.ntmps) ?_
  have fin : ∀ (φ' : Phi) (s : St) (a : Act) (w' : World), Rel (w.heap.size, true) φ' s a w' → Evo φ hp w φ' s.hp w' → (resVC Lv.std E d.res s fun v => k v s.hp s.nx).holds →
      LeavesInM Fence.wide 0 P fn a.tmps (fun e w' => ∃ v, e = .returned v ∧ ∃ φ' hp' nx' x, (k x hp' nx').holds ∧ HRel φ' hp' nx' w' ∧ Evo φ hp w φ' hp' w' ∧ Vrel φ' (okb φ' hp') w' x v) a.defers .returning w' := by
    intro φ' s a w' hr ev hk
    rw [← h5] at hk
    obtain ⟨l, d1, d2, _, d3⟩ := hr.df
    rw [d1]
    refine leave_ok (sl := s.sl) l w' hr.h ev hr.sl d2 d3 fun w2 hh2 ev2 hs2 => ?_
    have hr2 : Rel (w.heap.size, true) φ' s { a with defers := [] } w2 := ⟨hr.sz, ev2.size, Dfs.nil _ _ _, hs2, hh2.ob, hh2.fr, hh2.dj⟩
    obtain ⟨v, x, q1, q2, q3⟩ := res_sound hE hr2 fn _ hk
    exact ⟨v, q1, v, rfl, φ', s.hp, s.nx, x, q3, hh2, ev2, q2⟩
  rintro e a' w' ⟨z, rfl, φ', s', r1, r2, r3, r4⟩
  cases z with
  | normal => exact fin φ' s' a' w' r1 r2 r4
  | ret => exact fin φ' s' a' w' r1 r2 r4
  | exit id => exact r4.elim

/-- What a table of functions must be. -/
def TableOk (P : Program) (fns : FuncId → FT) : Prop := ∀ g, match fns g with
  | .no => True
  | .spec sp => SpecOk P g sp
  | .ext x => XOk P g x
  | .inl d => FnOk P g d
  | .it i => ItOk P g i

theorem spcOf_ok {fns : FuncId → FT} (ht : TableOk P fns) (g : FuncId) (x : XOp) (h : spcOf fns g = some x) : XOk P g x := by
  have hg := ht g
  change (match fns g with | .spec sp => some sp.x | .ext x => some x | _ => none) = some x at h
  split at h
  · rename_i sp' e
    rw [e] at hg
    cases h; exact spec_x hg
  · rename_i x' e
    rw [e] at hg
    cases h; exact hg
  · cases h

theorem itsOf_ok {fns : FuncId → FT} (ht : TableOk P fns) (g : FuncId) (i : It) (h : (spcOf fns).it g = some i) : ItOk P g i := by
  have hg := ht g
  change (match fns g with | .it i => some i | _ => none) = some i at h
  split at h
  · rename_i x' e
    rw [e] at hg
    cases h; exact hg
  · cases h

theorem call_sound (hm : P.follows .mixedOrders = true) (hE : ∀ t i, E t = some i → TIok P t i) {fns : FuncId → FT} (ht : TableOk P fns) : ∀ n, CallOk P (callG Lv.std E fns n)
  | 0 => by
    intro g as hp nx k φ w vs h hh hv
    have hg := ht g
    unfold callG at h
    split at h
    · rename_i sp e
      rw [e] at hg
      exact spec_sound hg h hh hv
    · rename_i x e
      rw [e] at hg
      exact x_sound hg h hh hv
    · exact h.elim
  | n + 1 => by
    intro g as hp nx k φ w vs h hh hv
    have hg := ht g
    unfold callG at h
    split at h
    · rename_i sp e
      rw [e] at hg
      exact spec_sound hg h hh hv
    · rename_i x e
      rw [e] at hg
      exact x_sound hg h hh hv
    · rename_i d e
      rw [e] at hg
      have ih := call_sound hm hE ht n
      exact ⟨FnOk.has hg, body_sound hm hE ih (spcOf_ok ht) (itsOf_ok ht) hg h hh hv⟩
    · exact h.elim

/-- A contract at one input, from its condition. -/
theorem contract_at {call : CallG} {spc : Spc} (hm : P.follows .mixedOrders = true) (hE : ∀ t i, E t = some i → TIok P t i) (hcall : CallOk P call) (hspc : ∀ g x, spc g = some x → XOk P g x) (hits : ∀ g it, spc.it g = some it → ItOk P g it) {g : FuncId} {d : FnD} (hg : FnOk P g d) (sp : Spec)
    (x : Ds sp.ins) (hvc : (contractVC Lv.std E call spc d sp x).holds) (ok : Nat → Prop) (w : World) (vs : List Value) (hG : GlOk ok w) (hx : KVs ok w sp.ins x vs) :
    Calls P g vs.toArray w fun e w' => ∃ v, e = .returned v ∧ Go.RowKit.Below w.heap.size w w' ∧ KR (fun b => ok b ∨ w.heap.size ≤ b) w' sp.outs (sp.fn x) v := by
  let S : Nat → Prop := fun b => b < w.heap.size ∧ ¬ ok b
  let φ : Phi := fun id => if id = 0 then some (.set S w) else none
  have hh : HRel φ [(0, .amb)] 1 w := by
    refine ⟨fun id o ho => ?_, fun id hid => ?_, fun i j o o' p q b h1 h2 hne => ?_⟩
    · simp only [lookA, ifb] at ho
      split at ho
      · rename_i e; subst e; cases ho
        exact ⟨S, w, rfl, ⟨hG.1, fun b hb => ⟨glB_lt hG.1 hb, hG.2 b hb⟩⟩, fun b hb => ⟨hb.1, rfl⟩⟩
      · cases ho
    · show (if id = 0 then _ else none) = none
      rw [if_neg (by omega)]
    · simp only [lookA, ifb] at h1 h2
      split at h1
      · split at h2
        · rename_i e1 e2; exact absurd (e1.symm.trans e2) hne
        · cases h2
      · cases h1
  have hokb : ∀ b, ok b → okb φ [(0, .amb)] b := fun b hb id o p h1 h2 h3 => by
    simp only [lookA, ifb] at h1
    split at h1
    · rename_i e; subst e
      have h2' : some (Place.set S w) = some p := h2
      cases h2'
      exact h3.2 hb
    · cases h1
  have hv : L2 (Vrel φ (okb φ [(0, .amb)]) w) (outVs sp.ins x) vs := outVs_ok _ _ _ (KVs_mono (fun b hb _ => ⟨rfl, hokb b hb⟩) _ _ _ hx)
  refine (body_sound hm hE hcall hspc hits hg hvc hh hv).mono fun e w' he => ?_
  obtain ⟨v, rfl, φ', hp', nx', y, k1, k2, k3, k4⟩ := he
  refine ⟨v, rfl, ?_⟩
  split at k1
  · rename_i hamb
    split at k1
    · rename_i y' ids hvw
      split at k1
      · exact k1.elim
      · rename_i hnc
        have hy : y' = sp.fn x := k1
        have hn0 : 0 ∉ ids := by simpa using hnc
        have hφ0 : φ' 0 = some (.set S w) := k3.ph 0 _ rfl
        have hR := viewR_ok k2 sp.outs y v y' ids hvw k4
        rw [hy] at hR
        obtain ⟨S', w0, g1, _, g2⟩ := k2.ob 0 _ hamb
        rw [hφ0] at g1; cases g1
        refine ⟨⟨k3.os, k3.tape, k3.output, k3.size, fun b hb => ?_⟩, KR_mono (fun b hb _ => ⟨rfl, ?_⟩) _ _ _ hR⟩
        · by_cases hob : ok b
          · exact k3.bl b hb (hokb b hob)
          · exact (g2 b ⟨hb, hob⟩).2
        · by_cases hlt : b < w.heap.size
          · refine .inl (Classical.byContradiction fun hob => ?_)
            refine hb 0 .amb _ ?_ hφ0 ⟨hlt, hob⟩
            rw [lookA_delAll, if_neg hn0]; exact hamb
          · exact .inr (by omega)
    · exact k1.elim
  · exact k1.elim

/-- A contract, from its condition. -/
theorem contract_sound {call : CallG} {spc : Spc} (hm : P.follows .mixedOrders = true) (hE : ∀ t i, E t = some i → TIok P t i) (hcall : CallOk P call) (hspc : ∀ g x, spc g = some x → XOk P g x) (hits : ∀ g it, spc.it g = some it → ItOk P g it) {g : FuncId} {d : FnD} (hg : FnOk P g d) (sp : Spec)
    (h : ∀ x, sp.pre x → (contractVC Lv.std E call spc d sp x).holds) : SpecOk P g sp :=
  ⟨hg.has, fun ok w vs x hG hx hpre => contract_at hm hE hcall hspc hits hg sp x (h x hpre) ok w vs hG hx⟩

/-- A contract, over a table. -/
theorem contract_ok (hm : P.follows .mixedOrders = true) (hE : ∀ t i, E t = some i → TIok P t i) {fns : FuncId → FT} (ht : TableOk P fns) (n : Nat) {g : FuncId} {d : FnD} (hg : FnOk P g d) (sp : Spec)
    (h : ∀ x, sp.pre x → (contractVC Lv.std E (callG Lv.std E fns n) (spcOf fns) d sp x).holds) : SpecOk P g sp :=
  contract_sound hm hE (call_sound hm hE ht n) (spcOf_ok ht) (itsOf_ok ht) hg sp h
end
end Go.VM
set_option autoImplicit false
set_option linter.all false
namespace Go.VM
open Go Go.Lib

def zEq : Z → Value → Bool
  | .int k, .int k' n => decide (k = k') && decide (n = 0)
  | .bool, .bool b => !b
  | .str, .string s => decide (s.size = 0)
  | .sl, .slice none 0 0 => true
  | .ptr, .pointer none => true
  | .fn, .nilFunc => true
  | .map, .map none => true
  | .ifc, .nilIface => true
  | .slf, .pointer none => true
  | _, _ => false

theorem zEq_ok {z : Z} {v : Value} (h : zEq z v = true) : v = z.val := by
  unfold zEq at h
  split at h <;> first
    | (simp only [Bool.and_eq_true, decide_eq_true_eq] at h; obtain ⟨rfl, rfl⟩ := h; rfl)
    | (simp only [Bool.not_eq_true'] at h; subst h; rfl)
    | (simp only [decide_eq_true_eq] at h
       rename_i s
       have : s = ByteArray.empty := by
         apply ByteArray.ext
         apply Array.eq_empty_of_size_eq_zero
         exact h
       subst this; rfl)
    | rfl
    | (cases h)

def zEqs : List Z → List Value → Bool
  | [], [] => true
  | z :: zs, v :: vs => zEq z v && zEqs zs vs
  | _, _ => false

theorem zEqs_ok : ∀ (zs : List Z) (vs : List Value), zEqs zs vs = true → vs = zs.map Z.val
  | [], [], _ => rfl
  | z :: zs, v :: vs, h => by
    simp only [zEqs, Bool.and_eq_true] at h
    rw [zEq_ok h.1, zEqs_ok zs vs h.2]; rfl
  | [], _ :: _, h | _ :: _, [], h => by cases h

def isIntU : Option TypeDesc → Bool
  | some (.int _) => true
  | _ => false
theorem isIntU_ok {d : Option TypeDesc} (h : isIntU d = true) : ∃ q, d = some (.int q) := by
  unfold isIntU at h
  split at h
  · exact ⟨_, rfl⟩
  · cases h

def undOk (P : Program) (t : TypeId) (k : Kd) : Bool := match k, P.underlying t with
  | .int k, some (.int k') => decide (k = k')
  | .bool, some .bool => true
  | .str, some .string => true
  | .sl e, some (.slice e') => Nat.beq e e'
  | .st fs, some (.struct a) => decide (a.toList.map (fun f => (f.offset, f.type)) = fs) && a.toList.all (fun f => f.name != "_") && !(P.stoodInHeld t) && !(P.eqGuardType P.depth t)
  | .ptr e, some (.pointer e') => Nat.beq e e'
  | .fn, some (.func _ _ _) => true
  | .map k e, some (.map k' e') => Nat.beq k k' && Nat.beq e e'
  | .arr n e, some (.array n' e') => Nat.beq n n' && Nat.beq e e'
  | .ifc ts, some (.interface _) => ts.all fun x => decide ((P.info? x).map (·.comparable) = some true) && isIntU (P.underlying x)
  | _, _ => false

def tiOk (P : Program) (t : TypeId) (i : TI) : Bool := match P.info? t with
  | some x => Nat.beq x.size i.size && Nat.beq x.bytes i.bytes && (match x.zero with
      | some z => zEqs i.zero z.cells.toList && (i.kd.isAgg || z.oneCell')
      | none => false) && Nat.beq i.zero.length i.size && Nat.blt 0 i.size && (i.kd.isAgg || Nat.beq i.size 1) && undOk P t i.kd
  | none => false

theorem tiOk_ok {P : Program} {t : TypeId} {i : TI} (h : tiOk P t i = true) : TIok P t i := by
  unfold tiOk at h
  split at h
  · rename_i x hx
    simp only [Bool.and_eq_true, Bool.or_eq_true] at h
    obtain ⟨⟨⟨⟨⟨⟨h1, h2⟩, h3⟩, h4⟩, h5⟩, h6⟩, h7⟩ := h
    split at h3
    · rename_i z hz
      simp only [Bool.and_eq_true, Bool.or_eq_true] at h3
      refine ⟨⟨x, hx, beq_eq h1, beq_eq h2, by rw [hz]; simp [zEqs_ok _ _ h3.1]⟩, beq_eq h4, fun ha x' z' hx' hz' => ?_, Nat.le_of_ble_eq_true h5, fun ha => ?_, ?_⟩
      · rw [hx] at hx'; cases hx'
        rw [hz] at hz'; cases hz'
        rcases h3.2 with h | h
        · rw [ha] at h; cases h
        · exact h
      · rcases h6 with h | h
        · rw [ha] at h; cases h
        · exact beq_eq h
      · unfold undOk at h7
        cases hk : i.kd <;> rw [hk] at h7 <;> cases hu : P.underlying t <;> rw [hu] at h7 <;> simp only at h7 ⊢ <;> try (cases h7; done)
        all_goals (rename_i d; cases d <;> simp only at h7 <;> try (cases h7; done))
        all_goals first
          | rfl
          | (have := beq_eq h7; subst this; rfl)
          | (have := of_decide_eq_true h7; subst this; rfl)
          | (simp only [Bool.and_eq_true] at h7; obtain ⟨g1, g2⟩ := h7; have := beq_eq g1; subst this; have := beq_eq g2; subst this; rfl)
          | (exact ⟨_, _, _, rfl⟩)
          | (rw [List.all_eq_true] at h7; exact ⟨_, rfl, fun x hx => by have := h7 x hx; simp only [Bool.and_eq_true] at this; exact ⟨of_decide_eq_true this.1, isIntU_ok this.2⟩⟩)
          | (simp only [Bool.and_eq_true, Bool.not_eq_true'] at h7; exact ⟨_, rfl, of_decide_eq_true h7.1.1.1, h7.1.1.2, h7.1.2, h7.2⟩)
    · cases h3
  · cases h

/-- A table. -/
def tabE (l : List (TypeId × TI)) : Ev := fun t => lookA l t
def tabOk (P : Program) (l : List (TypeId × TI)) : Bool := l.all fun p => tiOk P p.1 p.2
theorem tab_ok {P : Program} {l : List (TypeId × TI)} (h : tabOk P l = true) : ∀ t i, tabE l t = some i → TIok P t i := fun t i hi => tiOk_ok (List.all_eq_true.1 h (t, i) (look_mem l hi))

/-- A table as a tree, so that looking is quick. -/
inductive TT
  | leaf
  | node (l : TT) (k : Nat) (v : TI) (r : TT)

def TT.look : TT → Nat → Option TI
  | .leaf, _ => none
  | .node l k v r, t => match Nat.beq t k with
    | true => some v
    | false => match Nat.blt t k with
      | true => l.look t
      | false => r.look t

def TT.ok (P : Program) : TT → Bool
  | .leaf => true
  | .node l k v r => l.ok P && tiOk P k v && r.ok P

theorem TT.ok_look {P : Program} : ∀ (tt : TT) (t : Nat) (i : TI), tt.ok P = true → tt.look t = some i → TIok P t i
  | .leaf, _, _, _, h => by cases h
  | .node l k v r, t, i, ho, h => by
    simp only [TT.ok, Bool.and_eq_true] at ho
    unfold TT.look at h
    split at h
    · rename_i e
      cases h
      have := beq_eq e
      subst this
      exact tiOk_ok ho.1.2
    · split at h
      · exact TT.ok_look l t i ho.1.1 h
      · exact TT.ok_look r t i ho.2 h
end Go.VM
set_option autoImplicit false
set_option linter.all false
namespace Go.VM
open Go Go.Lib

/-- Kept behind a name, so that nobody evaluates it. -/
structure Holds (v : VC) : Prop where
  h : v.holds
theorem Holds.of_eq {v u : VC} (e : v = u) (h : u.holds) : Holds v := ⟨e ▸ h⟩

/-- A contract, over a table; the annotations, and the table, may depend on the input. -/
theorem contract_by {P : Program} {E : Ev} (hm : P.follows .mixedOrders = true) (hE : ∀ t i, E t = some i → TIok P t i) {g : FuncId} (D : (Nat → LAnn) → FnD) (hg : ∀ ann, FnOk P g (D ann)) (sp : Spec)
    (h : ∀ x, sp.pre x → ∃ (fns : FuncId → FT) (n : Nat) (ann : Nat → LAnn), TableOk P fns ∧ Holds (contractVC Lv.std E (callG Lv.std E fns n) (spcOf fns) (D ann) sp x)) : SpecOk P g sp := by
  refine ⟨(hg fun _ => .no).has, fun ok w vs x hG hx hpre => ?_⟩
  obtain ⟨fns, n, ann, ht, hv⟩ := h x hpre
  exact contract_at hm hE (call_sound hm hE ht n) (spcOf_ok ht) (itsOf_ok ht) (hg ann) sp x hv.h ok w vs hG hx

/-! ### Annotations -/
def slotI (s : St) (j : Nat) : Int := match s.look j with
  | .c (.int _ n) => n
  | _ => 0
def slotS (s : St) (j : Nat) : ByteArray := match s.look j with
  | .c (.str n) => n
  | _ => ByteArray.empty
def slotB (s : St) (j : Nat) : Bool := match s.look j with
  | .c (.bool n) | .c (.sym n) => n
  | _ => false
def putV (s : St) (j : Nat) (v : V) : St := { s with sl := setA s.sl j v }
def putI (j : Nat) (s : St) (x : Int) : St := { s with sl := setA s.sl j (.c (.int .i64 x)) }

/-- A loop over one integer in a slot. -/
def anI (js : List Nat) (j : Nat) (I : Int → Prop) (mu : Int → Nat) : LAnn :=
  .an { js := js, ren := fun _ => [], ad := [], X := Int, c := putI j, ext := fun s => slotI s j, I := fun _ x => I x, mu := fun _ x => mu x }

/-- What a contract's proof gives at one input. -/
theorem pack {P : Program} {E : Ev} {D : (Nat → LAnn) → FnD} {sp : Spec} {x : Ds sp.ins} (fns : FuncId → FT) (n : Nat) (ann : Nat → LAnn) (ht : TableOk P fns) (h : Holds (contractVC Lv.std E (callG Lv.std E fns n) (spcOf fns) (D ann) sp x)) :
    ∃ (fns : FuncId → FT) (n : Nat) (ann : Nat → LAnn), TableOk P fns ∧ Holds (contractVC Lv.std E (callG Lv.std E fns n) (spcOf fns) (D ann) sp x) := ⟨fns, n, ann, ht, h⟩

/-- What changes in a loop: a slot; a row of the call's own in a slot; one cell of a variable that a slot points to; a row in such a cell. -/
inductive Hv
  | s (j : Nat) (t : Ty)
  | r (j : Nat) (e : Ty)
  | b (j k : Nat) (t : Ty)
  | br (j k : Nat) (e : Ty)
  | m (j : Nat) (k v : Ty)
def Hv.ty : Hv → Ty
  | .s _ t => t
  | .r _ e => .sl e
  | .b _ _ t => t
  | .br _ _ e => .sl e
  | .m _ k v => .sl (.pair k v)
def tysOf : List Hv → List Ty
  | [] => []
  | h :: l => h.ty :: tysOf l
def ptrOf (s : St) (j : Nat) : Nat := match s.look j with
  | .c (.ptr id _) => id
  | .c (.own id _) => id
  | .c (.map id) => id
  | _ => 0
def cellOf (s : St) (j k : Nat) : C := match lookA s.hp (ptrOf s j) with
  | some (.box _ cs) => match cs[k]? with
    | some c => c
    | none => .un
  | _ => .un
def rowPut (L : Lv) (s : St) (id : Nat) (e : Ty) (x : List e.D) : St := match lookA s.hp id with
  | some (.row et _ _) => { s with hp := setA s.hp id (.row et e x) }
  | _ => s
def rowGet (s : St) (id : Nat) (e : Ty) : List e.D := match lookA s.hp id with
  | some (.row _ e' l) => if q : e' = e then castL q l else []
  | _ => []
def cellPut (s : St) (j k : Nat) (c : C) : St := match lookA s.hp (ptrOf s j) with
  | some (.box t cs) => { s with hp := setA s.hp (ptrOf s j) (.box t (cs.set k c)) }
  | _ => s
def mapPut (s : St) (id : Nat) (k v : Ty) (x : List (k.D × v.D)) : St := match lookA s.hp id with
  | some (.map _ _ _) => { s with hp := setA s.hp id (.map k v x) }
  | _ => s
def castM {k k' v v' : Ty} (hk : k' = k) (hv : v' = v) (l : List (k'.D × v'.D)) : List (k.D × v.D) := hv ▸ hk ▸ l
def mapGet (s : St) (id : Nat) (k v : Ty) : List (k.D × v.D) := match lookA s.hp id with
  | some (.map k' v' l) => if q : k' = k then (if r : v' = v then castM q r l else []) else []
  | _ => []
def Hv.put (L : Lv) (s : St) : (h : Hv) → h.ty.D → St
  | .s j t, x => putV s j (outV t x)
  | .r j e, x => putV (rowPut L s (ptrOf s j) e x) j (.c (.own (ptrOf s j) (L.llen e x)))
  | .b j k t, x => match expl t x with
    | [c] => cellPut s j k c
    | _ => s
  | .br j k e, x => match cellOf s j k with
    | .own id _ => cellPut (rowPut L s id e x) j k (.own id (L.llen e x))
    | _ => s
  | .m j k v, x => mapPut s (ptrOf s j) k v x
def viewD (L : Lv) (h : H) (t : Ty) (cs : List C) : t.D := match view L h t cs with
  | some (x, _, _) => x
  | none => t.dflt
def Hv.get (L : Lv) (s : St) : (h : Hv) → h.ty.D
  | .s j t => viewD L (lookA s.hp) t (s.look j).cells
  | .r j e => rowGet s (ptrOf s j) e
  | .b j k t => viewD L (lookA s.hp) t [cellOf s j k]
  | .br j k e => match cellOf s j k with
    | .own id _ => rowGet s id e
    | _ => []
  | .m j k v => mapGet s (ptrOf s j) k v
def Hv.id (s : St) : Hv → List Nat
  | .r j _ => [ptrOf s j]
  | .m j _ _ => [ptrOf s j]
  | .br j k _ => match cellOf s j k with
    | .own id _ => [id]
    | _ => []
  | _ => []
def hvPut (L : Lv) : (l : List Hv) → St → Ds (tysOf l) → St
  | [], s, _ => s
  | h :: l, s, x => hvPut L l (h.put L s x.1) x.2
def hvGet (L : Lv) : (l : List Hv) → St → Ds (tysOf l)
  | [], _ => ()
  | h :: l, s => (h.get L s, hvGet L l s)
def hvIds (s : St) : List Hv → List Nat
  | [] => []
  | h :: l => h.id s ++ hvIds s l
def anH (L : Lv) (js : List Nat) (ad : List (Nat × Option Nat × TypeId × Ty)) (hv : List Hv) (I : Ds (tysOf hv) → Prop) (mu : Ds (tysOf hv) → Nat) : LAnn :=
  .an { js := js, ren := fun s => hvIds s hv, ad := ad, X := Ds (tysOf hv), c := hvPut L hv, ext := hvGet L hv, I := fun _ x => I x, mu := fun _ x => mu x }

/-! ### Conditions, step by step -/
theorem h_ok {p : Prop} (h : p) : (VC.ok p).holds := h
theorem h_br {c : Bool} {t f : VC} (h1 : c = true → t.holds) (h2 : c = false → f.holds) : (VC.br c t f).holds := ⟨h1, h2⟩
theorem h_obl {p : Prop} {k : VC} (h1 : p) (h2 : k.holds) : (VC.obl p k).holds := ⟨h1, h2⟩
theorem h_imp {p : Prop} {k : VC} (h : p → k.holds) : (VC.imp p k).holds := h
theorem h_all {β : Type} {k : β → VC} (h : ∀ x, (k x).holds) : (VC.all β k).holds := h
theorem h_bad (h : False) : VC.bad.holds := h
theorem h_id {v : VC} (h : v.holds) : v.holds := h

/-! ### Leaves in plain words -/
theorem wrap_i64 {x : Int} (h1 : -9223372036854775808 ≤ x) (h2 : x < 9223372036854775808) : IntKind.i64.wrap x = x := by
  unfold IntKind.wrap
  simp only [show IntKind.i64.bits = 64 from rfl, show IntKind.i64.signed = true from rfl, Bool.true_and, decide_eq_true_eq]
  split <;> omega

theorem cmp_lss_t (a b : Int) : (compare .lss a b = true) = (a < b) := by simp [compare]
theorem cmp_lss_f (a b : Int) : (compare .lss a b = false) = (b ≤ a) := by simp [compare]
theorem cmp_leq_t (a b : Int) : (compare .leq a b = true) = (a ≤ b) := by simp [compare]
theorem cmp_leq_f (a b : Int) : (compare .leq a b = false) = (b < a) := by simp [compare]
theorem cmp_gtr_t (a b : Int) : (compare .gtr a b = true) = (b < a) := by simp [compare]
theorem cmp_gtr_f (a b : Int) : (compare .gtr a b = false) = (a ≤ b) := by simp [compare]
theorem cmp_geq_t (a b : Int) : (compare .geq a b = true) = (b ≤ a) := by simp [compare]
theorem cmp_geq_f (a b : Int) : (compare .geq a b = false) = (a < b) := by simp [compare]
theorem cmp_eql_t (a b : Int) : (compare .eql a b = true) = (a = b) := by simp [compare]
theorem cmp_eql_f (a b : Int) : (compare .eql a b = false) = (a ≠ b) := by simp [compare]
theorem cmp_neq_t (a b : Int) : (compare .neq a b = true) = (a ≠ b) := by simp [compare]
theorem cmp_neq_f (a b : Int) : (compare .neq a b = false) = (a = b) := by simp [compare]
theorem ba_ext {a b : ByteArray} (h : a.toList = b.toList) : a = b := by
  rw [ByteArray.toList_eq, ByteArray.toList_eq] at h
  exact ByteArray.ext (Array.ext' h)
theorem scmp_eql_t (a b : ByteArray) : (scompare .eql a b = true) = (a = b) := by
  simp only [scompare, beq_iff_eq, eq_iff_iff]
  exact ⟨ba_ext, fun h => by rw [h]⟩
theorem scmp_eql_f (a b : ByteArray) : (scompare .eql a b = false) = (a ≠ b) := by
  rw [← Bool.not_eq_true, scmp_eql_t]
theorem scmp_neq (a b : ByteArray) : scompare .neq a b = !scompare .eql a b := rfl
theorem scmp_neq_t (a b : ByteArray) : (scompare .neq a b = true) = (a ≠ b) := by
  rw [scmp_neq, Bool.not_eq_true', scmp_eql_f]
theorem scmp_neq_f (a b : ByteArray) : (scompare .neq a b = false) = (a = b) := by
  rw [scmp_neq, Bool.not_eq_false', scmp_eql_t]

theorem std_cmp : Lv.std.cmp = compare := rfl
theorem std_scmp : Lv.std.scmp = scompare := rfl
theorem std_ar_add (k : IntKind) (x y : Int) : Lv.std.ar .add k x y = k.wrap (x + y) := rfl
theorem std_ar_sub (k : IntKind) (x y : Int) : Lv.std.ar .sub k x y = k.wrap (x - y) := rfl
theorem std_ar_mul (k : IntKind) (x y : Int) : Lv.std.ar .mul k x y = k.wrap (x * y) := rfl
theorem std_ar : Lv.std.ar = arith := rfl
theorem std_dv : Lv.std.dv = divide := rfl
theorem std_shf : Lv.std.shf = shift := rfl
theorem std_conv (k : IntKind) (n : Int) : Lv.std.conv k n = k.wrap n := rfl
theorem std_mn (x y : Int) : Lv.std.mn x y = min x y := by
  show (if y < x then y else x) = _
  split <;> omega
theorem std_mx (x y : Int) : Lv.std.mx x y = max x y := by
  show (if y > x then y else x) = _
  split <;> omega
theorem std_beq (a b : Bool) : Lv.std.beq a b = (a == b) := rfl
theorem std_bnot (a : Bool) : Lv.std.bnot a = !a := rfl
theorem std_band (a b : Bool) : Lv.std.band a b = (a && b) := rfl
theorem std_scat (a b : ByteArray) : Lv.std.scat a b = a ++ b := rfl
theorem std_byte : Lv.std.byte = byteAt := rfl
theorem std_ext (s : ByteArray) (a b : Nat) : Lv.std.ext s a b = s.extract a b := rfl
theorem std_slen (s : ByteArray) : Lv.std.slen s = s.size := rfl
theorem std_strOf : Lv.std.strOf = strOfL := rfl
theorem std_bytes : Lv.std.bytes = bytesOf := rfl
theorem std_llen (e : Ty) (l : List e.D) : Lv.std.llen e l = l.length := rfl
theorem std_get (e : Ty) (l : List e.D) (i : Nat) : Lv.std.get e l i = (l[i]?).getD e.dflt := rfl
theorem std_setl (e : Ty) (l : List e.D) (i : Nat) (x : e.D) : Lv.std.setl e l i x = l.set i x := rfl
theorem std_app (e : Ty) (a b : List e.D) : Lv.std.app e a b = a ++ b := rfl
theorem std_take (e : Ty) (l : List e.D) (n : Nat) : Lv.std.take e l n = l.take n := rfl
theorem std_drop (e : Ty) (l : List e.D) (n : Nat) : Lv.std.drop e l n = l.drop n := rfl
theorem std_rep (e : Ty) (n : Nat) (x : e.D) : Lv.std.rep e n x = List.replicate n x := rfl
theorem std_mhas : Lv.std.mhas = mhasL := rfl
theorem std_mval : Lv.std.mval = mvalL := rfl
theorem std_mput : Lv.std.mput = mputL := rfl
theorem std_cast (n : Nat) : Lv.std.cast n = (n : Int) := rfl
theorem std_toN (n : Int) : Lv.std.toN n = n.toNat := rfl
theorem std_sub (a b : Nat) : Lv.std.sub a b = a - b := rfl
theorem std_add (a b : Nat) : Lv.std.add a b = a + b := rfl
theorem std_inR (i : Int) (n : Nat) : Lv.std.inR i n = (0 ≤ i ∧ i < (n : Int)) := rfl
theorem std_le3 (a b : Int) (n : Nat) : Lv.std.le3 a b n = (0 ≤ a ∧ a ≤ b ∧ b ≤ (n : Int)) := rfl
theorem std_leN (a b : Nat) : Lv.std.leN a b = (a ≤ b) := rfl
theorem std_ltN (a b : Nat) : Lv.std.ltN a b = (a < b) := rfl
theorem std_ne0 (y : Int) : Lv.std.ne0 y = (y ≠ 0) := rfl
theorem std_nonneg (y : Int) : Lv.std.nonneg y = (0 ≤ y) := rfl
theorem std_catOk (a b : ByteArray) : Lv.std.catOk a b = (a.size + b.size ≤ 9223372036854775807) := rfl
theorem std_room (n b : Nat) : Lv.std.room n b = (n ≤ 140737488355328 ∧ n * b ≤ 140737488355328) := rfl
theorem std_mkOk (n c : Int) (b : Nat) : Lv.std.mkOk n c b = (0 ≤ n ∧ n ≤ c ∧ c ≤ 140737488355328 ∧ c * b ≤ 140737488355328) := rfl
theorem std_nth (α : Type) (l : List α) (i : Nat) (y : α) : Lv.std.nth α l i y = (l[i]? = some y) := rfl
theorem std_cnt (α : Type) (l : List α) : Lv.std.cnt α l = l.length := rfl
theorem dflt_int (k : IntKind) : (Ty.int k).dflt = (0 : Int) := rfl
theorem dflt_bool : Ty.bool.dflt = false := rfl
theorem dflt_str : Ty.str.dflt = ByteArray.empty := rfl
theorem dflt_sl (e : Ty) : (Ty.sl e).dflt = ([] : List e.D) := rfl
theorem dflt_pair (a b : Ty) : (Ty.pair a b).dflt = (a.dflt, b.dflt) := rfl
end Go.VM
set_option autoImplicit false
set_option linter.all false
namespace Go.VM
open Go Go.Lib

/-- A function of no argument that makes a new map. -/
def mapX (k v : Ty) (l : List (k.D × v.D)) : XOp where
  fr := fun L h f as => match as with
    | [] => match hasAmb h [] with
      | true => .new (.c (.map f)) [.map k v l] []
      | false => .bad
    | _ => .bad

/-- What its body must come to. -/
def mapVC (L : Lv) (E : Ev) (call : CallG) (spc : Spc) (d : FnD) (k v : Ty) (l : List (k.D × v.D)) : VC := bodyVC L E call spc d [] [(0, .amb)] 1 fun y hp _ => match lookA hp 0, y with
  | some .amb, .c (.map id) => match lookA hp id with
    | some (.map k' v' l') => if q : k' = k then (if r : v' = v then .ok (castM q r l' = l) else .bad) else .bad
    | _ => .bad
  | _, _ => .bad

theorem mapX_ok {P : Program} {E : Ev} (hm : P.follows .mixedOrders = true) (hE : ∀ t i, E t = some i → TIok P t i) {fns : FuncId → FT} (n : Nat) (ht : TableOk P fns) {g : FuncId} {d : FnD} (hg : FnOk P g d)
    (k v : Ty) (l : List (k.D × v.D)) (hk : k.flat = true) (hv : v.flat = true) (h : Holds (mapVC Lv.std E (callG Lv.std E fns n) (spcOf fns) d k v l)) : XOk P g (mapX k v l) where
  has := hg.has
  mono := fun L h h' f as hl => by
    unfold mapX
    simp only
    split
    · cases ha : hasAmb h [] with
      | false => exact .inl rfl
      | true => right; rw [hasAmb_mono hl ha]
    · exact .inl rfl
  num := fun L h f f' as l hl hn => by
    unfold mapX at hl
    simp only at hl
    split at hl
    · split at hl
      · cases hl; cases hn
      · exact hl.elim
    · exact hl.elim
  run := fun φ hp f w as vs l' hh hv' hl => by
    unfold mapX at hl
    simp only at hl
    split at hl
    · split at hl
      rotate_left
      · exact hl.elim
      rename_i hA
      cases hl
      match vs, hv' with
      | [], _ => ?_
      let S : Nat → Prop := fun b => b < w.heap.size
      let φ0 : Phi := fun id => if id = 0 then some (.set S w) else none
      have hG := (hasAmb_ok hh hA).1
      have hh0 : HRel φ0 [(0, .amb)] 1 w := by
        refine ⟨fun id o ho => ?_, fun id hid => ?_, fun i j o o' p q b h1 h2 hne => ?_⟩
        · simp only [lookA, ifb] at ho
          split at ho
          · rename_i e; subst e; cases ho
            exact ⟨S, w, rfl, ⟨hG, fun b hb => glB_lt hG hb⟩, fun b hb => ⟨hb, rfl⟩⟩
          · cases ho
        · show (if id = 0 then _ else none) = none
          rw [if_neg (by omega)]
        · simp only [lookA, ifb] at h1 h2
          split at h1
          · split at h2
            · rename_i e1 e2; exact absurd (e1.symm.trans e2) hne
            · cases h2
          · cases h1
      refine (body_sound hm hE (call_sound hm hE ht n) (spcOf_ok ht) (itsOf_ok ht) hg (as := []) (vs := []) h.h hh0 trivial).mono fun e w' he => ?_
      obtain ⟨u, rfl, φ', hp', nx', y, k1, k2, k3, k4⟩ := he
      refine ⟨u, rfl, ?_⟩
      split at k1
      · rename_i id hamb
        split at k1
        · rename_i k' v' m hm'
          split at k1
          · rename_i q
            split at k1
            · rename_i r
              subst q r
              have hml : m = l := k1
              subst hml
              have hφ0 : φ' 0 = some (.set S w) := k3.ph 0 _ rfl
              obtain ⟨S', w0, g1, _, g2⟩ := k2.ob 0 _ hamb
              rw [hφ0] at g1; cases g1
              obtain ⟨b, es, clock, o1, o2, o3⟩ := k2.ob id _ hm'
              have hid : id ≠ 0 := fun e => by subst e; rw [hamb] at hm'; cases hm'
              have hbig : w.heap.size ≤ b := by
                refine Classical.byContradiction fun hc => ?_
                exact k2.dj 0 id _ _ _ _ b hamb hm' (fun e => hid e.symm) hφ0 o1 (show b < w.heap.size by omega) rfl
              have hB : Go.RowKit.Below w.heap.size w w' := ⟨k3.os, k3.tape, k3.output, k3.size, fun b hb => (g2 b hb).2⟩
              obtain ⟨b', _, _, _, p1, p2⟩ := k4
              rw [o1] at p1; cases p1
              have hO : Orel (phiSet φ f (.at b 1 0 0)) (okb (phiSet φ f (.at b 1 0 0)) ((f, .map k' v' m) :: hp)) w' f (.map k' v' m) := by
                refine ⟨b, es, clock, by simp [phiSet], o2, L2_mono (fun x e hx => ⟨flat_K _ _ _ hk hx.1, flat_K _ _ _ hv hx.2⟩) o3⟩
              have hn := hh.new (Nat.le_refl f) (.map k' v' m) (.at b 1 0 0) hB (fun c hc => by cases hc; exact hbig) hO
              have hev := evo_new hh (Nat.le_refl f) (.map k' v' m) (.at b 1 0 0) hB (fun c hc => by cases hc; exact hbig)
              refine ⟨_, _, fun i => rfl, hn, hev, ⟨b, 1, 0, 0, by simp [phiSet], p2⟩, fun i hi => ?_⟩
              by_cases hif : i = f
              · exact .inr ⟨rfl, hif⟩
              · refine .inl ?_
                simp only [phiSet, if_neg hif] at hi
                exact hi
            · exact k1.elim
          · exact k1.elim
        · exact k1.elim
      · exact k1.elim
    · exact hl.elim
end Go.VM
set_option autoImplicit false
set_option linter.all false
namespace Go.VM
open Go Go.Lib

/-- What one object has for itself is turned, and the object is given up. -/
theorem kill_turned {φ : Phi} {hp : Hp} {nx : Nat} {w w' : World} (h : HRel φ hp nx w) {g id : Nat} {o : Ob} {p : Place} (ho : lookA hp id = some o) (hpl : φ id = some p) (hS : p.S g) (ht : Turned w w' g) :
    HRel φ (delAll hp [id]) nx w' ∧ Evo φ hp w φ (delAll hp [id]) w' := by
  have ev : Evo φ hp w φ (delAll hp [id]) w' := by
    refine ⟨ht.os, ht.tape, ht.output, Nat.le_of_eq ht.size.symm, fun _ _ h => h, fun i o1 q b h1 h2 h3 => .inr fun hk => ?_, fun b _ hb => ht.bl b fun e => ?_⟩
    · rw [lookA_delAll] at h1
      split at h1
      · cases h1
      · exact hk i o1 q h1 h2 h3
    · subst e; exact hb id o p ho hpl hS
  refine ⟨⟨fun i o1 h1 => ?_, h.fr, fun i j o1 o2 p1 p2 b h1 h2 => ?_⟩, ev⟩
  · rw [lookA_delAll] at h1
    split at h1
    · cases h1
    · rename_i hm
      refine (h.ob i o1 h1).evo ev (fun q b hq hb => ht.bl b fun e => ?_)
      subst e
      exact h.dj i id o1 o q p b h1 ho (fun e => hm (by simp [e])) hq hpl hb hS
  · rw [lookA_delAll] at h1 h2
    split at h1
    · cases h1
    · split at h2
      · cases h2
      · exact h.dj i j o1 o2 p1 p2 b h1 h2

/-! ### copyCheck -/
def ckX (T : TypeId) : XOp where
  fr := fun L h f as => match as with
    | [.c (.ptr id 0)] => match h id with
      | some (.box t [.selfp i, _]) => match Nat.beq t T && Nat.beq i id with
        | true => .v (.tup [])
        | false => .bad
      | _ => .bad
    | _ => .bad

theorem turned_setCell (w : World) (b : Nat) (v : Value) : Turned w (w.setCell ⟨b, 0, none⟩ v) b :=
  ⟨rfl, rfl, rfl, by simp [World.setCell], fun k hk => by simp only [World.setCell, Array.getElem?_modify]; rw [if_neg (fun e => hk e.symm)]⟩

theorem ckX_ok {P : Program} {g : FuncId} {T : TypeId} (hh : Has P g)
    (h1 : ∀ (b : Nat) (w : World), w.cell? ⟨b, 0, none⟩ = some (.pointer (some ⟨b, 0, none⟩)) → Calls P g #[.pointer (some ⟨b, 0, none⟩)] w fun e w' => e = .returned (.tuple #[]) ∧ w' = w)
    (h2 : ∀ (b : Nat) (w : World), w.cell? ⟨b, 0, none⟩ = some (.pointer none) → w.shape? b = some (T, 2) → w.frozen? ⟨b, 0, none⟩ = false →
      Calls P g #[.pointer (some ⟨b, 0, none⟩)] w fun e w' => e = .returned (.tuple #[]) ∧ w' = w.setCell ⟨b, 0, none⟩ (.pointer (some ⟨b, 0, none⟩))) : XOk P g (ckX T) where
  has := hh
  mono := fun L h h' f as hl => by
    unfold ckX
    simp only
    split
    · split
      · rename_i heq
        rw [hl _ _ heq]
        exact .inr rfl
      · exact .inl rfl
    · exact .inl rfl
  num := fun L h f f' as l hl hn => hl
  run := fun φ hp f w as vs l hh hv hl => by
    unfold ckX at hl
    simp only at hl
    split at hl
    rotate_left
    · exact hl.elim
    rename_i id
    split at hl
    rotate_left
    · exact hl.elim
    rename_i t i c1 ho
    split at hl
    rotate_left
    · exact hl.elim
    rename_i hc
    simp only [Bool.and_eq_true] at hc
    have e1 := Nat.eq_of_beq_eq_true hc.1
    have e2 := Nat.eq_of_beq_eq_true hc.2
    subst e1
    have e2' : i = id := e2
    clear hc e2
    obtain ⟨x', hx, rfl⟩ := hl
    match vs, hv with
    | [v], hv => ?_
    obtain ⟨hv, _⟩ := hv
    have hv : isPtr φ id 0 v := hv
    obtain ⟨b, sz, cap, n, hφ, rfl⟩ := hv
    have hob := hh.ob id _ ho
    obtain ⟨b', us, hφ', hbk, hL⟩ := hob
    rw [hφ] at hφ'; cases hφ'
    match us, hL with
    | [v0, v1], hL => ?_
    obtain ⟨g0, g1, _⟩ := hL
    have hblt : b < w.heap.size := by
      rcases Nat.lt_or_ge b w.heap.size with h' | h'
      · exact h'
      · simp [Array.getElem?_eq_none h'] at hbk
    have g0 : v0 = .pointer none ∨ isPtr φ i 0 v0 := g0
    have hcell : w.cell? ⟨b, 0, none⟩ = some v0 := by rw [cell_of_heap hbk]; rfl
    have ht0 : Vrel φ (okb φ hp) w (V.tup []) (.tuple #[]) := ⟨[], rfl, trivial⟩
    rcases g0 with rfl | ⟨b2, _, _, _, hφ2, rfl⟩
    · refine (h2 b w hcell (by simp [World.shape?, hbk]) (frozen_of_heap hbk 0)).mono fun e w' he => ?_
      obtain ⟨rfl, rfl⟩ := he
      refine ⟨_, rfl, φ, _, ?_, hh.upd (kill := []) (o' := .box t [.selfp i, c1]) ho hφ rfl (turned_setCell w b _) ?_, evo_upd ho hφ rfl (turned_setCell w b _) [] _, hx.rel ⟨[], rfl, trivial⟩, fun i hi => .inl hi⟩
      · intro j
        rw [lookA_setA]
        by_cases hj : j = id
        · subst hj; rw [if_pos rfl]; exact ho.symm
        · rw [if_neg hj]; rfl
      · refine ⟨b, [.pointer (some ⟨b, 0, none⟩), v1], hφ, ?_, .inr ⟨b, _, _, _, by rw [e2']; exact hφ, rfl⟩, ?_, trivial⟩
        · simp [World.setCell, Array.getElem?_modify, hbk]
        · exact (evo_upd ho hφ (show Place.S (.at b 1 0 0) b from rfl) (turned_setCell w b _) [] _).C g1
    · rw [e2', hφ] at hφ2; cases hφ2
      refine (h1 b w hcell).mono fun e w' he => ?_
      obtain ⟨rfl, rfl⟩ := he
      exact ⟨_, rfl, φ, hp, fun i => rfl, hh, Evo.refl _ _ _, hx.rel ht0, fun i hi => .inl hi⟩

/-! ### String -/
def sbX (T e : TypeId) : XOp where
  fr := fun L h f as => match as with
    | [.c (.ptr id 0)] => match h id with
      | some (.box t [_, .own r n]) => match Nat.beq t T with
        | true => match h r with
          | some (.row t' (.int .u8) l) => match Nat.beq t' e with
            | true => .o (0 < n ∧ n ≤ 4611686018427387904 ∧ ∀ x ∈ l, 0 ≤ x ∧ x < 256) (.new (.c (.str (L.strOf (L.take (.int .u8) l n)))) [] [r])
            | false => .bad
          | _ => .bad
        | false => .bad
      | some (.box t [_, .nils]) => match Nat.beq t T with
        | true => .v (.c (.str ByteArray.empty))
        | false => .bad
      | _ => .bad
    | _ => .bad

theorem turned_drew_freeze (w : World) (g n : Nat) : Turned w (w.drew.freeze ⟨g, 0, none⟩ n) g := by
  unfold World.freeze
  split
  · exact ⟨rfl, rfl, rfl, rfl, fun _ _ => rfl⟩
  · refine ⟨rfl, rfl, rfl, ?_, fun k hk => ?_⟩
    · show (Array.modify w.heap g _).size = w.heap.size
      simp
    · show (Array.modify w.heap g _)[k]? = w.heap[k]?
      rw [Array.getElem?_modify, if_neg (fun e => hk e.symm)]

theorem u8_back (y : Int) (h0 : 0 ≤ y) (h1 : y < 256) : y = ((UInt8.ofNat y.toNat).toNat : Int) := by
  simp only [UInt8.toNat_ofNat']
  omega

theorem below_drew' (w : World) : Go.RowKit.Below w.heap.size w w.drew := ⟨rfl, rfl, rfl, Nat.le_refl _, fun _ _ => rfl⟩

theorem sbX_ok {P : Program} {g : FuncId} {T e : TypeId} (hh : Has P g)
    (h1 : ∀ (b r cap : Nat) (p : Value) (cur : Array Value) (l : List UInt8) (w : World), w.heap[b]? = some (.cells #[p, .slice (some ⟨r, 0, none⟩) l.length cap] T (0, 0)) → w.heap[r]? = some (.cells cur e (0, 0)) → l ≠ [] → cap ≠ 0 → l.length ≤ cur.size → l.length ≤ 4611686018427387904 →
      (∀ (j : Nat) (x : UInt8), l[j]? = some x → cur[j]? = some (Value.int .u8 x.toNat)) →
      Calls P g #[.pointer (some ⟨b, 0, none⟩)] w fun en w' => en = .returned (.string ⟨l.toArray⟩) ∧ w' = w.drew.freeze ⟨r, 0, none⟩ l.length)
    (h2 : ∀ (b : Nat) (p : Value) (w : World), w.heap[b]? = some (.cells #[p, .slice none 0 0] T (0, 0)) → Calls P g #[.pointer (some ⟨b, 0, none⟩)] w fun en w' => en = .returned (.string ⟨#[]⟩) ∧ w' = w.drew) : XOk P g (sbX T e) where
  has := hh
  mono := fun L h h' f as hl => by
    unfold sbX
    simp only
    split
    · split
      · rename_i heq
        rw [hl _ _ heq]
        simp only
        split
        · split
          · rename_i heq2
            rw [hl _ _ heq2]
            exact .inr rfl
          · exact .inl rfl
        · exact .inr rfl
      · rename_i heq
        rw [hl _ _ heq]
        exact .inr rfl
      · exact .inl rfl
    · exact .inl rfl
  num := fun L h f f' as l hl hn => hl
  run := fun φ hp f w as vs l hh hv hl => by
    unfold sbX at hl
    simp only at hl
    split at hl
    rotate_left
    · exact hl.elim
    rename_i id
    match vs, hv with
    | [v], hv => ?_
    obtain ⟨hv, _⟩ := hv
    have hv : isPtr φ id 0 v := hv
    obtain ⟨b, sz, cap0, n0, hφ, rfl⟩ := hv
    split at hl
    · rename_i t c0 r n ho
      split at hl
      rotate_left
      · exact hl.elim
      rename_i hT
      have e1 := Nat.eq_of_beq_eq_true hT
      subst e1
      split at hl
      rotate_left
      · exact hl.elim
      rename_i t' row hr
      split at hl
      rotate_left
      · exact hl.elim
      rename_i he
      have e1 := Nat.eq_of_beq_eq_true he
      subst e1
      obtain ⟨⟨k1, k2, k3⟩, hl⟩ := hl
      cases hl
      obtain ⟨b', us, hφ', hbk, hL⟩ := hh.ob id _ ho
      rw [hφ] at hφ'; cases hφ'
      match us, hL with
      | [v0, v1], hL => ?_
      obtain ⟨g0, g1, _⟩ := hL
      rcases g1 with ⟨_, hn0, _⟩ | ⟨rb, rsz, rcap, rn, hφr, hle, rfl⟩
      · omega
      rcases hh.ob r _ hr with ⟨h3, _⟩ | ⟨rb', cap', arr, h3, h4, h5, h6, h7⟩
      · rw [hφr] at h3; cases h3
      rw [hφr] at h3; cases h3
      have hlen : (List.take n row).length = n := by rw [List.length_take]; have : n ≤ List.length row := hle; omega
      -- the bytes
      have hL8 : ((List.take n row).map fun x => UInt8.ofNat x.toNat).length = n := by rw [List.length_map, hlen]
      have hcalls := h1 b rb rcap v0 arr ((List.take n row).map fun x => UInt8.ofNat x.toNat) w (by rw [hL8]; exact hbk) h4 (fun e => by rw [e] at hL8; simp at hL8; omega) ?_ ?_ (by rw [hL8]; exact k2) ?_
      · rw [hL8] at hcalls
        refine hcalls.mono fun en w' hen => ?_
        obtain ⟨rfl, rfl⟩ := hen
        obtain ⟨q1, q2⟩ := kill_turned hh hr hφr (show Place.S (.at rb 1 rcap _) rb from rfl) (turned_drew_freeze w rb n)
        exact ⟨_, rfl, φ, _, fun i => rfl, q1, q2, rfl, fun i hi => .inl hi⟩
      · have : n ≤ List.length row := hle
        have h6' : List.length row ≤ rcap := h6
        omega
      · rw [hL8]
        have : n ≤ List.length row := hle
        have h6' : List.length row ≤ rcap := h6
        have h5' : arr.size = rcap * 1 := h5
        omega
      · intro j x hx
        rw [List.getElem?_map, Option.map_eq_some_iff] at hx
        obtain ⟨y, hy, rfl⟩ := hx
        rw [List.getElem?_take] at hy
        split at hy
        · obtain ⟨vs, q1, q2⟩ := h7 j y hy
          have q1 : vs = [.int .u8 y] := q1
          subst q1
          have := q2 0 _ rfl
          have h8 : arr[j * 1 + 0]? = some (Value.int .u8 y) := this
          rw [Nat.mul_one, Nat.add_zero] at h8
          rw [h8]
          obtain ⟨y0, y1⟩ := k3 y (List.mem_of_getElem? hy)
          exact congrArg (fun z => some (Value.int .u8 z)) (u8_back y y0 y1)
        · cases hy
    · rename_i t c0 ho
      split at hl
      rotate_left
      · exact hl.elim
      rename_i hT
      have e1 := Nat.eq_of_beq_eq_true hT
      subst e1
      obtain ⟨x', hx, rfl⟩ := hl
      obtain ⟨b', us, hφ', hbk, hL⟩ := hh.ob id _ ho
      rw [hφ] at hφ'; cases hφ'
      match us, hL with
      | [v0, v1], hL => ?_
      obtain ⟨g0, g1, _⟩ := hL
      obtain rfl : v1 = _ := g1
      refine (h2 b v0 w hbk).mono fun en w' hen => ?_
      obtain ⟨rfl, rfl⟩ := hen
      obtain ⟨q1, q2⟩ := below_h hh (below_drew' w)
      exact ⟨_, rfl, φ, hp, fun i => rfl, q1, q2, hx.rel (show Vrel φ (okb φ hp) w.drew (.c (.str ByteArray.empty)) (.string ⟨#[]⟩) from rfl), fun i hi => .inl hi⟩
    · exact hl.elim

/-! ### a number read, or an error -/
def atoiX (p : ByteArray → Prop) (okf : ByteArray → Bool) (val : ByteArray → Int) : XOp where
  fr := fun L h f as => match as with
    | [.c (.str s)] => match hasAmb h [] with
      | true => .o (p s) (.br (okf s) (.v (.tup [(false, [.int .i64 (val s)]), (false, [.ifn])])) (.v (.tup [(false, [.un]), (false, [.ifo])])))
      | false => .bad
    | _ => .bad

theorem atoiX_ok {P : Program} {g : FuncId} {p : ByteArray → Prop} {okf : ByteArray → Bool} {val : ByteArray → Int} (hh : Has P g)
    (h1 : ∀ (s : ByteArray) (w : World), p s → okf s = true → Calls P g #[.string s] w fun e w' => e = .returned (.tuple #[.int .i64 (val s), .nilIface]) ∧ Go.RowKit.Below w.heap.size w w')
    (h2 : ∀ (s : ByteArray) (w : World), glW w → p s → okf s = false → Calls P g #[.string s] w fun e w' => (∃ n t u, e = .returned (.tuple #[.int .i64 n, .iface t u])) ∧ Go.RowKit.Below w.heap.size w w') : XOk P g (atoiX p okf val) where
  has := hh
  mono := fun L h h' f as hl => by
    unfold atoiX
    simp only
    split
    · cases ha : hasAmb h [] with
      | false => exact .inl rfl
      | true => right; rw [hasAmb_mono hl ha]
    · exact .inl rfl
  num := fun L h f f' as l hl hn => hl
  run := fun φ hp f w as vs l hh hv hl => by
    unfold atoiX at hl
    simp only at hl
    split at hl
    rotate_left
    · exact hl.elim
    rename_i s
    split at hl
    rotate_left
    · exact hl.elim
    rename_i hA
    obtain ⟨hp', hb⟩ := hl
    match vs, hv with
    | [v], hv => ?_
    obtain ⟨hv, _⟩ := hv
    obtain rfl : v = .string s := hv
    cases hc : okf s with
    | true =>
      obtain ⟨x', hx, rfl⟩ := hb.1 hc
      refine (h1 s w hp' hc).mono fun e w' he => ?_
      obtain ⟨rfl, hbel⟩ := he
      obtain ⟨q1, q2⟩ := below_h hh hbel
      refine ⟨_, rfl, φ, hp, fun id => rfl, q1, q2, hx.rel ⟨[_, _], rfl, ?_, ?_, trivial⟩, fun id hid => .inl hid⟩
      · exact ⟨_, rfl, rfl⟩
      · exact ⟨_, rfl, rfl⟩
    | false =>
      obtain ⟨x', hx, rfl⟩ := hb.2 hc
      refine (h2 s w (hasAmb_ok hh hA).1 hp' hc).mono fun e w' he => ?_
      obtain ⟨⟨n, t, u, rfl⟩, hbel⟩ := he
      obtain ⟨q1, q2⟩ := below_h hh hbel
      refine ⟨_, rfl, φ, hp, fun id => rfl, q1, q2, hx.rel ⟨[_, _], rfl, ?_, ?_, trivial⟩, fun id hid => .inl hid⟩
      · exact ⟨_, rfl, trivial⟩
      · exact ⟨_, rfl, t, u, rfl⟩
end Go.VM
set_option autoImplicit false
set_option linter.all false
namespace Go.VM
open Go Go.Lib

def flatC : C → Bool
  | .int _ _ | .bool _ | .sym _ | .str _ | .nils | .nilp | .nilf | .nilm | .ifn | .ife _ _ _ => true
  | _ => false

theorem flatC_rel {φ φ' : Phi} {ok ok' : Nat → Prop} {w w' : World} {c : C} {v : Value} (h : flatC c = true) (hr : Crel φ ok w c v) : Crel φ' ok' w' c v := by
  cases c <;> first | exact hr | cases h

theorem flatC_eq {φ φ' : Phi} {ok ok' : Nat → Prop} {w w' : World} {c : C} {v v' : Value} (h : flatC c = true) (hr : Crel φ ok w c v) (hr' : Crel φ' ok' w' c v') : v' = v := by
  cases c with
  | int k n => obtain rfl : v = _ := hr; exact hr'
  | bool b => obtain rfl : v = _ := hr; exact hr'
  | sym b => obtain rfl : v = _ := hr; exact hr'
  | str s => obtain rfl : v = _ := hr; exact hr'
  | nils => obtain rfl : v = _ := hr; exact hr'
  | nilp => obtain rfl : v = _ := hr; exact hr'
  | nilf => obtain rfl : v = _ := hr; exact hr'
  | nilm => obtain rfl : v = _ := hr; exact hr'
  | ifn => obtain rfl : v = _ := hr; exact hr'
  | ife t k n => obtain rfl : v = _ := hr; exact hr'
  | _ => cases h

theorem flats_eq {φ φ' : Phi} {ok ok' : Nat → Prop} {w w' : World} : ∀ {cs : List C} {vs vs' : List Value}, cs.all flatC = true → L2 (Crel φ ok w) cs vs → L2 (Crel φ' ok' w') cs vs' → vs' = vs
  | [], [], [], _, _, _ => rfl
  | c :: cs, v :: vs, v' :: vs', h, h1, h2 => by
    simp only [List.all_cons, Bool.and_eq_true] at h
    rw [flatC_eq h.1 h1.1 h2.1, flats_eq h.2 h1.2 h2.2]
  | [], _ :: _, _, _, h, _ => h.elim
  | _ :: _, [], _, _, h, _ => h.elim
  | [], [], _ :: _, _, _, h => h.elim
  | _ :: _, _ :: _, [], _, _, h => h.elim

theorem flats_rel {φ φ' : Phi} {ok ok' : Nat → Prop} {w w' : World} : ∀ {cs : List C} {vs : List Value}, cs.all flatC = true → L2 (Crel φ ok w) cs vs → L2 (Crel φ' ok' w') cs vs
  | [], [], _, _ => trivial
  | c :: cs, v :: vs, h, h1 => by
    simp only [List.all_cons, Bool.and_eq_true] at h
    exact ⟨flatC_rel h.1 h1.1, flats_rel h.2 h1.2⟩
  | [], _ :: _, _, h => h.elim
  | _ :: _, [], _, h => h.elim

/-- A closure of one argument, of plain data, that reads one variable of flat cells; its result is flat. -/
structure RdX where
  T : TypeId
  t : Ty
  outs : List Ty
  X : Type
  sel : List C → Option X
  box : X → List C
  pre : Lv → X → t.D → Prop
  fn : Lv → X → t.D → Ds outs

def RdX.x (r : RdX) : XOp where
  fr := fun L h f as => match as with
    | [a, .c (.ptr id 0)] => match h id with
      | some (.box T cs) => match Nat.beq T r.T, r.sel cs with
        | true, some p => match viewV L h r.t a with
          | some (x, []) => match hasAmb h [] with
            | true => .o (r.pre L p x) (.v (outR r.outs (r.fn L p x)))
            | false => .bad
          | _ => .bad
        | _, _ => .bad
      | _ => .bad
    | _ => .bad

def RdX.vc (r : RdX) (L : Lv) (E : Ev) (call : CallG) (spc : Spc) (d : FnD) (p : r.X) (x : r.t.D) : VC :=
  bodyVC L E call spc d [outV r.t x, .c (.ptr 1 0)] [(0, .amb), (1, .box r.T (r.box p))] 2 fun y hp _ => match lookA hp 0, lookA hp 1 with
    | some .amb, some (.box T cs) => match viewR L (lookA hp) r.outs y with
      | some (z, _) => .ok (T = r.T ∧ cs = r.box p ∧ z = r.fn L p x)
      | none => .bad
    | _, _ => .bad

theorem rdX_ok {P : Program} {E : Ev} (hm : P.follows .mixedOrders = true) (hE : ∀ t i, E t = some i → TIok P t i) {fns : FuncId → FT} (n : Nat) (ht : TableOk P fns) {g : FuncId} {d : FnD} (hg : FnOk P g d)
    (r : RdX) (hsel : ∀ cs p, r.sel cs = some p → cs = r.box p) (hflat : ∀ p, (r.box p).all flatC = true) (ho : r.outs.all Ty.flat = true)
    (h : ∀ p x, r.pre Lv.std p x → Holds (r.vc Lv.std E (callG Lv.std E fns n) (spcOf fns) d p x)) : XOk P g r.x where
  has := hg.has
  mono := fun L h h' f as hl => by
    unfold RdX.x
    simp only
    split
    · split
      · rename_i heq
        rw [hl _ _ heq]
        simp only
        split
        · split
          · rename_i heq2
            rw [viewV_mono L hl _ _ _ heq2]
            simp only
            cases ha : hasAmb h [] with
            | false => exact .inl rfl
            | true => right; rw [hasAmb_mono hl ha]
          · exact .inl rfl
        · exact .inl rfl
      · exact .inl rfl
    · exact .inl rfl
  num := fun L h f f' as l hl hn => hl
  run := fun φ hp f w as vs l hh hv hl => by
    unfold RdX.x at hl
    simp only at hl
    split at hl
    rotate_left
    · exact hl.elim
    rename_i a id
    split at hl
    rotate_left
    · exact hl.elim
    rename_i T cs hbx
    split at hl
    rotate_left
    · exact hl.elim
    rename_i p hT hs
    have e1 := Nat.eq_of_beq_eq_true hT
    subst e1
    have e2 := hsel _ _ hs
    subst e2
    split at hl
    rotate_left
    · exact hl.elim
    rename_i x hvw
    split at hl
    rotate_left
    · exact hl.elim
    rename_i hA
    obtain ⟨hpre, x', hx, rfl⟩ := hl
    match vs, hv with
    | [va, vp], hv => ?_
    obtain ⟨hva, hvp, _⟩ := hv
    have hvp : isPtr φ id 0 vp := hvp
    obtain ⟨b, sz, cap, n0, hφ, rfl⟩ := hvp
    obtain ⟨b', us, hφ', hbk, hL⟩ := hh.ob id _ hbx
    rw [hφ] at hφ'; cases hφ'
    have hblt : b < w.heap.size := by
      rcases Nat.lt_or_ge b w.heap.size with h' | h'
      · exact h'
      · simp [Array.getElem?_eq_none h'] at hbk
    have hnb : ¬ okb φ hp b := fun hb => hb id _ _ hbx hφ rfl
    have hG := hasAmb_ok hh hA
    -- the package's blocks are not the variable's
    have hgl : ∀ c, glB c → c ≠ b := fun c hc e => by
      subst e
      unfold hasAmb at hA
      split at hA
      · rename_i h0
        obtain ⟨S0, w0, k1, ⟨_, k2⟩, _⟩ := hh.ob 0 _ h0
        by_cases e0 : id = 0
        · subst e0; rw [h0] at hbx; cases hbx
        · exact hh.dj 0 id _ _ _ _ c h0 hbx (fun e => e0 e.symm) k1 hφ (k2 c hc) rfl
      · cases hA
    let S : Nat → Prop := fun c => c < w.heap.size ∧ ¬ okb φ hp c ∧ c ≠ b
    let φ0 : Phi := fun i => if i = 0 then some (.set S w) else if i = 1 then some (.at b 1 0 0) else none
    let hp0 : Hp := [(0, .amb), (1, .box r.T (r.box p))]
    have look0 : ∀ i o, lookA hp0 i = some o → (i = 0 ∧ o = .amb) ∨ (i = 1 ∧ o = .box r.T (r.box p)) := fun i o hi => by
      simp only [hp0, lookA, ifb] at hi
      split at hi
      · rename_i e; cases hi; exact .inl ⟨e.symm, rfl⟩
      · split at hi
        · rename_i e; cases hi; exact .inr ⟨e.symm, rfl⟩
        · cases hi
    have p0 : φ0 0 = some (.set S w) := rfl
    have p1 : φ0 1 = some (.at b 1 0 0) := rfl
    have hh0 : HRel φ0 hp0 2 w := by
      refine ⟨fun i o hi => ?_, fun i hi => ?_, fun i j o o' q q' c h1 h2 hne h3 h4 h5 => ?_⟩
      · rcases look0 i o hi with ⟨rfl, rfl⟩ | ⟨rfl, rfl⟩
        · exact ⟨S, w, rfl, ⟨hG.1, fun c hc => ⟨glB_lt hG.1 hc, fun hk => hG.2 c hc (by simpa [delAll] using hk), hgl c hc⟩⟩, fun c hc => ⟨hc.1, rfl⟩⟩
        · exact ⟨b, us, rfl, hbk, flats_rel (hflat p) hL⟩
      · show (if i = 0 then _ else if i = 1 then _ else none) = none
        rw [if_neg (by omega), if_neg (by omega)]
      · rcases look0 i o h1 with ⟨rfl, rfl⟩ | ⟨rfl, rfl⟩ <;> rcases look0 j o' h2 with ⟨rfl, rfl⟩ | ⟨rfl, rfl⟩
        · exact absurd rfl hne
        · rw [p0] at h3; rw [p1] at h4; cases h3; cases h4
          exact fun hc => h5.2.2 hc
        · rw [p1] at h3; rw [p0] at h4; cases h3; cases h4
          exact fun hc => hc.2.2 h5
        · exact absurd rfl hne
    have hok0 : ∀ c, okb φ hp c → okb φ0 hp0 c := fun c hc i o q h1 h2 h3 => by
      rcases look0 i o h1 with ⟨rfl, rfl⟩ | ⟨rfl, rfl⟩
      · rw [p0] at h2; cases h2; exact h3.2.1 hc
      · rw [p1] at h2; cases h2
        have : c = b := h3
        subst this; exact hnb hc
    have hva0 : Vrel φ0 (okb φ0 hp0) w (outV r.t x) va := outV_ok (KV_mono (fun c hc _ => ⟨rfl, hok0 c (by simpa [delAll] using hc)⟩) (viewV_ok hh hvw hva))
    refine (body_sound hm hE (call_sound hm hE ht n) (spcOf_ok ht) (itsOf_ok ht) hg (as := [outV r.t x, .c (.ptr 1 0)]) (vs := [va, .pointer (some ⟨b, 0, none⟩)]) (h p x hpre).h hh0 ⟨hva0, ⟨b, _, _, _, p1, rfl⟩, trivial⟩).mono fun e w' he => ?_
    obtain ⟨u, rfl, φ', hp', nx', y, k1, k2, k3, k4⟩ := he
    refine ⟨u, rfl, ?_⟩
    split at k1
    rotate_left
    · exact k1.elim
    rename_i T1 cs1 h0 h1
    split at k1
    rotate_left
    · exact k1.elim
    rename_i z ids hz
    obtain ⟨rfl, rfl, rfl⟩ := k1
    have q0 := k3.ph 0 _ p0
    have q1 := k3.ph 1 _ p1
    obtain ⟨S', w0, g1, _, g2⟩ := k2.ob 0 _ h0
    rw [q0] at g1; cases g1
    obtain ⟨b1, us1, g3, g4, g5⟩ := k2.ob 1 _ h1
    rw [q1] at g3; cases g3
    have hus := flats_eq (hflat p) hL g5
    subst hus
    have hB : Go.RowKit.Below w.heap.size w w' := by
      refine ⟨k3.os, k3.tape, k3.output, k3.size, fun c hc => ?_⟩
      by_cases hcb : c = b
      · subst hcb; rw [g4, hbk]
      · by_cases hco : okb φ hp c
        · exact k3.bl c hc (hok0 c hco)
        · exact (g2 c ⟨hc, hco, hcb⟩).2
    obtain ⟨r1, r2⟩ := below_h hh hB
    have hR := viewR_ok k2 r.outs y u _ ids hz k4
    exact ⟨φ, hp, fun i => rfl, r1, r2, hx.rel (outR_ok _ _ _ (flat_KR _ _ _ ho hR)), fun i hi => .inl hi⟩
end Go.VM
set_option autoImplicit false
set_option linter.all false
namespace Go.VM
open Go Go.Lib
variable {B : Nat × Bool}

/-! ### 1. The generator: the number of elements that have been yielded goes along; none: a round has said 'no more' -/
abbrev KontI := Ex → St → Option Nat → VC

def yldOf (s : St) : Op → Option (Nat × List V)
  | .call { callee := .value f, args := as, argTypes := _ } => match s.ev f with
    | .c (.yld l) => some (l, as.toList.map s.ev)
    | _ => none
  | _ => none

/-- What a round leaves of a state: variables of its own are read from then on. -/
def frzV (hp : Hp) : V → V
  | .c (.ptr id 0) => match lookA hp id with
    | some (.box _ cs) => .ipt cs
    | _ => .c (.ptr id 0)
  | v => v
def frzL (hp : Hp) : List (Nat × V) → List (Nat × V)
  | [] => []
  | (j, v) :: l => (j, frzV hp v) :: frzL hp l
def frzS (s : St) : St := { s with sl := frzL s.hp s.sl, hp := [(0, .amb)] }
theorem frzL_look (hp : Hp) : ∀ (l : List (Nat × V)) (j : Nat) (v : V), lookA (frzL hp l) j = some v → ∃ v0, lookA l j = some v0 ∧ v = frzV hp v0
  | [], _, _, h => by cases h
  | (k, x) :: l, j, v, h => by
    simp only [frzL, lookA, ifb] at h ⊢
    split at h
    · rename_i e; rw [if_pos e]; cases h; exact ⟨x, rfl, rfl⟩
    · rename_i e; rw [if_neg e]; exact frzL_look hp l j v h

def itYield (L : Lv) (l : Nat) (it : It) (exp : List (Ds it.el)) (l' : Nat) (as : List V) (s : St) (g : Option Nat) (dst : Option Nat) (k : St → Option Nat → VC) : VC := match g with
  | none => .bad
  | some i => match viewAll L (lookA s.hp) it.el as with
    | none => .bad
    | some (y, ids) => match hasAmb (lookA s.hp) ids with
      | false => .bad
      | true => .obl (l' = l) (.obl (L.nth (Ds it.el) exp i y) (.all Bool fun b => .br b (k ((frzS s).put dst (.c (.bool true))) (some (i + 1))) (k ((frzS s).put dst (.c (.bool false))) none)))

def itOps (L : Lv) (E : Ev) (call : CallG) (l : Nat) (it : It) (exp : List (Ds it.el)) (ops : Array Oper) : List Oper → St → Option Nat → (St → Option Nat → VC) → VC
  | [], s, g, k => k s g
  | o :: r, s, g, k => guardG ops o s (match yldOf s o.op with
      | some (l', as) => itYield L l it exp l' as s g o.dst fun s' g' => itOps L E call l it exp ops r s' g' k
      | none => stepOp L E call o s fun s' => itOps L E call l it exp ops r s' g k) (itOps L E call l it exp ops r (s.put o.dst (.c .sk)) g k)

structure IAnn : Type 1 where
  js : List Nat
  ren : St → List Nat
  ad : List (Nat × Option Nat × TypeId × Ty)
  X : Type
  c : St → X → St
  ext : St → X
  I : St → Nat → X → Prop
  mu : St → X → Nat

def itLoop (an : IAnn) (body : St → Option Nat → KontI → VC) (s : St) (g : Option Nat) (k : KontI) : VC := match g with
  | none => .bad
  | some i => match adopts an.ad s with
    | none => .bad
    | some s1 => match norm s1.nx an.js (an.ren s1) s1 with
      | none => .bad
      | some n0 => .obl (n0 = an.c n0 (an.ext n0)) (.obl (an.I n0 i (an.ext n0)) (.all an.X fun x => .all Nat fun j => .imp (an.I n0 j x) (body (an.c n0 x) (some j) fun e s2 g2 => match e with
          | .normal => match g2 with
            | none => .bad
            | some j2 => match norm s1.nx an.js (an.ren s2) s2 with
              | some n2 => .ok (n2 = an.c n0 (an.ext n2) ∧ an.I n0 j2 (an.ext n2) ∧ an.mu n0 (an.ext n2) < an.mu n0 x)
              | none => .bad
          | .exit id => k (.exit id) s2 g2
          | .ret => k .ret s2 g2)))

def itC (L : Lv) (E : Ev) (call : CallG) (spc : Spc) (pl : Nat → Plan) (ann : Nat → Option IAnn) (l : Nat) (it : It) (exp : List (Ds it.el)) : Nat → Code → St → Option Nat → KontI → VC
  | _, .skip, s, g, k => k .normal s g
  | _, .region id ops draw, s, g, k => match draw with
    | true => drawGo L E spc ops (pl id) [] s fun s' => k .normal s' g
    | false => itOps L E call l it exp ops ops.toList s g (k .normal)
  | b, .seq x y, s, g, k => itC L E call spc pl ann l it exp b x s g fun e s1 g1 => match e with
    | .normal => itC L E call spc pl ann l it exp b y s1 g1 k
    | .exit id => k (.exit id) s1 g1
    | .ret => k .ret s1 g1
  | b, .cond c x y, s, g, k => match s.ev c with
    | .c (.bool true) => itC L E call spc pl ann l it exp b x s g k
    | .c (.bool false) => itC L E call spc pl ann l it exp b y s g k
    | .c (.sym q) => .br q (itC L E call spc pl ann l it exp b x s g k) (itC L E call spc pl ann l it exp b y s g k)
    | _ => .bad
  | _, .block id c, s, g, k => itC L E call spc pl ann l it exp id c s g fun e s1 g1 => match e with
    | .normal => k .normal s1 g1
    | .exit id' => if Nat.beq id' id then k .normal s1 g1 else k (.exit id') s1 g1
    | .ret => k .ret s1 g1
  | b, .loop c, s, g, k => match ann b with
    | none => .bad
    | some a => itLoop a (itC L E call spc pl ann l it exp b c) s g k
  | _, .exit id, s, g, k => k (.exit id) s g
  | _, .label _, s, g, k => k .normal s g
  | _, .ret, s, g, k => k .ret s g
  | _, _, _, _, _ => .bad

/-- The condition of an iterator's contract: its code, from the yield function and what it has captured. -/
def iterVC (L : Lv) (E : Ev) (call : CallG) (spc : Spc) (code : Code) (ntmps : Nat) (pl : Nat → Plan) (ann : Nat → Option IAnn) (it : It) (l : Nat) (x : Ds it.ins) : VC :=
  itC L E call spc pl ann l it (it.fn x) 0 code { n := 1 + it.ins.length + (ntmps - (1 + it.ins.length)), sl := argSl 0 (.c (.yld l) :: capVs it.ins x), hp := [(0, .amb)], nx := 1 } (some 0) fun e s g => match hasAmb (lookA s.hp) [] with
    | false => .bad
    | true => match e with
      | .exit _ => .bad
      | _ => match g with
        | some i => .ok (i = L.cnt (Ds it.el) (it.fn x))
        | none => .ok True
where capVs : (ts : List Ty) → Ds ts → List V
  | [], _ => []
  | t :: ts, x => .ipt (expl t x.1) :: capVs ts x.2

/-! ### 2. Data stay while others write -/
section
variable {φ φ' : Phi} {ok ok' : Nat → Prop} {w w' : World}

theorem ptr_move (hph : ∀ id p, φ id = some p → (∀ S u, p ≠ .set S u) → φ' id = some p) {id off : Nat} {v : Value} (h : isPtr φ id off v) : isPtr φ' id off v := by
  obtain ⟨b, sz, cap, n, h1, h2⟩ := h
  exact ⟨b, sz, cap, n, hph _ _ h1 (by simp), h2⟩

theorem C_move (hph : ∀ id p, φ id = some p → (∀ S u, p ≠ .set S u) → φ' id = some p) (hk : ∀ b, ok b → b < w.heap.size → w'.heap[b]? = w.heap[b]? ∧ ok' b) {x : C} {v : Value} (h : Crel φ ok w x v) : Crel φ' ok' w' x v := by
  cases x with
  | sl e l => exact K_mono hk _ _ _ h
  | own id len =>
    rcases h with ⟨h1, h2, h3⟩ | ⟨b, sz, cap, n, h1, h2⟩
    · exact .inl ⟨hph _ _ h1 (by simp), h2, h3⟩
    · exact .inr ⟨b, sz, cap, n, hph _ _ h1 (by simp), h2⟩
  | ptr id off => exact ptr_move hph h
  | selfp id => exact h.imp (fun h => h) (fun hc => ptr_move hph hc)
  | elp id i off => obtain ⟨b, sz, cap, n, h1, h2⟩ := h; exact ⟨b, sz, cap, n, hph _ _ h1 (by simp), h2⟩
  | fn f caps => obtain ⟨vs, h1, h2⟩ := h; exact ⟨vs, h1, L2_mono (fun _ _ hh => ptr_move hph hh) h2⟩
  | map id => obtain ⟨b, sz, cap, n, h1, h2⟩ := h; exact ⟨b, sz, cap, n, hph _ _ h1 (by simp), h2⟩
  | _ => exact h

theorem V_move (hph : ∀ id p, φ id = some p → (∀ S u, p ≠ .set S u) → φ' id = some p) (hk : ∀ b, ok b → b < w.heap.size → w'.heap[b]? = w.heap[b]? ∧ ok' b) {x : V} {v : Value} (h : Vrel φ ok w x v) : Vrel φ' ok' w' x v := by
  cases x with
  | c x => exact C_move hph hk h
  | agg l => obtain ⟨vs, h1, h2⟩ := h; exact ⟨vs, h1, L2_mono (fun _ _ hh => C_move hph hk hh) h2⟩
  | tup l =>
    obtain ⟨vs, h1, h2⟩ := h
    refine ⟨vs, h1, L2_mono (fun y u hh => ?_) h2⟩
    unfold tupRel at hh ⊢
    split at hh
    · rename_i hy
      rw [if_pos hy]
      obtain ⟨us, e, hh⟩ := hh
      exact ⟨us, e, L2_mono (fun _ _ hh => C_move hph hk hh) hh⟩
    · rename_i hy
      rw [if_neg hy]
      obtain ⟨c, e, hh⟩ := hh
      exact ⟨c, e, C_move hph hk hh⟩
  | ipt l =>
    obtain ⟨ad, vs, h1, h2, h3⟩ := h
    refine ⟨ad, vs, h1, L2_mono (fun _ _ hh => C_move hph hk hh) h2, fun i u hu => ?_⟩
    obtain ⟨hok, hcell⟩ := h3 i u hu
    obtain ⟨q1, q2⟩ := hk _ hok (block_of_cell hcell)
    refine ⟨q2, ?_⟩
    rw [World.cell?_of_block (w := w)]
    · exact hcell
    · rw [add_block]; exact q1
end

/-! ### 3. Soundness -/
section
variable {P : Program} {E : Ev}

/-- What is so of the caller, while an iterator runs. -/
structure GI (JJ : (Nat → Prop) → World → Prop) (φ : Phi) (hp : Hp) (W : World) (C : Nat → Prop) (φs : Phi) (Ws : World) : Prop where
  j : JJ C Ws
  p0 : φs 0 = some (.set (fun b => C b ∨ glB b) Ws)
  pn : ∀ id, id ≠ 0 → φs id = none
  lt : ∀ b, C b → b < Ws.heap.size
  gl : glW Ws
  ev : Evo φs [(0, .amb)] Ws φ hp W

def GX (JJ : (Nat → Prop) → World → Prop) (φ : Phi) (hp : Hp) (W : World) : Prop := ∃ C φs Ws, GI JJ φ hp W C φs Ws

theorem okAmb {φs : Phi} {C : Nat → Prop} {Ws : World} (h : φs 0 = some (.set (fun b => C b ∨ glB b) Ws)) (b : Nat) : okb φs [(0, .amb)] b ↔ ¬ (C b ∨ glB b) := by
  constructor
  · intro hb hC
    exact hb 0 .amb _ rfl h hC
  · intro hC id o p h1 h2 h3
    simp only [lookA, ifb] at h1
    split at h1
    · rename_i e; subst e
      rw [h] at h2; cases h2
      exact hC h3
    · cases h1

theorem GX.trans {JJ : (Nat → Prop) → World → Prop} {φ φ' : Phi} {hp hp' : Hp} {W W' : World} (h : GX JJ φ hp W) (ev : Evo φ hp W φ' hp' W') : GX JJ φ' hp' W' := by
  obtain ⟨C, φs, Ws, h⟩ := h
  exact ⟨C, φs, Ws, h.j, h.p0, h.pn, h.lt, h.gl, h.ev.trans ev⟩

/-- Where the ambient object is there, nothing that lay has been turned. -/
theorem GI.below {JJ : (Nat → Prop) → World → Prop} {φ φs : Phi} {hp : Hp} {nx : Nat} {W Ws : World} {C : Nat → Prop} (h : GI JJ φ hp W C φs Ws) (hh : HRel φ hp nx W) (ha : lookA hp 0 = some .amb) : Go.RowKit.Below Ws.heap.size Ws W ∧ φ 0 = some (.set (fun b => C b ∨ glB b) Ws) := by
  have h0 := h.ev.ph _ _ h.p0
  obtain ⟨S, w0, g1, g2, g3⟩ := hh.ob 0 .amb ha
  rw [h0] at g1; cases g1
  refine ⟨⟨h.ev.os, h.ev.tape, h.ev.output, h.ev.size, fun b hb => ?_⟩, h0⟩
  by_cases hS : C b ∨ glB b
  · exact (g3 b hS).2
  · exact h.ev.bl b hb ((okAmb h.p0 b).2 hS)

/-- Objects are given up. -/
theorem sub_heap {φ : Phi} {hp hp' : Hp} {nx : Nat} {W : World} (hs : ∀ id o, lookA hp' id = some o → lookA hp id = some o) (hh : HRel φ hp nx W) : HRel φ hp' nx W ∧ Evo φ hp W φ hp' W := by
  have ev : Evo φ hp W φ hp' W := ⟨rfl, rfl, rfl, Nat.le_refl _, fun _ _ h => h, fun id o p b h1 h2 h3 => .inr fun hb => hb id o p (hs id o h1) h2 h3, fun _ _ _ => rfl⟩
  exact ⟨⟨fun id o ho => (hh.ob id o (hs id o ho)).evo ev fun _ _ _ _ => rfl, hh.fr, fun i j o o' p q b h1 h2 => hh.dj i j o o' p q b (hs i o h1) (hs j o' h2)⟩, ev⟩

theorem amb_of {hp : Hp} {ids : List Nat} (h : hasAmb (lookA hp) ids = true) : lookA hp 0 = some .amb := by
  unfold hasAmb at h; split at h
  · assumption
  · cases h

theorem amb_sub {hp : Hp} (h : lookA hp 0 = some .amb) (id : Nat) (o : Ob) (ho : lookA ([(0, .amb)] : Hp) id = some o) : lookA hp id = some o := by
  simp only [lookA, ifb] at ho
  split at ho
  · rename_i e; subst e; cases ho; exact h
  · cases ho

/-- Behind a round. -/
theorem after_round {φ : Phi} {s : St} {a : Act} {W W' Ws : World} {C C' : Nat → Prop} (hr : Rel B φ s a W) (ha : lookA s.hp 0 = some .amb) (h0 : φ 0 = some (.set (fun b => C b ∨ glB b) Ws)) (hg : glW W) (hf : Frm C W W') (hn : Next W W' C C') {JJ : (Nat → Prop) → World → Prop} (hJ : JJ C' W') :
    ∃ φ', Rel B φ' (frzS s) a W' ∧ GX JJ φ' [(0, .amb)] W' := by
  obtain ⟨h1, ev⟩ := sub_heap (amb_sub ha) hr.h
  have frz : ∀ {j : Nat} {v : V}, lookA (frzS s).sl j = some v → Vrel φ (okb φ [(0, .amb)]) W v (a.tmps.getD j undef) := fun {j v} hj => by
    obtain ⟨v0, q1, rfl⟩ := frzL_look s.hp s.sl j v hj
    have hv := hr.sl j v0 q1
    unfold frzV
    split
    · rename_i id
      split
      · rename_i t cs ho
        obtain ⟨b, sz, cap, n, g1, g2⟩ := hv
        obtain ⟨b', vs, k1, k2, k3⟩ := hr.ob id _ ho
        rw [g1] at k1; cases k1
        refine ⟨⟨b, 0, none⟩, vs, g2, L2_mono (fun _ _ hh => ev.C hh) k3, fun i u hu => ⟨fun id' o p h1' h2' h3' => ?_, ?_⟩⟩
        · have e0 : id' = 0 := by
            simp only [lookA, ifb] at h1'
            split at h1'
            · rename_i e; exact e.symm
            · cases h1'
          subst e0
          have hne : (0 : Nat) ≠ id := fun e => by subst e; rw [ha] at ho; cases ho
          exact hr.dj 0 id _ _ p _ b ha ho hne h2' g1 h3' rfl
        · rw [add_plain, cell_at k2]
          simpa using hu
      · exact ev.V hv
    · exact ev.V hv
  have hg' : glW W' := glW_congr hf.gl (Nat.le_trans hg.sz hf.size) hg
  let φ' : Phi := fun id => if id = 0 then some (.set (fun b => C' b ∨ glB b) W') else φ id
  let φs : Phi := fun id => if id = 0 then some (.set (fun b => C' b ∨ glB b) W') else none
  have p0 : φ' 0 = some (.set (fun b => C' b ∨ glB b) W') := if_pos rfl
  have hlt : 0 < s.nx := hr.h.lt ha
  have hph : ∀ id p, φ id = some p → (∀ S u, p ≠ .set S u) → φ' id = some p := fun id p hp hne => by
    show (if id = 0 then _ else φ id) = _
    rw [if_neg (fun e => by subst e; rw [h0] at hp; cases hp; exact hne _ _ rfl)]
    exact hp
  have hk : ∀ b, okb φ [(0, .amb)] b → b < W.heap.size → W'.heap[b]? = W.heap[b]? ∧ okb φ' [(0, .amb)] b := fun b hb hlt => by
    rw [okAmb h0, not_or] at hb
    rw [okAmb p0, not_or]
    exact ⟨hf.bl b hlt hb.1, fun h => hb.1 (hn.2 b hlt h), hb.2⟩
  refine ⟨φ', ⟨hr.sz, Nat.le_trans hr.bs hf.size, ?_, fun j v hj => V_move hph hk (frz hj), fun id o ho => ?_, fun id hid => ?_, fun i j o o' p q b q1 q2 hne => ?_⟩, C', φs, W', hJ, rfl, fun id hid => if_neg hid, hn.1, hg', ⟨rfl, rfl, rfl, Nat.le_refl _, fun id p hp => ?_, fun id o p b q1 q2 q3 => ?_, fun _ _ _ => rfl⟩⟩
  · obtain ⟨l, d1, d2, d4, d3⟩ := ev.D hr.df
    refine ⟨l, d1, d2, d4, fun D hD => ?_⟩
    obtain ⟨k1, k2, k3⟩ := d3 D hD
    obtain ⟨m1, m2⟩ := hk D k3 (Array.getElem?_eq_some_iff.1 k2).1
    exact ⟨k1, m1.trans k2, m2⟩
  · change lookA ([(0, .amb)] : Hp) id = some o at ho
    simp only [lookA, ifb] at ho
    split at ho
    · rename_i e; subst e; cases ho
      exact ⟨_, W', p0, ⟨hg', fun b hb => .inr hb⟩, fun b hb => ⟨hb.elim (hn.1 b) (glB_lt hg'), rfl⟩⟩
    · cases ho
  · show (if id = 0 then _ else φ id) = _
    have : s.nx ≤ id := hid
    rw [if_neg (by omega)]
    exact hr.fr id this
  · change lookA ([(0, .amb)] : Hp) i = some o at q1
    change lookA ([(0, .amb)] : Hp) j = some o' at q2
    simp only [lookA, ifb] at q1 q2
    split at q1
    · split at q2
      · rename_i e1 e2; exact absurd (e1.symm.trans e2) hne
      · cases q2
    · cases q1
  · change (if id = 0 then _ else none) = some p at hp
    split at hp
    · rename_i e; subst e; cases hp; exact p0
    · cases hp
  · simp only [lookA, ifb] at q1
    split at q1
    · rename_i e; subst e
      rw [p0] at q2; cases q2
      exact .inr fun hb => (okAmb (φs := φs) rfl b).1 hb q3
    · cases q1

variable {it : It} {exp : List (Ds it.el)} {J Jx : List (Ds it.el) → (Nat → Prop) → World → Prop} {l : Nat}

/-- Of what the caller's invariant speaks. -/
def JG (exp : List (Ds it.el)) (J Jx : List (Ds it.el) → (Nat → Prop) → World → Prop) : Option Nat → (Nat → Prop) → World → Prop
  | some i => J (exp.take i)
  | none => fun C W => ∃ pre, Jx pre C W

def Rounds (P : Program) (l : Nat) (exp : List (Ds it.el)) (J Jx : List (Ds it.el) → (Nat → Prop) → World → Prop) : Prop := ∀ pre y rest W1 C, exp = pre ++ y :: rest → J pre C W1 → YieldAt Fence.wide 0 P l (encs it.el y).toArray W1 fun e W' =>
      Frm C W1 W' ∧ ∃ C', Next W1 W' C C' ∧ ((e = .returned (.bool true) ∧ J (pre ++ [y]) C' W') ∨ (e = .returned (.bool false) ∧ Jx (pre ++ [y]) C' W'))

/-- What is so behind. -/
def EndsI (B : Nat × Bool) (exp : List (Ds it.el)) (J Jx : List (Ds it.el) → (Nat → Prop) → World → Prop) (n : Nat) (k : St → Option Nat → VC) (a' : Act) (w' : World) : Prop :=
  ∃ φ' s' g', Rel B φ' s' a' w' ∧ s'.n = n ∧ GX (JG exp J Jx g') φ' s'.hp w' ∧ (k s' g').holds

theorem yield_sound (hflat : it.el.all Ty.flat = true) (hJ : Grows J) (hR : Rounds P l exp J Jx) {m : Nat} {φ : Phi} {s : St} {a : Act} {w : World} (hr : Rel B φ s a w) (o : Oper) {l' : Nat} {as : List V} (ho : yldOf s o.op = some (l', as)) {g : Option Nat} (k : St → Option Nat → VC)
    (hg : GX (JG exp J Jx g) φ s.hp w) (h : (itYield Lv.std l it exp l' as s g o.dst k).holds) {next : Act → World → Prop} {Q : Exit → Act → World → Prop} (hn : ∀ a' w', EndsI B exp J Jx s.n k a' w' → next a' w') : o.wpIn Fence.wide m P a w next Q := by
  refine ⟨fun f _ => trivial, ?_⟩
  unfold yldOf at ho
  split at ho
  rotate_left
  · cases ho
  rename_i f as0 ts hop
  split at ho
  rotate_left
  · cases ho
  rename_i l2 hf
  cases ho
  unfold itYield at h
  split at h
  · exact h.elim
  rename_i i
  split at h
  · exact h.elim
  rename_i y ids hv
  split at h
  · exact h.elim
  rename_i hamb
  obtain ⟨rfl, hy, hk⟩ := h
  have ha := amb_of hamb
  obtain ⟨C, φs, Ws, hg⟩ := hg
  obtain ⟨hbel, h0⟩ := hg.below hr.h ha
  have hfv : a.eval f = .func (.yield l') #[] #[] := by
    have := ev_ok hr f
    rw [hf] at this
    exact this
  have hKs := viewAll_ok hr.h it.el _ _ y ids hv (evs_ok hr as0.toList)
  have hargs : as0.map a.eval = (encs it.el y).toArray := by
    have := (KVs_flat it.el y _ hflat).1 hKs
    rw [← this]; apply Array.ext'; simp
  have hlt : i < exp.length := (List.getElem?_eq_some_iff.1 hy).1
  have hexp : exp = exp.take i ++ y :: exp.drop (i + 1) := by
    have h1 : exp[i] = y := (List.getElem?_eq_some_iff.1 hy).2
    rw [← h1, List.getElem_cons_drop hlt, List.take_append_drop]
  have htk : exp.take (i + 1) = exp.take i ++ [y] := by
    rw [List.take_succ, hy]; rfl
  obtain ⟨fn, tmps, asg, body, hrun, hround⟩ := hR (exp.take i) y (exp.drop (i + 1)) w C hexp (hJ _ _ _ _ hg.j hbel)
  rw [Oper.semAt_eq _ _ _ (fun c e => by rw [hop] at e; cases e)]
  have hx : (execOp a.eval o).run P w = .ok (.round l' fn tmps asg body) w := by
    unfold execOp
    simp only [hop, resolve, Sem.run_bind, hfv, Deferred.ofValue, Sem.run_pure, Result.andThen_ok, invoke, Array.empty_append, Array.append_empty]
    rw [hargs]
    exact hrun
  rw [hx, Oper.uponIn_round]
  refine ⟨fun h => (by cases h), trivial, fun c cs _ => ?_⟩
  obtain ⟨e, w', ⟨hfr, C', hnx, hres⟩, hst⟩ := hround.2 c cs (room_wide _)
  have hgw : glW w := glW_congr (fun b hb => hbel.block b (glB_lt hg.gl hb)) (Nat.le_trans hg.gl.sz hbel.size) hg.gl
  refine ⟨e, w', ?_, hst⟩
  rcases hres with ⟨rfl, hJ'⟩ | ⟨rfl, hJ'⟩
  · obtain ⟨φ', r1, r2⟩ := after_round (JJ := JG exp J Jx (some (i + 1))) hr ha h0 hgw hfr hnx (by show J (exp.take (i + 1)) C' w'; rw [htk]; exact hJ')
    obtain ⟨p1, p2, p3⟩ := r1.put [(0, .amb)] s.nx r1.h (Evo.refl _ _ _) o.dst (.c (.bool true)) (.bool true) rfl
    exact hn _ _ ⟨φ', _, some (i + 1), p1, p3, by rw [p2]; exact r2, (hk true).1 rfl⟩
  · obtain ⟨φ', r1, r2⟩ := after_round (JJ := JG exp J Jx none) hr ha h0 hgw hfr hnx ⟨_, hJ'⟩
    obtain ⟨p1, p2, p3⟩ := r1.put [(0, .amb)] s.nx r1.h (Evo.refl _ _ _) o.dst (.c (.bool false)) (.bool false) rfl
    exact hn _ _ ⟨φ', _, none, p1, p3, by rw [p2]; exact r2, (hk false).2 rfl⟩

theorem EndsI.of {φ φ' : Phi} {s s' : St} {a' : Act} {w w' : World} {n : Nat} {g : Option Nat} {k : St → Option Nat → VC} (hg : GX (JG exp J Jx g) φ s.hp w) (r : Rel B φ' s' a' w') (ev : Evo φ s.hp w φ' s'.hp w') (hn : s'.n = n) (h : (k s' g).holds) : EndsI B exp J Jx n k a' w' :=
  ⟨φ', s', g, r, hn, hg.trans ev, h⟩

theorem opsI_sound (hflat : it.el.all Ty.flat = true) (hJ : Grows J) (hR : Rounds P l exp J Jx) {call : CallG} (hE : ∀ t i, E t = some i → TIok P t i) (hcall : CallOk P call) {m : Nat} (ops : Array Oper) {Q : Exit → Act → World → Prop} : ∀ (os : List Oper) (ns : List Nat), ns.map (fun i => ops[i]?) = os.map some →
    ∀ (φ : Phi) (s : St) (a : Act) (w : World) (g : Option Nat) (k : St → Option Nat → VC), (itOps Lv.std E call l it exp ops os s g k).holds → Rel B φ s a w → GX (JG exp J Jx g) φ s.hp w → (∀ a' w', EndsI B exp J Jx s.n k a' w' → Q .normal a' w') → wpOpsIn Fence.wide m P ops Q ns a w
  | [], [], _, φ, s, a, w, g, k, h, hr, hg, hQ => hQ a w ⟨φ, s, g, hr, rfl, hg, h⟩
  | o :: os, i :: ns, hm, φ, s, a, w, g, k, h, hr, hg, hQ => by
    simp only [List.map_cons, List.cons.injEq] at hm
    unfold itOps at h
    simp only [wpOpsIn, hm.1]
    rcases guard_sound hr ops o _ _ h with ⟨hw, h⟩ | ⟨hw, h⟩
    · rw [if_pos hw]
      split at h
      · rename_i l' as ho
        refine yield_sound hflat hJ hR hr o ho _ hg h fun a' w' he => ?_
        obtain ⟨φ', s', g', r1, r2, r3, r4⟩ := he
        exact opsI_sound hflat hJ hR hE hcall ops os ns hm.2 φ' s' a' w' g' k r4 r1 r3 fun a2 w2 he2 => hQ a2 w2 (by rw [r2] at he2; exact he2)
      · refine step_sound .wide hE hcall hr o _ h fun a' w' he => ?_
        obtain ⟨φ', s', r1, r2, r3, r4⟩ := he
        exact opsI_sound hflat hJ hR hE hcall ops os ns hm.2 φ' s' a' w' g k r4 r1 (hg.trans r2) fun a2 w2 he2 => hQ a2 w2 (by rw [r3] at he2; exact he2)
    · rw [if_neg (by rw [hw]; simp)]
      obtain ⟨r1, r2, r3⟩ := hr.put s.hp s.nx hr.h (Evo.refl _ _ _) o.dst (.c .sk) undef rfl
      exact ⟨fun f _ => trivial, opsI_sound hflat hJ hR hE hcall ops os ns hm.2 φ _ _ w g k h r1 (by rw [r2]; exact hg) fun a2 w2 he2 => hQ a2 w2 (by rw [r3] at he2; exact he2)⟩
  | [], _ :: _, hm, _, _, _, _, _, _, _, _, _, _ => by cases hm
  | _ :: _, [], hm, _, _, _, _, _, _, _, _, _, _ => by cases hm

def CodeOkI (P : Program) (B : Nat × Bool) (exp : List (Ds it.el)) (J Jx : List (Ds it.el) → (Nat → Prop) → World → Prop) (c : Code) (gen : St → Option Nat → KontI → VC) : Prop := ∀ (m : Nat) (φ : Phi) (s : St) (a : Act) (w : World) (g : Option Nat) (k : KontI) (Q : Exit → Act → World → Prop),
  (gen s g k).holds → Rel B φ s a w → GX (JG exp J Jx g) φ s.hp w → (∀ x a' w', EndsI B exp J Jx s.n (k x) a' w' → Q x.to a' w') → c.wpIn Fence.wide m P Q a w

theorem GX.fresh {JJ : (Nat → Prop) → World → Prop} {φ : Phi} {hp hp' : Hp} {nx : Nat} {W : World} (h : GX JJ φ hp W) (hh : HRel φ hp' nx W) : 0 < nx := by
  obtain ⟨C, φs, Ws, h⟩ := h
  rcases Nat.eq_zero_or_pos nx with e | e
  · have := hh.fr 0 (by omega)
    rw [h.ev.ph _ _ h.p0] at this; cases this
  · exact e

theorem itLoop_sound {c : Code} {gen : St → Option Nat → KontI → VC} (an : IAnn) (hb : CodeOkI P B exp J Jx c gen) : CodeOkI P B exp J Jx (.loop c) (itLoop an gen) := by
  intro m φ s a w g k Q h hr hg hQ
  unfold itLoop at h
  split at h
  · exact h.elim
  rename_i i
  split at h
  · exact h.elim
  rename_i s1 hs1
  obtain ⟨φ1, r1, e1, m1⟩ := adopts_ok an.ad hs1 hr
  split at h
  · exact h.elim
  rename_i n0 hn0
  obtain ⟨h1, h2, h3⟩ := h
  have hpos := (hg.trans e1).fresh r1.h
  obtain ⟨r0, m0, e0, _⟩ := norm_ok hn0 r1
  refine wp_loop_g (fun (p : an.X × Nat) a' w' => an.I n0 p.2 p.1 ∧ ∃ φ', Rel B φ' (an.c n0 p.1) a' w' ∧ GX (JG exp J Jx (some p.2)) φ' (an.c n0 p.1).hp w' ∧ (an.c n0 p.1).n = s.n) (fun p => an.mu n0 p.1) ⟨(an.ext n0, i), h2, phiRen φ1 s1.nx (an.ren s1), ?_⟩ ?_
  · show Rel B _ (an.c n0 (an.ext n0)) a w ∧ GX _ _ (an.c n0 (an.ext n0)).hp w ∧ (an.c n0 (an.ext n0)).n = s.n
    rw [← h1]
    obtain ⟨C, φs, Ws, q⟩ := hg.trans e1
    exact ⟨r0, ⟨C, φs, Ws, q.j, q.p0, q.pn, q.lt, q.gl, e0 _ _ _ (fun id hid => q.pn id (by omega)) q.ev⟩, m0.trans m1⟩
  · rintro ⟨x, j⟩ a1 w1 ⟨hI, φ', r2, g2, m2⟩
    refine hb m φ' (an.c n0 x) a1 w1 _ _ _ (h3 x j hI) r2 g2 ?_
    rintro y a2 w2 he
    rw [m2] at he
    cases y with
    | normal =>
      obtain ⟨φ3, s3, g3, t1, t2, t3, t4⟩ := he
      simp only at t4
      split at t4
      · exact t4.elim
      rename_i j2
      split at t4
      · rename_i n2 hn2
        obtain ⟨q1, q2, q3⟩ := t4
        obtain ⟨r4, m4, e4, _⟩ := norm_ok hn2 t1
        refine ⟨(an.ext n2, j2), ⟨q2, phiRen φ3 s1.nx (an.ren s3), ?_⟩, q3⟩
        show Rel B _ (an.c n0 (an.ext n2)) a2 w2 ∧ GX _ _ (an.c n0 (an.ext n2)).hp w2 ∧ (an.c n0 (an.ext n2)).n = s.n
        rw [← q1]
        obtain ⟨C, φs, Ws, q⟩ := t3
        exact ⟨r4, ⟨C, φs, Ws, q.j, q.p0, q.pn, q.lt, q.gl, e4 _ _ _ (fun id hid => q.pn id (by omega)) q.ev⟩, m4.trans t2⟩
      · exact t4.elim
    | exit id => exact hQ _ _ _ he
    | ret => exact hQ _ _ _ he

theorem codeI_sound (hm : P.follows .mixedOrders = true) (hflat : it.el.all Ty.flat = true) (hJ : Grows J) (hR : Rounds P l exp J Jx) {call : CallG} {spc : Spc} {pl : Nat → Plan} (hE : ∀ t i, E t = some i → TIok P t i) (hcall : CallOk P call) (hspc : ∀ g x, spc g = some x → XOk P g x) (ann : Nat → Option IAnn) :
    ∀ (c : Code) (b : Nat), plansOk pl c = true → CodeOkI P B exp J Jx c (itC Lv.std E call spc pl ann l it exp b c)
  | .skip, b, hp, m, φ, s, a, w, g, k, Q, h, hr, hg, hQ => wpIn_skip (hQ .normal _ _ ⟨φ, s, g, hr, rfl, hg, h⟩)
  | .region id ops draw, b, hp, m, φ, s, a, w, g, k, Q, h, hr, hg, hQ => by
    unfold itC at h
    cases draw
    · exact wpIn_region (opsI_sound hflat hJ hR hE hcall ops ops.toList _ (range_get ops) φ _ a w g _ h hr hg fun a' w' he => hQ .normal _ _ he)
    · refine draw_sound .wide hm hE hspc (by simpa [plansOk] using hp) id φ s a w _ Q h hr fun a' w' he => hQ .normal _ _ ?_
      obtain ⟨φ', s', r1, r2, r3, r4⟩ := he
      exact ⟨φ', s', g, r1, r3, hg.trans r2, r4⟩
  | .seq x y, b, hp, m, φ, s, a, w, g, k, Q, h, hr, hg, hQ => by
    unfold itC at h
    refine wpIn_seq (codeI_sound hm hflat hJ hR hE hcall hspc ann x b (by simp only [plansOk, Bool.and_eq_true] at hp; exact hp.1) m φ s a w g _ _ h hr hg ?_)
    rintro z a1 w1 ⟨φ1, s1, g1, t1, t2, t3, t4⟩
    cases z with
    | normal => exact codeI_sound hm hflat hJ hR hE hcall hspc ann y b (by simp only [plansOk, Bool.and_eq_true] at hp; exact hp.2) m φ1 s1 a1 w1 g1 k _ t4 t1 t3 fun z a2 w2 he => hQ z a2 w2 (by rw [t2] at he; exact he)
    | exit id => exact hQ (.exit id) _ _ ⟨φ1, s1, g1, t1, t2, t3, t4⟩
    | ret => exact hQ .ret _ _ ⟨φ1, s1, g1, t1, t2, t3, t4⟩
  | .cond c x y, b, hp, m, φ, s, a, w, g, k, Q, h, hr, hg, hQ => by
    unfold itC at h
    have hv := ev_ok hr c
    have hx := codeI_sound hm hflat hJ hR hE hcall hspc ann x b (by simp only [plansOk, Bool.and_eq_true] at hp; exact hp.1) m φ s a w g k Q
    have hy := codeI_sound hm hflat hJ hR hE hcall hspc ann y b (by simp only [plansOk, Bool.and_eq_true] at hp; exact hp.2) m φ s a w g k Q
    split at h
    · rename_i e; rw [e] at hv
      exact wpIn_cond_true hv (hx h hr hg hQ)
    · rename_i e; rw [e] at hv
      exact wpIn_cond_false hv (hy h hr hg hQ)
    · rename_i q e; rw [e] at hv
      exact wpIn_cond_split hv (fun e => hx (h.1 e) hr hg hQ) (fun e => hy (h.2 e) hr hg hQ)
    · exact h.elim
  | .block id c, b, hp, m, φ, s, a, w, g, k, Q, h, hr, hg, hQ => by
    unfold itC at h
    refine wpIn_block (codeI_sound hm hflat hJ hR hE hcall hspc ann c id hp m φ s a w g _ _ h hr hg ?_)
    rintro z a1 w1 ⟨φ1, s1, g1, t1, t2, t3, t4⟩
    cases z with
    | normal => exact hQ .normal _ _ ⟨φ1, s1, g1, t1, t2, t3, t4⟩
    | exit id' =>
      simp only [Ex.to, Exit.inBlock]
      simp only at t4
      rw [ifb] at t4
      by_cases e : id' = id
      · rw [if_pos e] at t4 ⊢
        exact hQ .normal _ _ ⟨φ1, s1, g1, t1, t2, t3, t4⟩
      · rw [if_neg e] at t4 ⊢
        exact hQ (.exit id') _ _ ⟨φ1, s1, g1, t1, t2, t3, t4⟩
    | ret => exact hQ .ret _ _ ⟨φ1, s1, g1, t1, t2, t3, t4⟩
  | .loop c, b, hp, m, φ, s, a, w, g, k, Q, h, hr, hg, hQ => by
    unfold itC at h
    split at h
    · exact h.elim
    · exact itLoop_sound _ (codeI_sound hm hflat hJ hR hE hcall hspc ann c b hp) m φ s a w g k Q h hr hg hQ
  | .exit id, b, hp, m, φ, s, a, w, g, k, Q, h, hr, hg, hQ => wpIn_exit (hQ (.exit id) _ _ ⟨φ, s, g, hr, rfl, hg, h⟩)
  | .label _, b, hp, m, φ, s, a, w, g, k, Q, h, hr, hg, hQ => wpIn_label (hQ .normal _ _ ⟨φ, s, g, hr, rfl, hg, h⟩)
  | .ret, b, hp, m, φ, s, a, w, g, k, Q, h, hr, hg, hQ => wpIn_ret (hQ .ret _ _ ⟨φ, s, g, hr, rfl, hg, h⟩)
  | .rangeFunc _ _ _ _, b, hp, m, φ, s, a, w, g, k, Q, h, hr, hg, hQ => by unfold itC at h; exact h.elim
  | .scope _, b, hp, m, φ, s, a, w, g, k, Q, h, hr, hg, hQ => by unfold itC at h; exact h.elim
  | .goto _, b, hp, m, φ, s, a, w, g, k, Q, h, hr, hg, hQ => by unfold itC at h; exact h.elim
  | .refuse _, b, hp, m, φ, s, a, w, g, k, Q, h, hr, hg, hQ => by unfold itC at h; exact h.elim

theorem capVs_ok {φ : Phi} {ok : Nat → Prop} {w : World} : ∀ (ts : List Ty) (x : Ds ts) (vs : List Value), CapsOk ok w ts x vs → L2 (Vrel φ ok w) (iterVC.capVs ts x) vs
  | [], _, [], _ => trivial
  | t :: ts, x, v :: vs, h => by
    obtain ⟨⟨ad, us, h1, h2, h3⟩, h4⟩ := h
    exact ⟨⟨ad, us, h1, expl_ok t x.1 us h2, h3⟩, capVs_ok ts x.2 vs h4⟩
  | [], _, _ :: _, h => by cases h
  | _ :: _, _, [], h => h.elim

theorem CapsOk.len {ok : Nat → Prop} {w : World} : ∀ (ts : List Ty) (x : Ds ts) (vs : List Value), CapsOk ok w ts x vs → vs.length = ts.length
  | [], _, vs, h => by cases h; rfl
  | t :: ts, x, v :: vs, h => by simp [CapsOk.len ts x.2 vs h.2]
  | _ :: _, _, [], h => h.elim

/-- **An iterator's contract, from its condition.** -/
theorem iter_sound (hm : P.follows .mixedOrders = true) (hE : ∀ t i, E t = some i → TIok P t i) {fns : FuncId → FT} (ht : TableOk P fns) (n : Nat) {gf : FuncId} {d : FnD} (hd : FnOk P gf d) (hres : d.res = []) (it : It) (hflat : it.el.all Ty.flat = true)
    (ann : Ds it.ins → Nat → Option IAnn) (h : ∀ l x, it.pre x → (iterVC Lv.std E (callG Lv.std E fns n) (spcOf fns) d.code d.ntmps d.pl (ann x) it l x).holds) : ItOk P gf it := by
  refine ⟨hd.has, hflat, fun ok w caps x hG hC hpre l J Jx W C0 hbel hC0 hJ hJx hR h0 => ?_⟩
  obtain ⟨fn, h1, h2, h3, h4, h5, h6⟩ := hd
  have hlen := CapsOk.len it.ins x caps hC
  have hgW : glW W := glW_congr (fun b hb => hbel.block b (glB_lt hG.1 hb)) (Nat.le_trans hG.1.sz hbel.size) hG.1
  let φ : Phi := fun id => if id = 0 then some (.set (fun b => C0 b ∨ glB b) W) else none
  have p0 : φ 0 = some (.set (fun b => C0 b ∨ glB b) W) := rfl
  have hh : HRel φ [(0, .amb)] 1 W := by
    refine ⟨fun id o ho => ?_, fun id hid => ?_, fun i j o o' p q b h1 h2 hne => ?_⟩
    · simp only [lookA, ifb] at ho
      split at ho
      · rename_i e; subst e; cases ho
        exact ⟨_, W, rfl, ⟨hgW, fun b hb => .inr hb⟩, fun b hb => ⟨hb.elim (fun h => (hC0 b h).1) (glB_lt hgW), rfl⟩⟩
      · cases ho
    · show (if id = 0 then _ else none) = none
      rw [if_neg (by omega)]
    · simp only [lookA, ifb] at h1 h2
      split at h1
      · split at h2
        · rename_i e1 e2; exact absurd (e1.symm.trans e2) hne
        · cases h2
      · cases h1
  have hok : ∀ b, ok b → b < w.heap.size → W.heap[b]? = w.heap[b]? ∧ okb φ [(0, .amb)] b := fun b hb hl => by
    refine ⟨hbel.block b hl, (okAmb p0 b).2 (not_or.2 ⟨fun h => (hC0 b h).2 ⟨hl, hb⟩, fun h => hG.2 b h hb⟩)⟩
  have hv : L2 (Vrel φ (okb φ [(0, .amb)]) W) (.c (.yld l) :: iterVC.capVs it.ins x) (Value.func (.yield l) #[] #[] :: caps) := ⟨rfl, capVs_ok _ _ _ (CapsOk.mono hok _ _ _ hC)⟩
  have hst := start_rel (B := (0, false)) (Nat.zero_le _) hh hv d.ntmps
  have hlc : (C.yld l :: ([] : List C)).length = 1 := rfl
  have hlv : (V.c (.yld l) :: iterVC.capVs it.ins x).length = 1 + it.ins.length := by
    have := L2_len hv
    simp only [List.length_cons] at this ⊢
    omega
  rw [hlv] at hst
  refine (callsIn_wide (n := 0)).1 (callsIn_of_wp_marks h1 h3 trivial ?_)
  rw [h4]
  have hvc := h l x hpre
  unfold iterVC at hvc
  refine codeI_sound (B := (0, false)) (it := it) (exp := it.fn x) (J := J) (Jx := Jx) hm hflat hJ hR hE (call_sound hm hE ht n) (spcOf_ok ht) (ann x) d.code 0 h6 0 φ _ _ W (some 0) _ _ hvc hst ⟨C0, φ, W, by simpa [JG] using h0, p0, fun id hid => if_neg hid, fun b hb => (hC0 b hb).1, hgW, Evo.refl _ _ _⟩ ?_
  rintro z a' w' ⟨φ', s', g', t1, t2, t3, t4⟩
  simp only at t4
  split at t4
  · exact t4.elim
  rename_i hamb
  have hnil : a'.defers = [] := by
    obtain ⟨ll, d1, _, d3, _⟩ := t1.df
    rw [d1, d3 rfl]; rfl
  have hdone : ∀ g2 : Option Nat, GX (JG (it.fn x) J Jx g2) φ' s'.hp w' → (∀ i, g2 = some i → i = List.length (it.fn x)) → LeavesInM Fence.wide 0 P fn a'.tmps (fun e W' => (∃ v, e = .returned v) ∧ ((∃ C, J (it.fn x) C W') ∨ ∃ pre C, Jx pre C W')) a'.defers .returning w' := by
    rintro g2 ⟨C, φs, Ws, q⟩ hg2
    obtain ⟨hb, _⟩ := q.below t1.h (amb_of hamb)
    rw [hnil]
    refine ⟨.tuple #[], ?_, ⟨_, rfl⟩, ?_⟩
    · have e : fn.results = #[] := by apply Array.ext'; rw [h5]; exact hres
      unfold results
      rw [e]
      simp
    · cases g2 with
      | some i =>
        have hi := hg2 i rfl
        subst hi
        have := q.j
        simp only [JG, List.take_length] at this
        exact .inl ⟨C, hJ _ _ _ _ this hb⟩
      | none =>
        obtain ⟨pre, hp⟩ := q.j
        exact .inr ⟨pre, C, hJx _ _ _ _ hp hb⟩
  cases z with
  | exit id => exact t4.elim
  | normal => exact hdone g' t3 fun i hi => by subst hi; exact t4
  | ret => exact hdone g' t3 fun i hi => by subst hi; exact t4
end
end Go.VM
set_option autoImplicit false
set_option linter.all false
namespace Go.VM
open Go Go.Lib

/-- Those of a table that are named; no other. -/
def only (T : FuncId → FT) (l : List Nat) : FuncId → FT := fun g => match memN g l with
  | true => T g
  | false => .no
def FTok (P : Program) (g : FuncId) : FT → Prop
  | .no => True
  | .spec sp => SpecOk P g sp
  | .ext x => XOk P g x
  | .inl d => FnOk P g d
  | .it i => ItOk P g i
theorem table_of {P : Program} {fns : FuncId → FT} (h : ∀ g, FTok P g (fns g)) : TableOk P fns := fun g => by
  have := h g
  unfold FTok at this
  split at this <;> simp_all
theorem only_tab {P : Program} {T : FuncId → FT} {l : List Nat} (h : ∀ g ∈ l, FTok P g (T g)) : TableOk P (only T l) := table_of fun g => by
  unfold only
  cases hm : memN g l with
  | true => exact h g ((memN_iff g l).1 hm)
  | false => trivial
theorem tb_sp {P : Program} {T : FuncId → FT} {g : Nat} {sp : Spec} (k : SpecOk P g sp) (e : T g = .spec sp) : FTok P g (T g) := by rw [e]; exact k
theorem tb_x {P : Program} {T : FuncId → FT} {g : Nat} {x : XOp} (k : XOk P g x) (e : T g = .ext x) : FTok P g (T g) := by rw [e]; exact k
theorem tb_d {P : Program} {T : FuncId → FT} {g : Nat} {d : FnD} (k : FnOk P g d) (e : T g = .inl d) : FTok P g (T g) := by rw [e]; exact k
theorem tb_it {P : Program} {T : FuncId → FT} {g : Nat} {i : It} (k : ItOk P g i) (e : T g = .it i) : FTok P g (T g) := by rw [e]; exact k
theorem tb_nil {P : Program} {T : FuncId → FT} : ∀ g ∈ ([] : List Nat), FTok P g (T g) := fun _ h => by cases h
theorem tb_cons {P : Program} {T : FuncId → FT} {g : Nat} {l : List Nat} (h : FTok P g (T g)) (hl : ∀ x ∈ l, FTok P x (T x)) : ∀ x ∈ g :: l, FTok P x (T x) := fun x hx => by
  rcases List.mem_cons.1 hx with rfl | hx
  · exact h
  · exact hl x hx

def anR (L : Lv) (js : List Nat) (ad : List (Nat × Option Nat × TypeId × Ty)) (hv : List Hv) (I : Nat → Ds (tysOf hv) → Prop) : LAnn :=
  .rf { js := js, ren := fun s => hvIds s hv, ad := ad, X := Ds (tysOf hv), c := hvPut L hv, ext := hvGet L hv, I := fun _ i x => I i x }
def anY (L : Lv) (js : List Nat) (ad : List (Nat × Option Nat × TypeId × Ty)) (hv : List Hv) (I : Nat → Ds (tysOf hv) → Prop) (mu : Ds (tysOf hv) → Nat) : Option IAnn :=
  some { js := js, ren := fun s => hvIds s hv, ad := ad, X := Ds (tysOf hv), c := hvPut L hv, ext := hvGet L hv, I := fun _ i x => I i x, mu := fun _ x => mu x }
/-- A loop whose invariant speaks of an integer in a slot that the loop leaves alone. -/
def anHi (L : Lv) (js : List Nat) (ad : List (Nat × Option Nat × TypeId × Ty)) (hv : List Hv) (j : Nat) (I : Int → Ds (tysOf hv) → Prop) (mu : Int → Ds (tysOf hv) → Nat) : LAnn :=
  .an { js := js, ren := fun s => hvIds s hv, ad := ad, X := Ds (tysOf hv), c := hvPut L hv, ext := hvGet L hv, I := fun s x => I (slotI s j) x, mu := fun s x => mu (slotI s j) x }
/-- An iterator's contract, by what is shown of its condition. -/
theorem iter_by {P : Program} {E : Ev} (hm : P.follows .mixedOrders = true) (hE : ∀ t i, E t = some i → TIok P t i) {gf : FuncId} {d : FnD} (hd : FnOk P gf d) (hres : d.res = []) (it : It) (hflat : it.el.all Ty.flat = true) {fns : FuncId → FT} (ht : TableOk P fns) (n : Nat)
    (ann : Ds it.ins → Nat → Option IAnn) (h : ∀ l x, it.pre x → Holds (iterVC Lv.std E (callG Lv.std E fns n) (spcOf fns) d.code d.ntmps d.pl (ann x) it l x)) : ItOk P gf it :=
  iter_sound hm hE ht n hd hres it hflat ann fun l x hx => (h l x hx).h

theorem drop_cons {α : Type} {l r : List α} {j : Nat} {a : α} (h : l.drop j = a :: r) : l[j]? = some a ∧ l.drop (j + 1) = r ∧ j < l.length := by
  have hlt : j < l.length := by
    rcases Nat.lt_or_ge j l.length with h2 | h2
    · exact h2
    · rw [List.drop_eq_nil_of_le h2] at h; cases h
  rw [List.drop_eq_getElem_cons hlt] at h
  injection h with h1 h2
  exact ⟨by rw [List.getElem?_eq_getElem hlt, h1], h2, hlt⟩
theorem drop_nil {α : Type} {l : List α} {j : Nat} (h : l.drop j = []) (hj : j ≤ l.length) : j = l.length := by
  have := List.drop_eq_nil_iff.1 h
  omega
end Go.VM
