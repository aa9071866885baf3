/- A condition generator over the model's code, proved sound: what a function's body must come to is told as conditions on plain data. No condition of ours. -/
import Derived.Test.YthmlejcfgbpcbaaDoorV0
import Derived.Lib.Builder
import Derived.Lib.UnsafeStr
set_option autoImplicit false
set_option linter.all false
namespace Go.VM
open Go Go.Lib

/-! ### 1. Operands alone -/
theorem map_ev {α : Type} {ev ev' : Operand → V} (l : List (α × Operand)) (h : ∀ x ∈ l.map (·.2), ev x = ev' x) : (l.map fun p => (p.1, ev p.2)) = l.map fun p => (p.1, ev' p.2) := by
  induction l with
  | nil => rfl
  | cons p r ih =>
    simp only [List.map_cons, List.mem_cons, forall_eq_or_imp] at h ⊢
    rw [h.1, ih h.2]

theorem map_ev1 {ev ev' : Operand → V} (l : List Operand) (h : ∀ x ∈ l, ev x = ev' x) : l.map ev = l.map ev' := List.map_congr_left h

theorem opFR_ev (L : Lv) (E : Ev) (h : H) (f : Nat) {ev ev' : Operand → V} (op : Op) (hx : ∀ x ∈ op.operands.toList, ev x = ev' x) : opFR L E h f ev op = opFR L E h f ev' op := by
  cases op <;> simp only [Op.operands] at hx <;> simp only [opFR]
  case build t ps => rw [map_ev ps.toList (fun x hm => hx x (by simpa using hm))]
  case buildSlice t n ps => rw [map_ev ps.toList (fun x hm => hx x (by simpa using hm))]
  case makeFunc fn first caps => rw [map_ev1 first.toList (fun x hm => hx x (by simp at hm ⊢; exact .inl hm)), map_ev1 caps.toList (fun x hm => hx x (by simp at hm ⊢; exact .inr hm))]
  case makeMap t r => cases r <;> rfl
  case slice t x lo hi mx =>
    have h0 : ev x = ev' x := hx x (by simp)
    cases lo <;> cases hi <;> cases mx <;> simp only [opFR, Option.map] <;> first
      | rfl
      | (rw [h0]; done)
      | (rename_i a; rw [h0, hx a (by simp)]; done)
      | (rename_i a b; rw [h0, hx a (by simp), hx b (by simp)]; done)
  case call c =>
    obtain ⟨callee, as, ts⟩ := c
    cases callee with
    | builtin b =>
      simp only [opFR]
      rw [map_ev1 as.toList (fun x hm => hx x (by simp [Call.operands] at hm ⊢; exact hm))]
    | value _ => rfl
    | invoke _ _ => rfl
  all_goals first
    | rfl
    | (rw [hx _ (by simp)]; done)
    | (rename_i a b; rw [hx a (by simp), hx b (by simp)]; done)
    | (rename_i a b _; rw [hx a (by simp), hx b (by simp)]; done)
    | (rename_i a b c; rw [hx a (by simp), hx b (by simp), hx c (by simp)]; done)
    | (rename_i a b c _; rw [hx a (by simp), hx b (by simp), hx c (by simp)]; done)
    | skip

/-! ### 2. More objects -/
def HLe (h h' : H) : Prop := ∀ id o, h id = some o → h' id = some o

theorem vRow_mono {L : Lv} {e : Ty} {vw vw' : List C → Option (e.D × List C × List Nat)} (hv : ∀ cs r, vw cs = some r → vw' cs = some r) {id n : Nat} {o : Option Ob} {r : List e.D × List Nat} (h : vRow L e vw id n o = some r) : vRow L e vw' id n o = some r := by
  unfold vRow at *
  split at h
  · exact h
  · split at h
    · rename_i q
      simp only [q, dif_pos]
      split at h
      · rename_i hq
        rw [hv _ _ hq]; exact h
      · cases h
    · cases h
  · cases h

theorem view_mono (L : Lv) {h h' : H} (hl : HLe h h') : ∀ (t : Ty) (cs : List C) (r : t.D × List C × List Nat), view L h t cs = some r → view L h' t cs = some r
  | .int _, _, _, hr | .bool, _, _, hr | .str, _, _, hr => hr
  | .sl e, cs, r, hr => by
    simp only [view] at hr ⊢
    unfold vSl at hr ⊢
    split at hr
    · exact hr
    · exact hr
    · rename_i id n rest
      cases ho : h id with
      | none => rw [ho] at hr; simp [vRow] at hr
      | some o =>
        rw [ho] at hr
        simp only [hl id o ho]
        split at hr
        · rename_i l ids hq
          rw [vRow_mono (fun cs r => view_mono L hl e cs r) hq]
          exact hr
        · cases hr
    · cases hr
  | .pair a b, cs, r, hr => by
    simp only [view] at hr ⊢
    split at hr
    · rename_i x r1 i h1
      rw [view_mono L hl a cs _ h1]
      simp only
      split at hr
      · rename_i y r2 j h2
        rw [view_mono L hl b _ _ h2]
        exact hr
      · cases hr
    · cases hr
  | .wrap a, cs, r, hr => by
    simp only [view] at hr ⊢
    exact view_mono L hl a cs r hr

theorem litC_mono (L : Lv) {h h' : H} (hl : HLe h h') (e : Ty) : ∀ (ps : List (Nat × V)) (k : Nat) (r : List e.D × List Nat), litC L h e k ps = some r → litC L h' e k ps = some r
  | [], _, _, hr => hr
  | (i, v) :: ps, k, r, hr => by
    unfold litC at hr ⊢
    split at hr
    · rename_i hc
      rw [if_pos hc]
      split at hr
      · rename_i x ids hv
        rw [view_mono L hl _ _ _ hv]
        simp only
        split at hr
        · rename_i l ids' h2
          rw [litC_mono L hl e ps (k + 1) _ h2]
          exact hr
        · cases hr
      · cases hr
    · cases hr

theorem fsrc_mono (L : Lv) {h h' : H} (hl : HLe h h') (e : Ty) (v : V) (r : List e.D) (hr : fsrc L h e v = some r) : fsrc L h' e v = some r := by
  unfold fsrc at hr ⊢
  split at hr
  · exact hr
  · exact hr
  · rename_i id n
    cases ho : h id with
    | none => rw [ho] at hr; cases hr
    | some o => rw [ho] at hr; simp only [hl id o ho]; exact hr
  · exact hr
  · cases hr

theorem fbase_mono (L : Lv) {h h' : H} (hl : HLe h h') (et : TypeId) (e : Ty) (v : V) (r : List e.D × List Nat) (hr : fbase L h et e v = some r) : fbase L h' et e v = some r := by
  unfold fbase at hr ⊢
  split at hr
  · exact hr
  · rename_i id n
    cases ho : h id with
    | none => rw [ho] at hr; cases hr
    | some o => rw [ho] at hr; simp only [hl id o ho]; exact hr
  · cases hr

theorem fappend_mono (L : Lv) (E : Ev) {h h' : H} (hl : HLe h h') (f : Nat) (t tx : TypeId) (x y : V) : fappend L E h f t tx x y = .bad ∨ fappend L E h' f t tx x y = fappend L E h f t tx x y := by
  unfold fappend
  cases elemOf E t with
  | none => exact .inl rfl
  | some et =>
    simp only
    cases E et with
    | none => exact .inl rfl
    | some i =>
      simp only
      split
      · cases hb : fbase L h et i.ty x with
        | none => exact .inl rfl
        | some b =>
          cases hs : fsrc L h i.ty y with
          | none => exact .inl rfl
          | some s =>
            right
            rw [fbase_mono L hl _ _ _ _ hb, fsrc_mono L hl _ _ _ hs]
      · exact .inl rfl

theorem fbuildSlice_mono (L : Lv) (E : Ev) {h h' : H} (hl : HLe h h') (f : Nat) (t : TypeId) (n : Nat) (ps : List (Nat × V)) : fbuildSlice L E h f t n ps = .bad ∨ fbuildSlice L E h' f t n ps = fbuildSlice L E h f t n ps := by
  unfold fbuildSlice
  cases elemOf E t with
  | none => exact .inl rfl
  | some et =>
    simp only
    cases E et with
    | none => exact .inl rfl
    | some i =>
      simp only
      split
      · cases hb : litC L h i.ty 0 ps with
        | none => exact .inl rfl
        | some b => right; rw [litC_mono L hl _ _ _ _ hb]
      · exact .inl rfl

theorem fload_mono (L : Lv) (E : Ev) {h h' : H} (hl : HLe h h') (t : TypeId) (a : V) : fload L E h t a = .bad ∨ fload L E h' t a = fload L E h t a := by
  unfold fload
  cases E t with
  | none => exact .inl rfl
  | some i =>
    simp only
    split
    · rename_i id off
      cases ho : h id with
      | none => exact .inl rfl
      | some o => right; rw [hl id o ho]
    · rename_i id j off
      cases ho : h id with
      | none => exact .inl rfl
      | some o => right; rw [hl id o ho]
    · exact .inr rfl
    · exact .inl rfl

theorem findexAddr_mono (L : Lv) (E : Ev) {h h' : H} (hl : HLe h h') (t : TypeId) (x i : V) : findexAddr L E h t x i = .bad ∨ findexAddr L E h' t x i = findexAddr L E h t x i := by
  unfold findexAddr
  cases elemOf E t with
  | none => exact .inl rfl
  | some et =>
    simp only
    split
    · rename_i id len k n
      cases ho : h id with
      | none => exact .inl rfl
      | some o => right; rw [hl id o ho]
    · exact .inr rfl
    · exact .inl rfl

theorem fslice_mono (L : Lv) (E : Ev) {h h' : H} (hl : HLe h h') (t : TypeId) (x : V) (lo hi : Option V) : fslice L E h t x lo hi = .bad ∨ fslice L E h' t x lo hi = fslice L E h t x lo hi := by
  unfold fslice
  cases E t with
  | none => exact .inl rfl
  | some q =>
    simp only
    split
    · exact .inr rfl
    · exact .inr rfl
    · rename_i et id len hk
      cases ho : h id with
      | none => exact .inl rfl
      | some o => right; rw [hl id o ho]
    · exact .inl rfl

theorem fconvert_mono (L : Lv) (E : Ev) {h h' : H} (hl : HLe h h') (s d : TypeId) (x : V) : fconvert L E h s d x = .bad ∨ fconvert L E h' s d x = fconvert L E h s d x := by
  unfold fconvert
  split
  · exact .inr rfl
  · exact .inr rfl
  · exact .inr rfl
  · split
    · split
      · rename_i id len _ _ _ _ _ 
        split
        · rename_i l ho
          right; rw [hl _ _ ho]
        · exact .inl rfl
      · exact .inl rfl
    · exact .inl rfl
  · exact .inl rfl

theorem fstore_mono (L : Lv) (E : Ev) {h h' : H} (hl : HLe h h') (t : TypeId) (a x : V) : fstore L E h t a x = .bad ∨ fstore L E h' t a x = fstore L E h t a x := by
  unfold fstore
  cases E t with
  | none => exact .inl rfl
  | some i =>
    simp only
    split
    · split
      · rename_i id off
        cases ho : h id with
        | none => exact .inl rfl
        | some o => right; rw [hl id o ho]
      · rename_i id j off
        cases ho : h id with
        | none => exact .inl rfl
        | some o =>
          rw [hl id o ho]
          cases o with
          | row tt e l =>
            simp only
            split
            · split
              · exact .inr rfl
              · cases hv : view L h e (putL (expl e (L.get e l j)) off x.cells) with
                | none => exact .inl rfl
                | some r => right; rw [view_mono L hl _ _ _ hv]
            · exact .inl rfl
          | _ => exact .inr rfl
      · exact .inl rfl
    · exact .inl rfl

theorem flookup_mono (L : Lv) (E : Ev) {h h' : H} (hl : HLe h h') (t : TypeId) (x i : V) (ok : Bool) : flookup L E h t x i ok = .bad ∨ flookup L E h' t x i ok = flookup L E h t x i ok := by
  unfold flookup
  split
  · split
    · rename_i ie id ix _
      cases ho : h id with
      | none => exact .inl rfl
      | some o =>
        rw [hl id o ho]
        cases o with
        | map k v l =>
          simp only
          split
          · cases hv : view L h k [ix] with
            | none => exact .inl rfl
            | some r => right; rw [view_mono L hl _ _ _ hv]
          · exact .inl rfl
        | _ => exact .inr rfl
    · exact .inl rfl
  · exact .inl rfl

theorem fmapUpdate_mono (L : Lv) (E : Ev) {h h' : H} (hl : HLe h h') (t : TypeId) (m i x : V) : fmapUpdate L E h t m i x = .bad ∨ fmapUpdate L E h' t m i x = fmapUpdate L E h t m i x := by
  unfold fmapUpdate
  split
  · split
    · rename_i id ix xx
      cases ho : h id with
      | none => exact .inl rfl
      | some o =>
        rw [hl id o ho]
        cases o with
        | map k v l =>
          simp only
          split
          · cases hv : view L h k [ix] with
            | none => exact .inl rfl
            | some r =>
              cases hv2 : view L h v [xx] with
              | none =>
                left
                obtain ⟨a, b, c⟩ := r
                cases b <;> cases c <;> rfl
              | some r2 => right; rw [view_mono L hl _ _ _ hv, view_mono L hl _ _ _ hv2]
          · exact .inl rfl
        | _ => exact .inr rfl
    · exact .inl rfl
  · exact .inl rfl

theorem fclip_mono (E : Ev) {h h' : H} (hl : HLe h h') (f : Nat) (t : TypeId) (x hi mx : V) : fclip E h f t x hi mx = .bad ∨ fclip E h' f t x hi mx = fclip E h f t x hi mx := by
  unfold fclip
  split
  · split
    · split
      · exact .inr rfl
      · rename_i id len
        cases ho : h id with
        | none => exact .inl rfl
        | some o => right; rw [hl id o ho]
      · exact .inr rfl
      · exact .inl rfl
    · exact .inl rfl
  · exact .inl rfl

theorem opFR_mono (L : Lv) (E : Ev) {h h' : H} (hl : HLe h h') (f : Nat) (ev : Operand → V) (op : Op) : opFR L E h f ev op = .bad ∨ opFR L E h' f ev op = opFR L E h f ev op := by
  cases op <;> simp only [opFR]
  case load t a => exact fload_mono L E hl _ _
  case store t a x => exact fstore_mono L E hl _ _ _
  case buildSlice t n ps => exact fbuildSlice_mono L E hl _ _ _ _
  case convert s d x => exact fconvert_mono L E hl _ _ _
  case slice t x lo hi mx =>
    cases mx with
    | none => exact fslice_mono L E hl _ _ _ _
    | some m =>
      cases lo with
      | none =>
        cases hi with
        | none => exact .inl rfl
        | some b => exact fclip_mono E hl _ _ _ _ _
      | some _ => cases hi <;> exact .inl rfl
  case indexAddr t x i => exact findexAddr_mono L E hl _ _ _
  case lookup t x i ok => exact flookup_mono L E hl _ _ _ _
  case mapUpdate t m k x => exact fmapUpdate_mono L E hl _ _ _ _
  case insert t m k x => exact fmapUpdate_mono L E hl _ _ _ _
  case call c =>
    obtain ⟨callee, as, ts⟩ := c
    cases callee with
    | builtin b =>
      simp only [fbuiltin]
      split
      · exact .inr rfl
      · exact fappend_mono L E hl _ _ _ _ _
      · exact .inr rfl
      · exact .inr rfl
      · exact .inl rfl
    | value _ => first | exact .inr trivial | exact .inr rfl
    | invoke _ _ => first | exact .inr trivial | exact .inr rfl
  case makeMap t r => cases r <;> first | exact .inr trivial | exact .inr rfl
  all_goals first
    | exact .inr trivial
    | exact .inr rfl

theorem viewV_mono (L : Lv) {h h' : H} (hl : HLe h h') (t : Ty) (v : V) (r : t.D × List Nat) (hr : viewV L h t v = some r) : viewV L h' t v = some r := by
  unfold viewV at hr ⊢
  split at hr
  · rename_i hc
    rw [if_pos hc]
    split at hr
    · rename_i x ids hv
      rw [view_mono L hl _ _ _ hv]
      exact hr
    · cases hr
  · cases hr

theorem viewAll_mono (L : Lv) {h h' : H} (hl : HLe h h') : ∀ (ts : List Ty) (vs : List V) (r : Ds ts × List Nat), viewAll L h ts vs = some r → viewAll L h' ts vs = some r
  | [], [], _, hr => hr
  | t :: ts, v :: vs, r, hr => by
    unfold viewAll at hr ⊢
    split at hr
    · rename_i x i y j h1 h2
      rw [viewV_mono L hl _ _ _ h1, viewAll_mono L hl ts vs _ h2]
      exact hr
    · cases hr
  | [], _ :: _, _, hr => by cases hr
  | _ :: _, [], _, hr => by cases hr
end Go.VM
set_option autoImplicit false
set_option linter.all false
namespace Go.VM
open Go Go.Lib

/-! ### 1. Leaves -/
structure Leaf where
  x : V
  nw : Option Ob
  kill : List Nat
  up : Option (Nat × Ob)

def FRl : FR → Leaf → Prop
  | .v x, l => ∃ x', RB x x' ∧ l = ⟨x', none, [], none⟩
  | .b c, l => l = ⟨.c (.bool c), none, [], none⟩
  | .br c t f, l => (c = true → FRl t l) ∧ (c = false → FRl f l)
  | .o p r, l => p ∧ FRl r l
  | .new x [] kill, l => l = ⟨x, none, kill, none⟩
  | .new x [o] kill, l => l = ⟨x, some o, kill, none⟩
  | .upd id o kill, l => l = ⟨.c .un, none, kill, some (id, o)⟩
  | _, _ => False

def isAlloc : Op → Bool
  | .alloc _ => true
  | _ => false

def Leaf.hp (l : Leaf) (f : Nat) (hp : Hp) : Hp := match l.up with
  | some (id, o) => setA (delAll hp l.kill) id o
  | none => match l.nw with
    | some o => (f, o) :: delAll hp l.kill
    | none => delAll hp l.kill

def Leaf.tch (l : Leaf) (f id : Nat) : Option (Option Ob) := match l.up with
  | some (i, o) => if id = i then some (some o) else if id ∈ l.kill then some none else none
  | none => match l.nw with
    | some o => if id = f then some (some o) else if id ∈ l.kill then some none else none
    | none => if id ∈ l.kill then some none else none

def Leaf.ids (l : Leaf) (f : Nat) : List Nat := match l.up with
  | some (i, _) => i :: l.kill
  | none => match l.nw with
    | some _ => f :: l.kill
    | none => l.kill

def Leaf.nx (l : Leaf) (f : Nat) : Nat := match l.nw with
  | some _ => f + 1
  | none => f

def Leaf.st (l : Leaf) (s : St) (dst : Option Nat) : St := { s with hp := l.hp s.nx s.hp, nx := l.nx s.nx }.put dst l.x

theorem Leaf.look_hp (l : Leaf) (f : Nat) (hp : Hp) (id : Nat) : lookA (l.hp f hp) id = match l.tch f id with | some r => r | none => lookA hp id := by
  unfold Leaf.hp Leaf.tch
  cases l.up with
  | some p =>
    obtain ⟨i, o⟩ := p
    simp only [lookA_setA, lookA_delAll]
    by_cases h1 : id = i
    · simp [h1]
    · by_cases h2 : id ∈ l.kill <;> simp [h1, h2]
  | none =>
    cases l.nw with
    | some o =>
      simp only [lookA, ifb, lookA_delAll]
      by_cases h1 : id = f
      · simp [h1]
      · have h1' : ¬ f = id := fun e => h1 e.symm
        by_cases h2 : id ∈ l.kill <;> simp [h1, h1', h2]
    | none =>
      simp only [lookA_delAll]
      by_cases h2 : id ∈ l.kill <;> simp [h2]

theorem Leaf.tch_none (l : Leaf) (f id : Nat) (h : id ∉ l.ids f) : l.tch f id = none := by
  unfold Leaf.ids at h
  unfold Leaf.tch
  cases hu : l.up with
  | some p =>
    obtain ⟨i, o⟩ := p
    rw [hu] at h
    simp only [List.mem_cons, not_or] at h
    simp [h.1, h.2]
  | none =>
    rw [hu] at h
    cases hn : l.nw with
    | some o =>
      rw [hn] at h
      simp only [List.mem_cons, not_or] at h
      simp [h.1, h.2]
    | none => rw [hn] at h; simp only at h; simp [h]

/-! ### 2. Leaves from conditions -/
def runD (s : St) (dst : Option Nat) (k : St → List Nat → Bool → VC) : FR → VC
  | .v x => splitB x fun x => k (s.put dst x) [] false
  | .b c => .br c (k (s.put dst (.c (.bool true))) [] false) (k (s.put dst (.c (.bool false))) [] false)
  | .br c t f => .br c (runD s dst k t) (runD s dst k f)
  | .o p r => .obl p (runD s dst k r)
  | .new x [] kill => k ({ s with hp := delAll s.hp kill }.put dst x) kill false
  | .new x [o] kill => k ({ s with hp := (s.nx, o) :: delAll s.hp kill, nx := s.nx + 1 }.put dst x) (s.nx :: kill) true
  | .upd id o kill => k ({ s with hp := setA (delAll s.hp kill) id o }.put dst (.c .un)) (id :: kill) false
  | _ => .bad

theorem runD_leaf {s : St} {dst : Option Nat} {k : St → List Nat → Bool → VC} : ∀ r : FR, (runD s dst k r).holds → ∃ l, FRl r l ∧ (k (l.st s dst) (l.ids s.nx) l.nw.isSome).holds
  | .v x, h => by
    obtain ⟨x', h1, h2⟩ := splitB_ok h
    exact ⟨⟨x', none, [], none⟩, ⟨x', h1, rfl⟩, h2⟩
  | .b c, h => by
    refine ⟨⟨.c (.bool c), none, [], none⟩, rfl, ?_⟩
    cases c
    · exact h.2 rfl
    · exact h.1 rfl
  | .br c t f, h => by
    cases c
    · obtain ⟨l, h1, h2⟩ := runD_leaf f (h.2 rfl)
      exact ⟨l, ⟨fun e => (by cases e), fun _ => h1⟩, h2⟩
    · obtain ⟨l, h1, h2⟩ := runD_leaf t (h.1 rfl)
      exact ⟨l, ⟨fun _ => h1, fun e => by cases e⟩, h2⟩
  | .o p r, h => by
    obtain ⟨l, h1, h2⟩ := runD_leaf r h.2
    exact ⟨l, ⟨h.1, h1⟩, h2⟩
  | .new x [] kill, h => ⟨⟨x, none, kill, none⟩, rfl, h⟩
  | .new x [o] kill, h => ⟨⟨x, some o, kill, none⟩, rfl, h⟩
  | .new x (_ :: _ :: _) kill, h => h.elim
  | .upd id o kill, h => ⟨⟨.c .un, none, kill, some (id, o)⟩, rfl, h⟩
  | .amb, h => h.elim
  | .bad, h => h.elim

/-! ### 3. What a leaf gives -/
section
variable {P : Program} {E : Ev} {φ : Phi} {w : World} {hp : Hp} {f : Nat}

def LeafOk (φ : Phi) (hp : Hp) (w : World) (f nx : Nat) (l : Leaf) (v : Value) (w' : World) : Prop :=
  ∃ φ' hp', (∀ id, lookA hp' id = lookA (l.hp f hp) id) ∧ HRel φ' hp' nx w' ∧ Evo φ hp w φ' hp' w' ∧ Vrel φ' (okb φ' hp') w' l.x v ∧ ∀ id, (φ' id ≠ none → φ id ≠ none ∨ (l.nw.isSome = true ∧ id = f))

theorem ph_of {φ' : Phi} {m : Nat} (h1 : ∀ id, id < f → φ' id = φ id) (h2 : ∀ id, f + m ≤ id → φ' id = none) (hm : m ≤ 1) : ∀ id, φ' id ≠ none → φ id ≠ none ∨ (m = 1 ∧ id = f) := fun id h => by
  by_cases hl : id < f
  · left; rw [← h1 id hl]; exact h
  · by_cases hg : f + m ≤ id
    · exact absurd (h2 id hg) h
    · right; omega

theorem fr_leaf : ∀ (r : FR) {run : Result Value} {l : Leaf}, FRl r l → FRok φ hp w f r run → ∃ v w', run = .ok v w' ∧ LeafOk φ hp w f (l.nx f) l v w'
  | .v x, run, l, h, hf => by
    obtain ⟨x', hx, rfl⟩ := h
    have hf := hf.rb hx
    obtain ⟨v, w', φ', hp', h1, rfl, h3, h4, h5, h6⟩ := hf
    exact ⟨v, w', h1, φ', _, fun id => rfl, h3, h4, h5, fun id hid => (ph_of (m := 0) h6 h3.fr (by omega) id hid).imp_right fun h => by omega⟩
  | .b c, run, l, h, hf => by
    cases h
    obtain ⟨v, w', φ', hp', h1, rfl, h3, h4, h5, h6⟩ := hf
    exact ⟨v, w', h1, φ', _, fun id => rfl, h3, h4, h5, fun id hid => (ph_of (m := 0) h6 h3.fr (by omega) id hid).imp_right fun h => by omega⟩
  | .br c t e, run, l, h, hf => by
    cases c
    · exact fr_leaf e (h.2 rfl) (hf.2 rfl)
    · exact fr_leaf t (h.1 rfl) (hf.1 rfl)
  | .o p r, run, l, h, hf => fr_leaf r h.2 (hf h.1)
  | .new x [] kill, run, l, h, hf => by
    cases h
    obtain ⟨v, w', φ', hp', h1, rfl, h3, h4, h5, h6⟩ := hf
    exact ⟨v, w', h1, φ', _, fun id => rfl, h3, h4, h5, fun id hid => (ph_of (m := 0) h6 h3.fr (by omega) id hid).imp_right fun h => by omega⟩
  | .new x [o] kill, run, l, h, hf => by
    cases h
    obtain ⟨v, w', φ', hp', h1, rfl, h3, h4, h5, h6⟩ := hf
    exact ⟨v, w', h1, φ', _, fun id => rfl, h3, h4, h5, fun id hid => (ph_of (m := 1) h6 h3.fr (by omega) id hid).imp_right fun h => ⟨rfl, h.2⟩⟩
  | .new x (_ :: _ :: _) kill, run, l, h, hf => h.elim
  | .upd id o kill, run, l, h, hf => by
    cases h
    obtain ⟨v, w', h1, h2, h3⟩ := hf
    exact ⟨v, w', h1, φ, _, fun id => rfl, h2, h3, trivial, fun id hid => .inl hid⟩
  | .amb, run, l, h, hf => h.elim
  | .bad, run, l, h, hf => h.elim

/-! ### 4. A new variable at any number that is free -/
theorem evo_new' {nx : Nat} {w' : World} (h : HRel φ hp nx w) (hf : φ f = none) (o : Ob) (p : Place) (hb : Go.RowKit.Below w.heap.size w w')
    (hpl : ∀ b, p.S b → w.heap.size ≤ b) : Evo φ hp w (phiSet φ f p) ((f, o) :: hp) w' := by
  refine Evo.below hb (fun id q hq => ?_) (fun id o' q b h1 h2 h3 => ?_)
  · unfold phiSet
    split
    · rename_i e; subst e; rw [hf] at hq; cases hq
    · exact hq
  · unfold phiSet at h2
    simp only [lookA, ifb] at h1
    split at h2
    · cases h2; exact .inl (hpl b h3)
    · rename_i hne
      rw [if_neg (fun e => hne e.symm)] at h1
      exact .inr fun hk => hk id o' q h1 h2 h3

theorem HRel.new' {nx : Nat} {w' : World} (h : HRel φ hp nx w) (hf : φ f = none) (hlt : f < nx) (o : Ob) (p : Place) (hb : Go.RowKit.Below w.heap.size w w')
    (hpl : ∀ b, p.S b → w.heap.size ≤ b) (ho : Orel (phiSet φ f p) (okb (phiSet φ f p) ((f, o) :: hp)) w' f o) : HRel (phiSet φ f p) ((f, o) :: hp) nx w' where
  ob := fun id o' h1 => by
    simp only [lookA, ifb] at h1
    split at h1
    · rename_i e; subst e; cases h1; exact ho
    · refine (h.ob id o' h1).evo (evo_new' h hf o p hb hpl) (fun q b hq hS => ?_)
      obtain ⟨q', hq', hl⟩ := (h.ob id o' h1).has
      rw [hq] at hq'; cases hq'
      exact hb.block b (hl b hS)
  fr := fun id hl => by
    unfold phiSet
    rw [if_neg (by omega)]
    exact h.fr id (by omega)
  dj := fun i j o1 o2 p1 p2 b h1 h2 hne h3 h4 h5 h6 => by
    simp only [lookA, ifb] at h1 h2
    unfold phiSet at h3 h4
    by_cases hi : i = f
    · subst hi
      rw [if_pos rfl] at h3; cases h3
      have hj : ¬ i = j := hne
      rw [if_neg hj] at h2
      rw [if_neg (fun e => hj e.symm)] at h4
      obtain ⟨q', hq', hl⟩ := (h.ob j o2 h2).has
      rw [h4] at hq'; cases hq'
      have := hl b h6; have := hpl b h5; omega
    · rw [if_neg (fun e => hi e.symm)] at h1
      rw [if_neg hi] at h3
      by_cases hj : j = f
      · subst hj
        rw [if_pos rfl] at h4; cases h4
        obtain ⟨q', hq', hl⟩ := (h.ob i o1 h1).has
        rw [h3] at hq'; cases hq'
        have := hl b h5; have := hpl b h6; omega
      · rw [if_neg (fun e => hj e.symm)] at h2
        rw [if_neg hj] at h4
        exact h.dj i j o1 o2 p1 p2 b h1 h2 hne h3 h4 h5 h6

theorem alloc_any (hE : ∀ t i, E t = some i → TIok P t i) {nx : Nat} (hh : HRel φ hp nx w) (hf : φ f = none) (hlt : f < nx) (t : TypeId) (ov : Value) {l : Leaf} (h : FRl (falloc E f t) l) :
    ∃ v w', (Instr.alloc t true ov).run P w = .ok v w' ∧ LeafOk φ hp w f nx l v w' := by
  unfold falloc at h
  cases hi : E t with
  | none => rw [hi] at h; exact h.elim
  | some i =>
    rw [hi] at h
    cases h
    obtain ⟨z, hz, hzc⟩ := run_zero (hE t i hi) w
    refine ⟨.pointer (some ⟨w.heap.size, 0, none⟩), w.alloc (.cells z.cells t (0, 0)), by simp [Instr.alloc, hz, run_newVar], phiSet φ f (.at w.heap.size 1 0 0), (f, .box t (i.zero.map (Z.cAt f))) :: hp, fun id => rfl, ?_, ?_, ?_, fun id hid => ?_⟩
    · refine hh.new' hf hlt _ _ (below_new _ _) (fun b hb => by cases hb; exact Nat.le_refl _) ?_
      refine ⟨w.heap.size, i.zero.map Z.val, phiSet_self _ _ _, ?_, L2_map (fun z => Z_relAt _ z) _⟩
      rw [heap_new, ← hzc]
    · exact evo_new' hh hf _ _ (below_new _ _) (fun b hb => by cases hb; exact Nat.le_refl _)
    · exact ⟨_, _, _, _, phiSet_self _ _ _, rfl⟩
    · by_cases e : id = f
      · exact .inr ⟨rfl, e⟩
      · left
        unfold phiSet at hid
        rw [if_neg e] at hid; exact hid

/-! ### 5. Where numbers do not matter -/
theorem clip_new (E : Ev) (h : H) (f : Nat) (t : TypeId) (x hi mx : V) {l : Leaf} (hl : FRl (fclip E h f t x hi mx) l) : l.nw ≠ none := by
  unfold fclip at hl
  repeat' split at hl
  all_goals first
    | exact hl.elim
    | (cases hl; simp)

theorem append_new (L : Lv) (E : Ev) (h : H) (f : Nat) (t tx : TypeId) (x y : V) {l : Leaf} (hl : FRl (fappend L E h f t tx x y) l) : l.nw ≠ none := by
  unfold fappend at hl
  repeat' split at hl
  all_goals first
    | exact hl.elim
    | (obtain ⟨_, hl⟩ := hl; cases hl; simp)

theorem opFR_num (L : Lv) (E : Ev) (h : H) (f f' : Nat) (ev : Operand → V) (op : Op) {l : Leaf} (hl : FRl (opFR L E h f ev op) l) (hn : l.nw = none) : FRl (opFR L E h f' ev op) l := by
  cases op <;> simp only [opFR] at hl ⊢ <;> try exact hl
  case alloc t =>
    exfalso
    unfold falloc at hl
    split at hl
    · cases hl; cases hn
    · exact hl
  case box t x =>
    exfalso
    unfold fbox at hl
    split at hl
    · cases hl; cases hn
    · exact hl
  case buildSlice t n ps =>
    exfalso
    unfold fbuildSlice at hl
    repeat' split at hl
    all_goals first
      | exact hl
      | (cases hl; cases hn)
  case makeMap t r =>
    cases r with
    | some _ => exact hl
    | none =>
      exfalso
      simp only [opFR] at hl
      unfold fmakeMap at hl
      repeat' split at hl
      all_goals first
        | exact hl
        | (cases hl; cases hn)
  case makeSlice t x y =>
    exfalso
    unfold fmakeSlice at hl
    repeat' split at hl
    all_goals first
      | exact hl
      | (obtain ⟨_, hl⟩ := hl; cases hl; cases hn)
  case slice t x lo hi mx =>
    cases mx with
    | none => exact hl
    | some m =>
      cases lo with
      | none =>
        cases hi with
        | none => exact hl
        | some b => exact absurd hn (clip_new E h f t _ _ _ hl)
      | some _ => cases hi <;> exact hl
  case call c =>
    obtain ⟨callee, as, ts⟩ := c
    cases callee with
    | builtin b =>
      simp only [opFR, fbuiltin] at hl ⊢
      split at hl
      · exact hl
      · exact absurd hn (append_new L E h f _ _ _ _ hl)
      · exact hl
      · exact hl
      · exact hl.elim
    | value _ => exact hl
    | invoke _ _ => exact hl
end
end Go.VM
set_option autoImplicit false
set_option linter.all false
namespace Go.VM
open Go Go.Lib

/-- A function told as an operation. -/
structure XOp where
  fr : Lv → H → Nat → List V → FR

structure XOk (P : Program) (g : FuncId) (x : XOp) : Prop where
  has : Has P g
  mono : ∀ (L : Lv) (h h' : H) (f : Nat) (as : List V), HLe h h' → x.fr L h f as = .bad ∨ x.fr L h' f as = x.fr L h f as
  num : ∀ (L : Lv) (h : H) (f f' : Nat) (as : List V) (l : Leaf), FRl (x.fr L h f as) l → l.nw = none → FRl (x.fr L h f' as) l
  run : ∀ (φ : Phi) (hp : Hp) (f : Nat) (w : World) (as : List V) (vs : List Value) (l : Leaf), HRel φ hp f w → L2 (Vrel φ (okb φ hp) w) as vs → FRl (x.fr Lv.std (lookA hp) f as) l →
    Calls P g vs.toArray w fun e w' => ∃ v, e = .returned v ∧ LeafOk φ hp w f (l.nx f) l v w'

theorem HRel.le {φ : Phi} {hp : Hp} {nx nx' : Nat} {w : World} (h : HRel φ hp nx w) (hl : nx ≤ nx') : HRel φ hp nx' w := ⟨h.ob, fun id hid => h.fr id (Nat.le_trans hl hid), h.dj⟩

theorem okb_congr {φ : Phi} {hp hp' : Hp} (h : ∀ id, lookA hp' id = lookA hp id) {b : Nat} : okb φ hp' b ↔ okb φ hp b :=
  ⟨fun hb id o p h1 => hb id o p (by rw [h]; exact h1), fun hb id o p h1 => hb id o p (by rw [← h]; exact h1)⟩

theorem HRel.congr {φ : Phi} {hp hp' : Hp} {nx : Nat} {w : World} (h : ∀ id, lookA hp' id = lookA hp id) (hr : HRel φ hp nx w) : HRel φ hp' nx w ∧ Evo φ hp w φ hp' w := by
  have ev : Evo φ hp w φ hp' w := ⟨rfl, rfl, rfl, Nat.le_refl _, fun _ _ h => h, fun id o p b h1 h2 h3 => .inr fun hb => hb id o p (by rw [← h]; exact h1) h2 h3, fun _ _ _ => rfl⟩
  exact ⟨⟨fun id o ho => (hr.ob id o (by rw [← h]; exact ho)).evo ev fun _ _ _ _ => rfl, hr.fr, fun i j o o' p q b h1 h2 => hr.dj i j o o' p q b (by rw [← h]; exact h1) (by rw [← h]; exact h2)⟩, ev⟩

theorem hasAmb_mono {h h' : H} (hl : HLe h h') {ids : List Nat} (ha : hasAmb h ids = true) : hasAmb h' ids = true := by
  unfold hasAmb at ha ⊢
  split at ha
  · rename_i ho
    rw [hl 0 _ ho]; exact ha
  · cases ha

/-! ### contracts on data are such operations -/
def Spec.x (sp : Spec) : XOp where
  fr := fun L h f as => match viewAll L h sp.ins as with
    | some (x, ids) => match hasAmb h ids with
      | true => .o (sp.pre x) (match sp.outs.all Ty.flat with
        | true => .v (outR sp.outs (sp.fn x))
        | false => .new (outR sp.outs (sp.fn x)) [] ids)
      | false => .bad
    | none => .bad

theorem spec_x {P : Program} {g : FuncId} {sp : Spec} (hs : SpecOk P g sp) : XOk P g sp.x where
  has := hs.1
  mono := fun L h h' f as hl => by
    unfold Spec.x
    simp only
    cases hv : viewAll L h sp.ins as with
    | none => exact .inl rfl
    | some r =>
      rw [viewAll_mono L hl _ _ _ hv]
      simp only
      cases ha : hasAmb h r.2 with
      | false => exact .inl rfl
      | true => right; rw [hasAmb_mono hl ha]
  num := fun L h f f' as l hl _ => hl
  run := fun φ hp f w as vs l hh hv hl => by
    unfold Spec.x at hl
    simp only at hl
    split at hl
    · rename_i x ids hvw
      split at hl
      rotate_left
      · exact hl.elim
      rename_i hA
      obtain ⟨hpre, hl⟩ := hl
      have hK := viewAll_ok hh sp.ins as vs x ids hvw hv
      refine (hs.2 _ w vs x (hasAmb_ok hh hA) hK hpre).mono fun en w' he => ?_
      obtain ⟨v, rfl, hb, hR⟩ := he
      refine ⟨v, rfl, ?_⟩
      split at hl
      · rename_i hf
        obtain ⟨x', hx, rfl⟩ := hl
        obtain ⟨q1, q2⟩ := below_h hh hb
        exact ⟨φ, hp, fun id => rfl, q1, q2, hx.rel (outR_ok _ _ _ (flat_KR _ _ _ hf hR)), fun id hid => .inl hid⟩
      · rename_i hf
        cases hl
        obtain ⟨q1, q2⟩ := below_h (hh.delAll ids) hb
        refine ⟨φ, _, fun id => rfl, q1, (evo_delAll φ w ids hp).trans q2, outR_ok _ _ _ (KR_mono (fun b hb' hl => ⟨rfl, ?_⟩) _ _ _ hR), fun id hid => .inl hid⟩
        rcases hb' with hb' | hb'
        · exact hb'
        · intro id o p k1 k2 k3
          obtain ⟨q, hq, hl'⟩ := ((hh.delAll ids).ob id o k1).has
          rw [k2] at hq; cases hq
          have := hl' b k3
          omega
    · exact hl.elim

/-! ### such a call by itself -/
def runX (hp : Hp) (nx : Nat) (k : V → Hp → Nat → VC) : FR → VC
  | .v x => k x hp nx
  | .b c => .br c (k (.c (.bool true)) hp nx) (k (.c (.bool false)) hp nx)
  | .br c t f => .br c (runX hp nx k t) (runX hp nx k f)
  | .o p r => .obl p (runX hp nx k r)
  | .new x [] kill => k x (delAll hp kill) nx
  | .new x [o] kill => k x ((nx, o) :: delAll hp kill) (nx + 1)
  | .upd id o kill => k (.c .un) (setA (delAll hp kill) id o) nx
  | _ => .bad

theorem runX_leaf {hp : Hp} {nx : Nat} {k : V → Hp → Nat → VC} : ∀ r : FR, (runX hp nx k r).holds → ∃ l, FRl r l ∧ (k l.x (l.hp nx hp) (l.nx nx)).holds
  | .v x, h => ⟨⟨x, none, [], none⟩, ⟨x, .inl rfl, rfl⟩, h⟩
  | .b c, h => by
    refine ⟨⟨.c (.bool c), none, [], none⟩, rfl, ?_⟩
    cases c
    · exact h.2 rfl
    · exact h.1 rfl
  | .br c t f, h => by
    cases c
    · obtain ⟨l, h1, h2⟩ := runX_leaf f (h.2 rfl)
      exact ⟨l, ⟨fun e => (by cases e), fun _ => h1⟩, h2⟩
    · obtain ⟨l, h1, h2⟩ := runX_leaf t (h.1 rfl)
      exact ⟨l, ⟨fun _ => h1, fun e => by cases e⟩, h2⟩
  | .o p r, h => by
    obtain ⟨l, h1, h2⟩ := runX_leaf r h.2
    exact ⟨l, ⟨h.1, h1⟩, h2⟩
  | .new x [] kill, h => ⟨⟨x, none, kill, none⟩, rfl, h⟩
  | .new x [o] kill, h => ⟨⟨x, some o, kill, none⟩, rfl, h⟩
  | .new x (_ :: _ :: _) kill, h => h.elim
  | .upd id o kill, h => ⟨⟨.c .un, none, kill, some (id, o)⟩, rfl, h⟩
  | .amb, h => h.elim
  | .bad, h => h.elim

theorem x_sound {P : Program} {g : FuncId} {x : XOp} (hx : XOk P g x) {φ : Phi} {hp : Hp} {nx : Nat} {w : World} {as : List V} {vs : List Value} {k : V → Hp → Nat → VC} (h : (runX hp nx k (x.fr Lv.std (lookA hp) nx as)).holds) (hh : HRel φ hp nx w) (hv : L2 (Vrel φ (okb φ hp) w) as vs) :
    Has P g ∧ Calls P g vs.toArray w fun e w' => ∃ v, e = .returned v ∧ ∃ φ' hp' nx' y, (k y hp' nx').holds ∧ HRel φ' hp' nx' w' ∧ Evo φ hp w φ' hp' w' ∧ Vrel φ' (okb φ' hp') w' y v := by
  obtain ⟨l, h1, h2⟩ := runX_leaf _ h
  refine ⟨hx.has, (hx.run φ hp nx w as vs l hh hv h1).mono fun e w' he => ?_⟩
  obtain ⟨v, rfl, φ', hp', l1, l2, l3, l4, l5⟩ := he
  obtain ⟨q1, q2⟩ := l2.congr (fun id => (l1 id).symm)
  exact ⟨v, rfl, φ', _, _, l.x, h2, q1, l3.trans q2, q2.V l4⟩
end Go.VM
set_option autoImplicit false
set_option linter.all false
namespace Go.VM
open Go Go.Lib

/-! ### 1. The generator -/
def disjN (a b : List Nat) : Bool := a.all fun x => !(memN x b)

def idsC : C → List Nat
  | .own id _ => [id]
  | .ptr id _ => [id]
  | .elp id _ _ => [id]
  | .fn _ caps => caps
  | .map id => [id]
  | .selfp id => [id]
  | _ => []
def idsCs : List C → List Nat
  | [] => []
  | c :: l => idsC c ++ idsCs l
def idsT : List (Bool × List C) → List Nat
  | [] => []
  | p :: l => idsCs p.2 ++ idsT l
def idsV : V → List Nat
  | .c x => idsC x
  | .agg l => idsCs l
  | .tup l => idsT l
  | .ipt l => idsCs l
def idsP : List (C × C) → List Nat
  | [] => []
  | p :: l => idsC p.2 ++ idsP l
def idsO : Option Ob → List Nat
  | some (.box _ cs) => idsCs cs
  | some (.rowf _ _ _ _ cs) => idsCs cs
  | some (.mapc l) => idsP l
  | _ => []
def nextIds (hp : Hp) : List Nat → List Nat
  | [] => []
  | id :: l => idsO (lookA hp id) ++ nextIds hp l
def reach : Nat → Hp → List Nat → List Nat
  | 0, _, l => l
  | n + 1, hp, l => match l with
    | [] => []
    | l => l ++ reach n hp (nextIds hp l)
def opdIds (s : St) : List Operand → List Nat
  | [] => []
  | x :: l => idsV (s.ev x) ++ opdIds s l
def hR (used : List Nat) (hp : Hp) : H := fun id => match memN id used with
  | true => lookA hp id
  | false => none

structure Rec where
  i : Nat
  used : List Nat
  tch : List Nat
  nw : Bool
  al : Bool

def okRec (un used tch : List Nat) (nw : Bool) (r : Rec) : Bool := match memN r.i un with
  | false => true
  | true => disjN used r.tch && disjN tch r.used && disjN tch r.tch && (!(nw && r.nw) || r.al)
def okRecs (un used tch : List Nat) (nw : Bool) : List Rec → Bool
  | [] => true
  | r :: l => match okRec un used tch nw r with
    | true => okRecs un used tch nw l
    | false => false

abbrev Spc := FuncId → Option XOp

def stepD (L : Lv) (E : Ev) (spc : Spc) (o : Oper) (used : List Nat) (s : St) (k : St → List Nat → Bool → VC) : VC := match o.op with
  | .call { callee := .value f, args := as, argTypes := _ } => match s.ev f with
    | .c (.fn g caps) => match spc g with
      | some x => runD s o.dst k (x.fr L (hR used s.hp) s.nx (as.toList.map s.ev ++ caps.map fun id => .c (.ptr id 0)))
      | none => .bad
    | _ => .bad
  | op => runD s o.dst k (opFR L E (hR used s.hp) s.nx s.ev op)

def usedOf (s : St) (o : Oper) : List Nat := 0 :: reach 4 s.hp (opdIds s o.op.operands.toList)

def drawGo (L : Lv) (E : Ev) (spc : Spc) (ops : Array Oper) : List (Nat × List Nat) → List Rec → St → (St → VC) → VC
  | [], _, s, k => k s
  | (i, un) :: rest, recs, s, k => match ops[i]? with
    | none => .bad
    | some o => guardG ops o s
        (stepD L E spc o (usedOf s o) s fun s' tch nw => match okRecs un (usedOf s o) tch nw recs with
          | true => drawGo L E spc ops rest (⟨i, usedOf s o, tch, nw, isAlloc o.op⟩ :: recs) s' k
          | false => .bad)
        (drawGo L E spc ops rest (⟨i, [], [], false, false⟩ :: recs) (s.put o.dst (.c .sk)) k)

/-! ### 2. A plan, and whether it is right -/
def apartI (ops : Array Oper) (i j : Nat) : Bool := match ops[i]?, ops[j]? with
  | some x, some y => x.apart ops y
  | _, _ => false
def maskOf (acc : List Nat) (l : List Edge) : Nat := l.foldl (fun s e => if Region.binds .any e then s ||| 2 ^ e.on ||| acc.getD e.on 0 else s) 0
def ancGo : List Oper → List Nat → List Nat
  | [], acc => acc
  | o :: os, acc => ancGo os (acc ++ [maskOf acc o.after.toList])
def planGo (ops : Array Oper) (anc : List Nat) : List (Nat × List Nat) → List Nat → Bool
  | [], _ => true
  | (i, un) :: r, prev => !(memN i prev) && prev.all (fun j => (anc.getD i 0).testBit j || (memN j un && apartI ops i j)) && planGo ops anc r (i :: prev)
def edgesBack (ops : Array Oper) : Bool := (List.range ops.size).all fun i => match ops[i]? with
  | some o => o.after.toList.all fun e => !(Region.binds .any e) || Nat.blt e.on i
  | none => true
def planOk (ops : Array Oper) (plan : List (Nat × List Nat)) : Bool :=
  edgesBack ops && planGo ops (ancGo ops.toList []) plan [] && (List.range ops.size).all fun i => memN i (plan.map (·.1))

/-! ### 3. The trace -/
structure Ent where
  i : Nat
  o : Oper
  l : Leaf
  f : Nat
  used : List Nat

def guardB (ops : Array Oper) (o : Oper) (s : St) (b : Bool) : Prop := match o.guard with
  | none => b = true
  | some (j, want) => ∃ t, (ops[j]?).bind (·.dst) = some t ∧ ((∃ q, (s.look t = .c (.bool q) ∨ s.look t = .c (.sym q)) ∧ b = (q == want)) ∨ (s.look t = .c .sk ∧ b = false))

theorem guardG_split {ops : Array Oper} {o : Oper} {s : St} {go skip : VC} (h : (guardG ops o s go skip).holds) : (guardB ops o s true ∧ go.holds) ∨ (guardB ops o s false ∧ skip.holds) := by
  unfold guardG at h
  unfold guardB
  cases hg : o.guard with
  | none => rw [hg] at h; exact .inl ⟨rfl, h⟩
  | some p =>
    obtain ⟨j, want⟩ := p
    rw [hg] at h
    simp only at h ⊢
    split at h
    · rename_i t ht
      split at h
      · rename_i e
        cases want
        · exact .inr ⟨⟨t, ht, .inl ⟨true, .inl e, rfl⟩⟩, h⟩
        · exact .inl ⟨⟨t, ht, .inl ⟨true, .inl e, rfl⟩⟩, h⟩
      · rename_i e
        cases want
        · exact .inl ⟨⟨t, ht, .inl ⟨false, .inl e, rfl⟩⟩, h⟩
        · exact .inr ⟨⟨t, ht, .inl ⟨false, .inl e, rfl⟩⟩, h⟩
      · rename_i b e
        cases want <;> cases b
        · exact .inl ⟨⟨t, ht, .inl ⟨false, .inr e, rfl⟩⟩, h.2 rfl⟩
        · exact .inr ⟨⟨t, ht, .inl ⟨true, .inr e, rfl⟩⟩, h.1 rfl⟩
        · exact .inr ⟨⟨t, ht, .inl ⟨false, .inr e, rfl⟩⟩, h.2 rfl⟩
        · exact .inl ⟨⟨t, ht, .inl ⟨true, .inr e, rfl⟩⟩, h.1 rfl⟩
      · rename_i e
        exact .inr ⟨⟨t, ht, .inr ⟨e, trivial⟩⟩, h⟩
      · exact h.elim
    · exact h.elim

theorem guardB_wanted {φ : Phi} {s : St} {a : Act} {w : World} (hr : Rel φ s a w) {ops : Array Oper} {o : Oper} {b : Bool} (h : guardB ops o s b) : Region.wanted o (yielded ops a.tmps) = b := by
  unfold guardB at h
  unfold Region.wanted
  cases hg : o.guard with
  | none => rw [hg] at h; exact h.symm
  | some p =>
    obtain ⟨j, want⟩ := p
    rw [hg] at h
    obtain ⟨t, ht, h⟩ := h
    have hy := yielded_of (ops := ops) (a := a) ht
    have hl : Vrel φ (okb φ s.hp) w (s.look t) (a.tmps.getD t undef) := ev_ok hr (.tmp t)
    simp only
    rcases h with ⟨q, h1, rfl⟩ | ⟨h1, rfl⟩
    · have : a.tmps.getD t undef = .bool q := by
        rcases h1 with h1 | h1 <;> rw [h1] at hl <;> exact hl
      rw [hy.1 q this]
      cases q <;> cases want <;> rfl
    · rw [h1] at hl
      rw [hy.2 hl]
      cases want <;> rfl

/-- What the operation yields in the state of the text's order. -/
def Yld (L : Lv) (E : Ev) (spc : Spc) (o : Oper) (used : List Nat) (s : St) (l : Leaf) : Prop :=
  (∃ f as ts g caps x, o.op = .call { callee := .value f, args := as, argTypes := ts } ∧ s.ev f = .c (.fn g caps) ∧ spc g = some x ∧ FRl (x.fr L (hR used s.hp) s.nx (as.toList.map s.ev ++ caps.map fun id => .c (.ptr id 0))) l) ∨
  FRl (opFR L E (hR used s.hp) s.nx s.ev o.op) l

theorem stepD_yld {L : Lv} {E : Ev} {spc : Spc} {o : Oper} {used : List Nat} {s : St} {k : St → List Nat → Bool → VC} (h : (stepD L E spc o used s k).holds) :
    ∃ l, Yld L E spc o used s l ∧ (k (l.st s o.dst) (l.ids s.nx) l.nw.isSome).holds := by
  unfold stepD at h
  split at h
  · rename_i f as ts ho
    split at h
    · rename_i g caps hf
      split at h
      · rename_i x hx
        obtain ⟨l, h1, h2⟩ := runD_leaf _ h
        exact ⟨l, .inl ⟨f, as, ts, g, caps, x, ho, hf, hx, h1⟩, h2⟩
      · exact h.elim
    · exact h.elim
  · obtain ⟨l, h1, h2⟩ := runD_leaf _ h
    exact ⟨l, .inr h1, h2⟩

def PairOk (ops : Array Oper) (anc : List Nat) (e e' : Ent) : Prop := (anc.getD e.i 0).testBit e'.i = true ∨
  (Oper.apart ops e.o e'.o = true ∧ (∀ id, memN id e.used = true → e'.l.tch e'.f id = none) ∧ (∀ id, memN id e'.used = true → e.l.tch e.f id = none) ∧ (∀ id, e.l.tch e.f id = none ∨ e'.l.tch e'.f id = none) ∧
    (e.l.nw.isSome = true → e'.l.nw.isSome = true → isAlloc e'.o.op = true))

def Tr (L : Lv) (E : Ev) (spc : Spc) (ops : Array Oper) (anc : List Nat) (s0 : St) : List Ent → St → Prop
  | [], s => s = s0
  | e :: es, s => ∃ s1, Tr L E spc ops anc s0 es s1 ∧ ops[e.i]? = some e.o ∧ e.f = s1.nx ∧ (∀ e' ∈ es, e'.i ≠ e.i ∧ PairOk ops anc e e') ∧
      ((guardB ops e.o s1 true ∧ Yld L E spc e.o e.used s1 e.l) ∨ (guardB ops e.o s1 false ∧ e.l = ⟨.c .sk, none, [], none⟩)) ∧ s = e.l.st s1 e.o.dst

theorem disjN_ok {a b : List Nat} (h : disjN a b = true) : ∀ x, x ∈ a → x ∉ b := fun x hx hb => by
  unfold disjN at h
  rw [List.all_eq_true] at h
  have := h x hx
  rw [(memN_iff x b).2 hb] at this
  cases this

def RM (r : Rec) (e : Ent) : Prop := r.i = e.i ∧ r.used = e.used ∧ r.tch = e.l.ids e.f ∧ r.nw = e.l.nw.isSome ∧ (r.al = true → isAlloc e.o.op = true)

theorem okRecs_ok {un used tch : List Nat} {nw : Bool} : ∀ (recs : List Rec) (es : List Ent), L2 RM recs es → okRecs un used tch nw recs = true → ∀ e' ∈ es, memN e'.i un = true →
    (∀ id, id ∈ used → e'.l.tch e'.f id = none) ∧ (∀ id, id ∈ tch → id ∉ e'.used) ∧ (∀ id, id ∈ tch → e'.l.tch e'.f id = none) ∧ (nw = true → e'.l.nw.isSome = true → isAlloc e'.o.op = true)
  | [], [], _, _, e', h, _ => by cases h
  | r :: recs, e :: es, hl, hk, e', hm, hu => by
    unfold okRecs at hk
    split at hk
    · rename_i hr
      rcases List.mem_cons.1 hm with rfl | hm
      · obtain ⟨h1, h2, h3, h4, h5⟩ := hl.1
        unfold okRec at hr
        rw [h1, hu] at hr
        simp only [Bool.and_eq_true] at hr
        obtain ⟨⟨⟨q1, q2⟩, q3⟩, q4⟩ := hr
        refine ⟨fun id hid => e'.l.tch_none _ _ (by rw [← h3]; exact disjN_ok q1 id hid), fun id hid => by rw [← h2]; exact disjN_ok q2 id hid, fun id hid => e'.l.tch_none _ _ (by rw [← h3]; exact disjN_ok q3 id hid), fun hn hn' => h5 ?_⟩
        rw [hn, h4, hn'] at q4
        simpa using q4
      · exact okRecs_ok recs es hl.2 hk e' hm hu
    · cases hk
  | [], _ :: _, hl, _, _, _, _ | _ :: _, [], hl, _, _, _, _ => hl.elim

theorem drawGo_tr {E : Ev} {spc : Spc} {ops : Array Oper} {anc : List Nat} {s0 : St} {k : St → VC} : ∀ (plan : List (Nat × List Nat)) (prev : List Nat) (recs : List Rec) (es : List Ent) (s : St),
    planGo ops anc plan prev = true → prev = es.map (·.i) → L2 RM recs es → (drawGo Lv.std E spc ops plan recs s k).holds → Tr Lv.std E spc ops anc s0 es s →
    ∃ es' s', Tr Lv.std E spc ops anc s0 es' s' ∧ (k s').holds ∧ ∀ i, memN i (plan.map (·.1)) = true ∨ (∃ e ∈ es, e.i = i) → ∃ e ∈ es', e.i = i
  | [], prev, recs, es, s, hp, hprev, hrm, h, ht => ⟨es, s, ht, h, fun i hi => hi.resolve_left (by simp [memN])⟩
  | (i, un) :: rest, prev, recs, es, s, hp, hprev, hrm, h, ht => by
    unfold drawGo at h
    unfold planGo at hp
    simp only [Bool.and_eq_true, Bool.not_eq_true', List.all_eq_true, Bool.or_eq_true] at hp
    obtain ⟨⟨hp1, hp2⟩, hp3⟩ := hp
    split at h
    · exact h.elim
    · rename_i o ho
      have hpair : ∀ e' ∈ es, e'.i ≠ i ∧ ((anc.getD i 0).testBit e'.i = true ∨ (memN e'.i un = true ∧ Oper.apart ops o e'.o = true ∨ ops[e'.i]? ≠ some e'.o)) := fun e' he' => by
        have hin : e'.i ∈ prev := by rw [hprev]; exact List.mem_map.2 ⟨e', he', rfl⟩
        refine ⟨fun e => ?_, ?_⟩
        · rw [← e, (memN_iff _ _).2 hin] at hp1; cases hp1
        · rcases hp2 _ hin with h1 | h1
          · exact .inl h1
          · by_cases hx : ops[e'.i]? = some e'.o
            · refine .inr (.inl ⟨h1.1, ?_⟩)
              have := h1.2
              unfold apartI at this
              rw [ho, hx] at this
              exact this
            · exact .inr (.inr hx)
      have hops : ∀ (es : List Ent) (s : St), Tr Lv.std E spc ops anc s0 es s → ∀ e ∈ es, ops[e.i]? = some e.o := by
        intro es
        induction es with
        | nil => intro s _ e he; cases he
        | cons e es ih =>
          intro s hs e' he'
          obtain ⟨s1, h1, h2, _⟩ := hs
          rcases List.mem_cons.1 he' with rfl | he'
          · exact h2
          · exact ih s1 h1 e' he'
      have fin : ∀ (e : Ent) (r : Rec) (s' : St), e.i = i → RM r e → Tr Lv.std E spc ops anc s0 (e :: es) s' → (drawGo Lv.std E spc ops rest (r :: recs) s' k).holds →
          ∃ es' s', Tr Lv.std E spc ops anc s0 es' s' ∧ (k s').holds ∧ ∀ i', memN i' (((i, un) :: rest).map (·.1)) = true ∨ (∃ e ∈ es, e.i = i') → ∃ e ∈ es', e.i = i' := by
        intro e r s' hei hr ht' hd
        obtain ⟨es', s'', q1, q2, q3⟩ := drawGo_tr rest (i :: prev) (r :: recs) (e :: es) s' hp3 (by simp [hprev, hei]) ⟨hr, hrm⟩ hd ht'
        refine ⟨es', s'', q1, q2, fun i' hi' => q3 i' ?_⟩
        rcases hi' with hi' | ⟨e', he', hi'⟩
        · rw [memN_iff] at hi'
          simp only [List.map_cons, List.mem_cons] at hi'
          rcases hi' with rfl | hi'
          · exact .inr ⟨e, by simp, hei⟩
          · exact .inl ((memN_iff _ _).2 hi')
        · exact .inr ⟨e', by simp [he'], hi'⟩
      rcases guardG_split h with ⟨hg, h⟩ | ⟨hg, h⟩
      · obtain ⟨l, hy, h2⟩ := stepD_yld h
        split at h2
        · rename_i hok
          have hrec := okRecs_ok recs es hrm hok
          refine fin ⟨i, o, l, s.nx, usedOf s o⟩ ⟨i, usedOf s o, l.ids s.nx, l.nw.isSome, isAlloc o.op⟩ _ rfl ⟨rfl, rfl, rfl, rfl, fun h => h⟩ ⟨s, ht, ho, rfl, fun e' he' => ?_, .inl ⟨hg, hy⟩, rfl⟩ h2
          obtain ⟨q1, q2⟩ := hpair e' he'
          refine ⟨q1, ?_⟩
          rcases q2 with q2 | q2 | q2
          · exact .inl q2
          · obtain ⟨r1, r2, r3, r4⟩ := hrec e' he' q2.1
            refine .inr ⟨q2.2, fun id hid => r1 id ((memN_iff _ _).1 hid), fun id hid => l.tch_none _ _ (fun hc => r2 id hc ((memN_iff _ _).1 hid)), fun id => ?_, r4⟩
            by_cases hc : id ∈ l.ids s.nx
            · exact .inr (r3 id hc)
            · exact .inl (l.tch_none _ _ hc)
          · exact absurd (hops es s ht e' he') q2
        · exact h2.elim
      · refine fin ⟨i, o, ⟨.c .sk, none, [], none⟩, s.nx, []⟩ ⟨i, [], [], false, false⟩ _ rfl ⟨rfl, rfl, rfl, rfl, fun h => by cases h⟩ ⟨s, ht, ho, rfl, fun e' he' => ?_, .inr ⟨hg, rfl⟩, rfl⟩ h
        obtain ⟨q1, q2⟩ := hpair e' he'
        refine ⟨q1, ?_⟩
        rcases q2 with q2 | q2 | q2
        · exact .inl q2
        · refine .inr ⟨q2.2, fun id hid => (by cases hid), fun id hid => (by simp [Leaf.tch]), fun id => .inl (by simp [Leaf.tch]), fun hn => by cases hn⟩
        · exact absurd (hops es s ht e' he') q2

/-! ### 4. Ancestors -/
def Closed (ops : Array Oper) (S : Nat → Bool) : Prop := ∀ j o, ops[j]? = some o → S j = true → ∀ e ∈ o.after, Region.binds .any e = true → S e.on = true

theorem mask_ok (acc : List Nat) (i : Nat) : ∀ (l : List Edge) (s : Nat), (l.foldl (fun s e => if Region.binds .any e then s ||| 2 ^ e.on ||| acc.getD e.on 0 else s) s).testBit i = true →
    s.testBit i = true ∨ ∃ e ∈ l, Region.binds .any e = true ∧ (e.on = i ∨ (acc.getD e.on 0).testBit i = true)
  | [], s, h => .inl h
  | e :: l, s, h => by
    simp only [List.foldl_cons] at h
    rcases mask_ok acc i l _ h with h1 | ⟨e', he', h1⟩
    · split at h1
      · rename_i hb
        simp only [Nat.testBit_or, Bool.or_eq_true, Nat.testBit_two_pow, decide_eq_true_eq] at h1
        rcases h1 with (h1 | h1) | h1
        · exact .inl h1
        · exact .inr ⟨e, by simp, hb, .inl h1⟩
        · exact .inr ⟨e, by simp, hb, .inr h1⟩
      · exact .inl h1
    · exact .inr ⟨e', by simp [he'], h1⟩

theorem anc_go {ops : Array Oper} {S : Nat → Bool} (hc : Closed ops S) : ∀ (os : List Oper) (acc pre : List Oper) (m : List Nat), ops.toList = pre ++ os → m.length = pre.length →
    (∀ j o, ops[j]? = some o → j < m.length → (∀ e ∈ o.after, Region.binds .any e = true → S e.on = true) → ∀ i, (m.getD j 0).testBit i = true → S i = true) →
    ∀ j o, ops[j]? = some o → (∀ e ∈ o.after, Region.binds .any e = true → S e.on = true) → ∀ i, ((ancGo os m).getD j 0).testBit i = true → S i = true
  | [], acc, pre, m, hp, hl, hm, j, o, hj, he, i, hi => by
    simp only [ancGo] at hi
    refine hm j o hj ?_ he i hi
    have hlt := (Array.getElem?_eq_some_iff.1 hj).1
    have : ops.toList.length = pre.length := by rw [hp]; simp
    simp at this
    omega
  | o' :: os, acc, pre, m, hp, hl, hm, j, o, hj, he, i, hi => by
    simp only [ancGo] at hi
    refine anc_go hc os acc (pre ++ [o']) (m ++ [maskOf m o'.after.toList]) (by rw [hp]; simp) (by simp [hl]) ?_ j o hj he i hi
    intro j o hj hlt he i hi
    simp only [List.length_append, List.length_cons, List.length_nil] at hlt
    by_cases hjm : j < m.length
    · rw [List.getD_eq_getElem?_getD, List.getElem?_append_left hjm, ← List.getD_eq_getElem?_getD] at hi
      exact hm j o hj hjm he i hi
    · have hje : j = m.length := by omega
      subst hje
      rw [List.getD_eq_getElem?_getD, List.getElem?_append_right (by omega)] at hi
      simp only [Nat.sub_self, List.getElem?_cons_zero, Option.getD_some] at hi
      have ho : o = o' := by
        have h1 : ops.toList[m.length]? = some o := by simpa using hj
        rw [hp, hl, List.getElem?_append_right (by omega)] at h1
        simpa using h1.symm
      subst ho
      unfold maskOf at hi
      rcases mask_ok m i _ 0 hi with h1 | ⟨e, he', hb, h1⟩
      · simp at h1
      · have hS := he e (by simpa using he') hb
        rcases h1 with rfl | h1
        · exact hS
        · have hk : e.on < m.length := by
            rcases Nat.lt_or_ge e.on m.length with h2 | h2
            · exact h2
            · rw [List.getD_eq_getElem?_getD, List.getElem?_eq_none (by omega)] at h1
              simp at h1
          have hsz : m.length < ops.size := (Array.getElem?_eq_some_iff.1 hj).1
          have hon : ops[e.on]? = some (ops[e.on]'(by omega)) := Array.getElem?_eq_getElem (by omega)
          exact hm e.on _ hon hk (hc e.on _ hon hS) i h1

theorem anc_ok {ops : Array Oper} {S : Nat → Bool} (hc : Closed ops S) (j : Nat) (o : Oper) (hj : ops[j]? = some o) (he : ∀ e ∈ o.after, Region.binds .any e = true → S e.on = true) (i : Nat)
    (hi : ((ancGo ops.toList []).getD j 0).testBit i = true) : S i = true :=
  anc_go hc ops.toList [] [] [] (by simp) rfl (fun j o _ h => absurd h (by simp)) j o hj he i hi
end Go.VM
set_option autoImplicit false
set_option linter.all false
namespace Go.VM
open Go Go.Lib

/-! ### 1. What a set of operations has left -/
def swS (s0 : St) (S : Nat → Bool) : List Ent → Nat → Option V
  | [], t => lookA s0.sl t
  | e :: es, t => if S e.i = true ∧ e.o.dst = some t ∧ t < s0.n then some e.l.x else swS s0 S es t

def hwS (s0 : St) (S : Nat → Bool) : List Ent → Nat → Option Ob
  | [], id => lookA s0.hp id
  | e :: es, id => if S e.i = true then (match e.l.tch e.f id with | some r => r | none => hwS s0 S es id) else hwS s0 S es id

theorem look_put (s : St) (dst : Option Nat) (x : V) (t : Nat) : lookA (s.put dst x).sl t = if dst = some t ∧ t < s.n then some x else lookA s.sl t := by
  cases dst with
  | none => simp [St.put]
  | some d =>
    unfold St.put
    simp only
    split
    · rename_i hd
      have hd' : d < s.n := Nat.le_of_ble_eq_true hd
      simp only [lookA_setA, Option.some.injEq]
      by_cases h : t = d
      · subst h; simp [hd']
      · have h' : ¬ d = t := fun e => h e.symm
        simp [h, h']
    · rename_i hd
      have hd' : ¬ d < s.n := fun h => hd (Nat.ble_eq_true_of_le h)
      rw [if_neg]
      rintro ⟨h1, h2⟩
      cases h1; exact hd' h2
theorem put_hp (s : St) (dst : Option Nat) (x : V) : (s.put dst x).hp = s.hp ∧ (s.put dst x).n = s.n ∧ (s.put dst x).nx = s.nx := by
  cases dst with
  | none => exact ⟨rfl, rfl, rfl⟩
  | some d => unfold St.put; simp only; split <;> exact ⟨rfl, rfl, rfl⟩

theorem sw_congr {s0 : St} {S S' : Nat → Bool} {t : Nat} : ∀ es : List Ent, (∀ e ∈ es, e.o.dst = some t → t < s0.n → S e.i = S' e.i) → swS s0 S es t = swS s0 S' es t
  | [], _ => rfl
  | e :: es, h => by
    simp only [swS]
    rw [sw_congr es (fun e' he' => h e' (by simp [he']))]
    by_cases hd : e.o.dst = some t ∧ t < s0.n
    · rw [h e (by simp) hd.1 hd.2]
    · have h1 : ¬ (S e.i = true ∧ e.o.dst = some t ∧ t < s0.n) := fun hh => hd hh.2
      have h2 : ¬ (S' e.i = true ∧ e.o.dst = some t ∧ t < s0.n) := fun hh => hd hh.2
      rw [if_neg h1, if_neg h2]

theorem sw_skip {s0 : St} {S : Nat → Bool} {t : Nat} {r : List Ent} : ∀ es : List Ent, (∀ e ∈ es, S e.i = true → e.o.dst ≠ some t) → swS s0 S (es ++ r) t = swS s0 S r t
  | [], _ => rfl
  | e :: es, h => by
    simp only [List.cons_append, swS]
    rw [if_neg (fun hh => h e (by simp) hh.1 hh.2.1)]
    exact sw_skip es (fun e' he' => h e' (by simp [he']))

theorem hw_congr {s0 : St} {S S' : Nat → Bool} {id : Nat} : ∀ es : List Ent, (∀ e ∈ es, e.l.tch e.f id ≠ none → S e.i = S' e.i) → hwS s0 S es id = hwS s0 S' es id
  | [], _ => rfl
  | e :: es, h => by
    simp only [hwS]
    rw [hw_congr es (fun e' he' => h e' (by simp [he']))]
    cases ht : e.l.tch e.f id with
    | none => simp
    | some r => rw [h e (by simp) (by rw [ht]; simp)]

theorem hw_skip {s0 : St} {S : Nat → Bool} {id : Nat} {r : List Ent} : ∀ es : List Ent, (∀ e ∈ es, S e.i = true → e.l.tch e.f id = none) → hwS s0 S (es ++ r) id = hwS s0 S r id
  | [], _ => rfl
  | e :: es, h => by
    simp only [List.cons_append, hwS]
    rw [hw_skip es (fun e' he' => h e' (by simp [he']))]
    by_cases hS : S e.i = true
    · rw [if_pos hS, h e (by simp) hS]
    · rw [if_neg hS]

section
variable {P : Program} {E : Ev} {spc : Spc} {ops : Array Oper} {anc : List Nat} {s0 : St}

theorem Tr.look : ∀ (es : List Ent) (s : St), Tr Lv.std E spc ops anc s0 es s → s.n = s0.n ∧ s0.nx ≤ s.nx ∧ (∀ t, lookA s.sl t = swS s0 (fun _ => true) es t) ∧ (∀ id, lookA s.hp id = hwS s0 (fun _ => true) es id) ∧
    ∀ e ∈ es, s0.nx ≤ e.f ∧ e.f ≤ s.nx ∧ (e.l.nw.isSome = true → e.f < s.nx)
  | [], s, h => by cases h; exact ⟨rfl, Nat.le_refl _, fun _ => rfl, fun _ => rfl, fun e he => by cases he⟩
  | e :: es, s, h => by
    obtain ⟨s1, h1, h2, h3, h4, h5, rfl⟩ := h
    obtain ⟨q1, q2, q3, q4, q5⟩ := Tr.look es s1 h1
    unfold Leaf.st
    obtain ⟨p1, p2, p3⟩ := put_hp { s1 with hp := e.l.hp s1.nx s1.hp, nx := e.l.nx s1.nx } e.o.dst e.l.x
    have hnx : s1.nx ≤ e.l.nx s1.nx ∧ (e.l.nw.isSome = true → s1.nx < e.l.nx s1.nx) := by
      unfold Leaf.nx
      cases e.l.nw <;> simp
    refine ⟨by rw [p2]; exact q1, by rw [p3]; exact Nat.le_trans q2 hnx.1, fun t => ?_, fun id => ?_, fun e' he' => ?_⟩
    · rw [look_put]
      simp only [swS, true_and]
      show (if e.o.dst = some t ∧ t < s1.n then _ else lookA s1.sl t) = _
      rw [q1, q3]
    · rw [p1]
      show lookA (e.l.hp s1.nx s1.hp) id = _
      rw [Leaf.look_hp]
      simp only [hwS, if_true, h3, q4]
      all_goals (cases e.l.tch s1.nx id <;> rfl)
    · rw [p3]
      rcases List.mem_cons.1 he' with rfl | he'
      · rw [h3]; exact ⟨q2, hnx.1, hnx.2⟩
      · obtain ⟨r1, r2, r3⟩ := q5 e' he'
        exact ⟨r1, Nat.le_trans r2 hnx.1, fun hn => Nat.lt_of_lt_of_le (r3 hn) hnx.1⟩

/-- An entry of the trace, with what stands before and behind it. -/
theorem Tr.split : ∀ (tr : List Ent) (s : St), Tr Lv.std E spc ops anc s0 tr s → ∀ e ∈ tr, ∃ es2 es1 s1, tr = es2 ++ e :: es1 ∧ Tr Lv.std E spc ops anc s0 es1 s1 ∧ ops[e.i]? = some e.o ∧ e.f = s1.nx ∧
    (∀ e' ∈ es1, e'.i ≠ e.i ∧ PairOk ops anc e e') ∧ ((guardB ops e.o s1 true ∧ Yld Lv.std E spc e.o e.used s1 e.l) ∨ (guardB ops e.o s1 false ∧ e.l = ⟨.c .sk, none, [], none⟩)) ∧
    (∀ e2 ∈ es2, e.i ≠ e2.i ∧ PairOk ops anc e2 e ∧ ops[e2.i]? = some e2.o) ∧ e.l.nx e.f ≤ s.nx ∧ ∀ e2 ∈ es2, e.l.nx e.f ≤ e2.f
  | [], s, h, e, he => by cases he
  | x :: tr, s, h, e, he => by
    obtain ⟨s1, h1, h2, h3, h4, h5, rfl⟩ := h
    have hs : (x.l.st s1 x.o.dst).nx = x.l.nx s1.nx := (put_hp _ _ _).2.2
    rcases List.mem_cons.1 he with rfl | he
    · exact ⟨[], tr, s1, rfl, h1, h2, h3, h4, h5, fun _ h => (by cases h), by rw [hs, h3]; exact Nat.le_refl _, fun _ h => by cases h⟩
    · obtain ⟨es2, es1, s2, rfl, q1, q2, q3, q4, q5, q6, q7, q8⟩ := Tr.split tr s1 h1 e he
      refine ⟨x :: es2, es1, s2, rfl, q1, q2, q3, q4, q5, fun e2 he2 => ?_, ?_, fun e2 he2 => ?_⟩
      · rcases List.mem_cons.1 he2 with rfl | he2
        · exact ⟨(h4 e (by simp)).1, (h4 e (by simp)).2, h2⟩
        · exact q6 e2 he2
      · rw [hs]
        refine Nat.le_trans q7 ?_
        unfold Leaf.nx
        cases x.l.nw <;> simp
      · rcases List.mem_cons.1 he2 with rfl | he2
        · rw [h3]; exact q7
        · exact q8 e2 he2

/-! ### 2. The invariant -/
def Inv (P : Program) (s0 : St) (φ0 : Phi) (w0 : World) (tr : List Ent) (N : Nat) (S : Nat → Bool) (a : Act) (w : World) : Prop := ∃ φ sS,
  sS.n = s0.n ∧ sS.nx = N ∧ (∀ t, lookA sS.sl t = swS s0 S tr t) ∧ (∀ id, lookA sS.hp id = hwS s0 S tr id) ∧ Rel φ sS a w ∧ Evo φ0 s0.hp w0 φ sS.hp w ∧
  ∀ id, φ id ≠ none → id < s0.nx ∨ ∃ e ∈ tr, S e.i = true ∧ e.l.nw.isSome = true ∧ e.f = id

variable {φ0 : Phi} {w0 : World} {tr es2 es1 : List Ent} {e : Ent} {N : Nat} {S S' : Nat → Bool}

theorem inv_after (hN : e.l.nx e.f ≤ N) (htr : tr = es2 ++ e :: es1) (hc : Closed ops S) (hanc : anc = ancGo ops.toList []) (hn : S e.i = false) (h2 : ∀ e2 ∈ es2, e.i ≠ e2.i ∧ PairOk ops anc e2 e ∧ ops[e2.i]? = some e2.o) (h1 : ∀ e' ∈ es1, e'.i ≠ e.i ∧ PairOk ops anc e e')
    (hS' : ∀ j, S' j = (S j || j == e.i)) {φ : Phi} {sS : St} {a : Act} {w w' : World} {v : Value} (r1 : sS.n = s0.n) (r3 : ∀ t, lookA sS.sl t = swS s0 S tr t) (r4 : ∀ id, lookA sS.hp id = hwS s0 S tr id) (r5 : Rel φ sS a w)
    (r6 : Evo φ0 s0.hp w0 φ sS.hp w) (r7 : ∀ id, φ id ≠ none → id < s0.nx ∨ ∃ e ∈ tr, S e.i = true ∧ e.l.nw.isSome = true ∧ e.f = id) (hl : LeafOk φ sS.hp w e.f N e.l v w') : Inv P s0 φ0 w0 tr N S' (a.put e.o.dst v) w' := by
  obtain ⟨φ', hp', l1, l2, l3, l4, l5⟩ := hl
  obtain ⟨p1, p2, p3⟩ := r5.put hp' N l2 l3 e.o.dst e.l.x v l4
  have hSe : S' e.i = true := by rw [hS']; simp
  have hSo : ∀ e' : Ent, e'.i ≠ e.i → S' e'.i = S e'.i := fun e' h => by
    rw [hS']
    have : (e'.i == e.i) = false := by simpa using h
    rw [this, Bool.or_false]
  -- those behind it that are done are apart from it
  have hap : ∀ e2 ∈ es2, S e2.i = true → Oper.apart ops e2.o e.o = true ∧ (∀ id, e2.l.tch e2.f id = none ∨ e.l.tch e.f id = none) := fun e2 he2 hs2 => by
    obtain ⟨_, q2, q3⟩ := h2 e2 he2
    rcases q2 with q2 | q2
    · rw [hanc] at q2
      have := anc_ok hc e2.i e2.o q3 (hc e2.i e2.o q3 hs2) e.i q2
      rw [hn] at this; cases this
    · exact ⟨q2.1, q2.2.2.2.1⟩
  refine ⟨φ', _, by rw [p3]; exact r1, (put_hp _ _ _).2.2, fun t => ?_, fun id => ?_, p1, by rw [p2]; exact r6.trans l3, fun id hid => ?_⟩
  · rw [look_put]
    show (if e.o.dst = some t ∧ t < sS.n then some e.l.x else lookA sS.sl t) = _
    rw [r1, r3, htr]
    by_cases hd : e.o.dst = some t ∧ t < s0.n
    · rw [if_pos hd, sw_skip es2]
      · simp only [swS]
        rw [if_pos ⟨hSe, hd.1, hd.2⟩]
      · intro e2 he2 hs2 hdst
        rw [hSo e2 (Ne.symm (h2 e2 he2).1)] at hs2
        obtain ⟨_, q, _⟩ := Oper.apart_spec (hap e2 he2 hs2).1
        exact q t hdst hd.1
    · rw [if_neg hd]
      refine sw_congr _ fun e' he' hdst hlt => ?_
      by_cases hee : e'.i = e.i
      · exfalso
        rcases List.mem_append.1 he' with hm | hm
        · exact (h2 e' hm).1 hee.symm
        · rcases List.mem_cons.1 hm with rfl | hm
          · exact hd ⟨hdst, hlt⟩
          · exact (h1 e' hm).1 hee
      · exact (hSo e' hee).symm
  · rw [p2, l1, Leaf.look_hp, r4, htr]
    cases ht : e.l.tch e.f id with
    | some r =>
      simp only
      rw [hw_skip es2]
      · simp only [hwS, if_pos hSe, ht]
      · intro e2 he2 hs2
        rw [hSo e2 (Ne.symm (h2 e2 he2).1)] at hs2
        rcases (hap e2 he2 hs2).2 id with q | q
        · exact q
        · rw [ht] at q; cases q
    | none =>
      simp only
      refine hw_congr _ fun e' he' hne => ?_
      by_cases hee : e'.i = e.i
      · exfalso
        rcases List.mem_append.1 he' with hm | hm
        · exact (h2 e' hm).1 hee.symm
        · rcases List.mem_cons.1 hm with rfl | hm
          · exact hne ht
          · exact (h1 e' hm).1 hee
      · exact (hSo e' hee).symm
  · rcases l5 id hid with q | ⟨q1, q2⟩
    · rcases r7 id q with q | ⟨e', m1, m2, m3, m4⟩
      · exact .inl q
      · exact .inr ⟨e', m1, by rw [hS', m2]; rfl, m3, m4⟩
    · exact .inr ⟨e, by rw [htr]; simp, hSe, q1, q2.symm⟩

theorem LeafOk.num {φ : Phi} {hp : Hp} {w w' : World} {f f' nx : Nat} {l : Leaf} {v : Value} (hn : l.nw = none) (h : LeafOk φ hp w f nx l v w') : LeafOk φ hp w f' nx l v w' := by
  obtain ⟨φ', hp', h1, h2, h3, h4, h5⟩ := h
  refine ⟨φ', hp', fun id => ?_, h2, h3, h4, fun id hid => (h5 id hid).imp_right fun h => ?_⟩
  · rw [h1]
    unfold Leaf.hp
    rw [hn]
  · rw [hn] at h; cases h.1

theorem LeafOk.le {φ : Phi} {hp : Hp} {w w' : World} {f nx nx' : Nat} {l : Leaf} {v : Value} (hl : nx ≤ nx') (h : LeafOk φ hp w f nx l v w') : LeafOk φ hp w f nx' l v w' := by
  obtain ⟨φ', hp', h1, h2, h3, h4, h5⟩ := h
  exact ⟨φ', hp', h1, h2.le hl, h3, h4, h5⟩

theorem alloc_of {op : Op} (h : isAlloc op = true) : ∃ t, op = .alloc t := by
  cases op <;> simp [isAlloc] at h
  exact ⟨_, rfl⟩

theorem inv_step (hE : ∀ t i, E t = some i → TIok P t i) (hspc : ∀ g x, spc g = some x → XOk P g x) (hanc : anc = ancGo ops.toList []) {sE : St} (ht : Tr Lv.std E spc ops anc s0 tr sE) (hc : Closed ops S) (he : e ∈ tr) (hn : S e.i = false)
    (hed : ∀ x ∈ e.o.after, Region.binds .any x = true → S x.on = true) {a : Act} {w : World} (hi : Inv P s0 φ0 w0 tr sE.nx S a w) (hS' : ∀ j, S' j = (S j || j == e.i)) {K : Act → World → Prop} {Q : Exit → Act → World → Prop}
    (hK : ∀ a' w', Inv P s0 φ0 w0 tr sE.nx S' a' w' → K a' w') : wpOp P ops Q e.i K a w := by
  obtain ⟨es2, es1, s1, htr, t1, t2, t3, t4, t5, t6, t7, t8⟩ := Tr.split tr sE ht e he
  obtain ⟨φ, sS, r1, r2, r3, r4, r5, r6, r7⟩ := hi
  obtain ⟨c1, c2, c3, c4, c5⟩ := Tr.look es1 s1 t1
  have hA : ∀ e' ∈ es1, S e'.i = false → Oper.apart ops e.o e'.o = true ∧ (∀ id, memN id e.used = true → e'.l.tch e'.f id = none) := fun e' he' hs => by
    rcases (t4 e' he').2 with q | q
    · rw [hanc] at q
      have := anc_ok hc e.i e.o t2 hed e'.i q
      rw [hs] at this; cases this
    · exact ⟨q.1, q.2.1⟩
  have hB : ∀ e2 ∈ es2, S e2.i = true → Oper.apart ops e2.o e.o = true ∧ (∀ id, memN id e.used = true → e2.l.tch e2.f id = none) ∧ (e2.l.nw.isSome = true → e.l.nw.isSome = true → isAlloc e.o.op = true) := fun e2 he2 hs2 => by
    obtain ⟨_, q2, q3⟩ := t6 e2 he2
    rcases q2 with q2 | q2
    · rw [hanc] at q2
      have := anc_ok hc e2.i e2.o q3 (hc e2.i e2.o q3 hs2) e.i q2
      rw [hn] at this; cases this
    · exact ⟨q2.1, q2.2.2.1, q2.2.2.2.2⟩
  have hsl : ∀ t, t ∈ e.o.looksAt ops → lookA sS.sl t = lookA s1.sl t := fun t htl => by
    rw [r3, c3, htr, sw_skip es2]
    · simp only [swS, hn, Bool.false_eq_true, false_and, if_false]
      refine sw_congr _ fun e' he' hdst hlt => ?_
      cases hs : S e'.i with
      | true => rfl
      | false =>
        exfalso
        obtain ⟨_, _, q⟩ := Oper.apart_spec (hA e' he' hs).1
        exact q t hdst htl
    · intro e2 he2 hs2 hdst
      obtain ⟨q, _, _⟩ := Oper.apart_spec (hB e2 he2 hs2).1
      exact q t hdst htl
  have hhp : ∀ id, memN id e.used = true → lookA sS.hp id = lookA s1.hp id := fun id hid => by
    rw [r4, c4, htr, hw_skip es2 (fun e2 he2 hs2 => (hB e2 he2 hs2).2.1 id hid)]
    simp only [hwS, hn, Bool.false_eq_true, if_false]
    refine hw_congr _ fun e' he' hne => ?_
    cases hs : S e'.i with
    | true => rfl
    | false => exact absurd ((hA e' he' hs).2 id hid) hne
  have hev : ∀ x, x ∈ e.o.op.operands.toList → sS.ev x = s1.ev x := fun x hx => by
    cases x with
    | tmp t =>
      show sS.look t = s1.look t
      unfold St.look
      rw [hsl t (List.mem_append_left _ (List.mem_filterMap.2 ⟨.tmp t, hx, rfl⟩))]
    | _ => rfl
  have hg : ∀ b, guardB ops e.o s1 b → guardB ops e.o sS b := fun b hb => by
    unfold guardB at hb ⊢
    cases hgd : e.o.guard with
    | none => rw [hgd] at hb; exact hb
    | some p =>
      obtain ⟨j, want⟩ := p
      rw [hgd] at hb
      obtain ⟨t, q1, q2⟩ := hb
      have : sS.look t = s1.look t := by
        unfold St.look
        rw [hsl t (List.mem_append_right _ (by simp [hgd, q1]))]
      exact ⟨t, q1, by rw [this]; exact q2⟩
  have after : ∀ v w', LeafOk φ sS.hp w e.f sE.nx e.l v w' → K (a.put e.o.dst v) w' := fun v w' hl =>
    hK _ _ (inv_after t7 htr hc hanc hn t6 t4 hS' r1 r3 r4 r5 r6 r7 hl)
  unfold wpOp
  simp only [t2]
  rcases t5 with ⟨g1, hy⟩ | ⟨g1, hl⟩
  · rw [guardB_wanted r5 (hg _ g1), if_pos rfl]
    refine .inl ?_
    have hargs : ∀ as : List Operand, (∀ x ∈ as, x ∈ e.o.op.operands.toList) → as.map sS.ev = as.map s1.ev := fun as has => List.map_congr_left fun x hx => hev x (has x hx)
    have hle : HLe (hR e.used s1.hp) (lookA sS.hp) := fun id o hid => by
      unfold hR at hid
      cases hm : memN id e.used with
      | true => rw [hm] at hid; rw [hhp id hm]; exact hid
      | false => rw [hm] at hid; cases hid
    have hfree : isAlloc e.o.op = false → e.l.nw.isSome = true → HRel φ sS.hp e.f w := fun hal hnw => ⟨r5.h.ob, fun id hid => by
      cases hφ : φ id with
      | none => rfl
      | some p =>
        exfalso
        rcases r7 id (by rw [hφ]; simp) with q | ⟨e', m1, m2, m3, m4⟩
        · have : s0.nx ≤ e.f := by rw [t3]; exact c2
          omega
        · rw [htr] at m1
          rcases List.mem_append.1 m1 with m1 | m1
          · have := (hB e' m1 m2).2.2 m3 hnw
            rw [hal] at this; cases this
          · rcases List.mem_cons.1 m1 with rfl | m1
            · rw [m2] at hn; cases hn
            · have := (c5 e' m1).2.2 m3
              omega, r5.h.dj⟩
    rcases hy with ⟨f, as, ts, g, caps, x, ho, hf, hsp, hy⟩ | hy
    · have hf' : sS.ev f = .c (.fn g caps) := by rw [hev f (by rw [ho]; simp [Op.operands, Call.operands])]; exact hf
      have has : as.toList.map sS.ev = as.toList.map s1.ev := hargs _ fun x hx => by rw [ho]; simp [Op.operands, Call.operands]; exact .inr (by simpa using hx)
      have hs := hspc g x hsp
      have hy2 : FRl (x.fr Lv.std (lookA sS.hp) e.f (as.toList.map sS.ev ++ caps.map fun id => .c (.ptr id 0))) e.l := by
        rw [has, t3]
        rcases hs.mono Lv.std _ _ s1.nx (as.toList.map s1.ev ++ caps.map fun id => .c (.ptr id 0)) hle with q | q
        · rw [q] at hy; exact hy.elim
        · rw [q]; exact hy
      have hal : isAlloc e.o.op = false := by rw [ho]; rfl
      have hv : Vrel φ (okb φ sS.hp) w (.c (.fn g caps)) (a.eval f) := by rw [← hf']; exact ev_ok r5 f
      obtain ⟨vs0, hv1, hv2⟩ := hv
      have hargv : L2 (Vrel φ (okb φ sS.hp) w) (as.toList.map sS.ev ++ caps.map fun id => .c (.ptr id 0)) (as.toList.map a.eval ++ vs0) := L2_append (evs_ok r5 as.toList) (L2_ptrs caps vs0 hv2)
      have hcall : Calls P g (as.toList.map a.eval ++ vs0).toArray w fun en w' => ∃ v, en = .returned v ∧ LeafOk φ sS.hp w e.f sE.nx e.l v w' := by
        cases hnw : e.l.nw with
        | none =>
          refine (hs.run φ sS.hp sE.nx w _ _ e.l (by rw [← r2]; exact r5.h) hargv (hs.num _ _ _ _ _ _ hy2 hnw)).mono fun en w' hen => ?_
          obtain ⟨v, rfl, hlo⟩ := hen
          refine ⟨v, rfl, (hlo.num hnw).le ?_⟩
          unfold Leaf.nx; rw [hnw]; exact Nat.le_refl _
        | some ob =>
          refine (hs.run φ sS.hp e.f w _ _ e.l (hfree hal (by rw [hnw]; rfl)) hargv hy2).mono fun en w' hen => ?_
          obtain ⟨v, rfl, hlo⟩ := hen
          exact ⟨v, rfl, hlo.le t7⟩
      obtain ⟨fn, q1, q2, q3⟩ := hs.has
      have e1 : (as.toList.map a.eval ++ vs0).toArray = as.map a.eval ++ List.toArray vs0 := by apply Array.ext'; simp
      rw [e1] at hcall
      unfold Oper.wp
      have hx : (execOp a.eval e.o).run P w = .ok (.enter g (as.map a.eval ++ List.toArray vs0)) w := by
        unfold execOp
        simp only [ho, resolve, Sem.run_bind, hv1, Deferred.ofValue, Sem.run_pure, Result.andThen_ok, invoke, Array.empty_append, Array.append_empty]
        exact run_callFunc q1 q2 q3
      rw [hx, Oper.upon_enter]
      refine hcall.mono fun en w' hen => ?_
      obtain ⟨v, rfl, hlo⟩ := hen
      exact after v w' hlo
    · have hy2 : FRl (opFR Lv.std E (lookA sS.hp) e.f sS.ev e.o.op) e.l := by
        rw [opFR_ev Lv.std E (lookA sS.hp) e.f e.o.op hev, t3]
        rcases opFR_mono Lv.std E hle s1.nx s1.ev e.o.op with q | q
        · rw [q] at hy; exact hy.elim
        · rw [q]; exact hy
      have run : ∀ f nx, HRel φ sS.hp f w → FRl (opFR Lv.std E (lookA sS.hp) f sS.ev e.o.op) e.l → e.l.nx f ≤ nx → (∀ v w', LeafOk φ sS.hp w f nx e.l v w' → LeafOk φ sS.hp w e.f sE.nx e.l v w') → e.o.wp P a w K Q := fun f nx hh hfr hle conv => by
        obtain ⟨rv, k1, k2⟩ := op_ok (P := P) (w := w) hE hh (ev_ok r5) e.o
        obtain ⟨v, w', k3, k4⟩ := fr_leaf _ hfr k1
        have k5 := after v w' (conv v w' (k4.le hle))
        unfold Oper.wp
        rcases k2 v w' k3 with k6 | ⟨k6, rfl⟩
        · rw [k6]; exact k5
        · rw [k6]; exact k5
      cases hal : isAlloc e.o.op with
      | true =>
        obtain ⟨t, hot⟩ := alloc_of hal
        rw [hot] at hy2
        simp only [opFR] at hy2
        have hnw : e.l.nw.isSome = true := by
          unfold falloc at hy2
          split at hy2
          · rw [hy2]; rfl
          · exact hy2.elim
        have hnx1 : e.l.nx e.f = e.f + 1 := by
          unfold Leaf.nx
          cases hq : e.l.nw with
          | none => rw [hq] at hnw; cases hnw
          | some _ => rfl
        have hfr : φ e.f = none := by
          cases hφ : φ e.f with
          | none => rfl
          | some p =>
            exfalso
            rcases r7 e.f (by rw [hφ]; simp) with q | ⟨e', m1, m2, m3, m4⟩
            · have : s0.nx ≤ e.f := by rw [t3]; exact c2
              omega
            · rw [htr] at m1
              rcases List.mem_append.1 m1 with m1 | m1
              · -- e' is behind e: its number is greater
                have := t8 e' m1
                rw [hnx1] at this
                omega
              · rcases List.mem_cons.1 m1 with rfl | m1
                · rw [m2] at hn; cases hn
                · have := (c5 e' m1).2.2 m3
                  rw [t3] at m4; omega
        have hlt : e.f < sE.nx := by
          omega
        obtain ⟨v, w', k3, k4⟩ := alloc_any (P := P) hE (r5.h) hfr (by rw [r2]; exact hlt) t (.tuple #[]) hy2
        rw [r2] at k4
        have k5 := after v w' k4
        unfold Oper.wp
        have : (execOp a.eval e.o).run P w = .ok (.value v) w' := by
          unfold execOp
          simp only [hot]
          exact run_val k3
        rw [this]; exact k5
      | false =>
        cases hnw : e.l.nw with
        | none =>
          refine run sE.nx sE.nx (by rw [← r2]; exact r5.h) (opFR_num _ _ _ _ _ _ _ hy2 hnw) ?_ (fun v w' h => h.num hnw)
          unfold Leaf.nx; rw [hnw]; exact Nat.le_refl _
        | some o =>
          exact run e.f sE.nx (hfree hal (by rw [hnw]; rfl)) hy2 t7 (fun v w' h => h)
  · rw [guardB_wanted r5 (hg _ g1), if_neg (by simp)]
    refine after undef w ?_
    rw [hl]
    refine ⟨φ, sS.hp, fun id => rfl, by rw [← r2]; exact r5.h, Evo.refl _ _ _, rfl, fun id hid => .inl hid⟩
end
end Go.VM
set_option autoImplicit false
set_option linter.all false
namespace Go.VM
open Go Go.Lib

def unl : List Bool → Nat
  | [] => 0
  | true :: l => unl l
  | false :: l => unl l + 1

theorem unl_set : ∀ (l : List Bool) (i : Nat), l[i]? = some false → unl (l.set i true) + 1 = unl l
  | [], i, h => by simp at h
  | b :: l, 0, h => by simp at h; subst h; simp [unl]
  | b :: l, i + 1, h => by
    simp at h
    have := unl_set l i h
    cases b <;> simp [unl] <;> omega

theorem unl_zero : ∀ (l : List Bool), unl l = 0 → ∀ i, i < l.length → l[i]? = some true
  | [], _, i, hi => by simp at hi
  | true :: l, h, 0, _ => rfl
  | true :: l, h, i + 1, hi => by simpa using unl_zero l (by simpa [unl] using h) i (by simpa using hi)
  | false :: l, h, _, _ => by simp [unl] at h

section
variable {P : Program} {E : Ev} {spc : Spc} {ops : Array Oper}

theorem getD_setB (arr : Array Bool) (i j : Nat) (hi : i < arr.size) : (arr.setIfInBounds i true).getD j false = (arr.getD j false || j == i) := by
  simp only [Array.getD_eq_getD_getElem?, Array.getElem?_setIfInBounds]
  by_cases h : i = j
  · subst h; simp [hi]
  · have : (j == i) = false := by simpa using fun e => h e.symm
    simp [h, this]

theorem draw_sound (hm : P.follows .mixedOrders = true) (hE : ∀ t i, E t = some i → TIok P t i) (hspc : ∀ g x, spc g = some x → XOk P g x) {plan : List (Nat × List Nat)} (hpl : planOk ops plan = true)
    (id : Nat) (φ : Phi) (s : St) (a : Act) (w : World) (k : St → VC) (Q : Exit → Act → World → Prop) (h : (drawGo Lv.std E spc ops plan [] s k).holds) (hr : Rel φ s a w) (hQ : ∀ a' w', Ends φ s.hp w s.n k a' w' → Q .normal a' w') :
    (Code.region id ops true).wp P Q a w := by
  unfold planOk at hpl
  simp only [Bool.and_eq_true, List.all_eq_true, List.mem_range] at hpl
  obtain ⟨⟨hback, hgo⟩, hcov⟩ := hpl
  obtain ⟨tr, sE, ht, hk, hall⟩ := drawGo_tr (anc := ancGo ops.toList []) (s0 := s) plan [] [] [] s hgo rfl trivial h rfl
  have hcov' : ∀ i, i < ops.size → ∃ e ∈ tr, e.i = i := fun i hi => hall i (.inl (hcov i hi))
  obtain ⟨d1, d2, d3, d4, d5⟩ := Tr.look tr sE ht
  have hback' : ∀ (i : Nat) (o : Oper), ops[i]? = some o → ∀ e ∈ o.after, Region.binds .any e = true → e.on < i := fun i o ho e he hb => by
    have hlt := (Array.getElem?_eq_some_iff.1 ho).1
    unfold edgesBack at hback
    rw [List.all_eq_true] at hback
    have := hback i (by simpa using hlt)
    rw [ho] at this
    simp only [List.all_eq_true, Bool.or_eq_true, Bool.not_eq_true'] at this
    rcases this e (by simpa using he) with q | q
    · rw [hb] at q; cases q
    · exact Nat.le_of_ble_eq_true q
  refine wp_region_any hm ?_
  let w1 : World := { w with drawn := w.drawn + 1 }
  have hbel : Go.RowKit.Below w.heap.size w w1 := (Go.RowKit.Below.refl _ w).drew
  obtain ⟨hh1, ev1⟩ := below_h hr.h hbel
  have key : ∀ (n : Nat) (arr : Array Bool) (a : Act) (w' : World), arr.size = ops.size → unl arr.toList ≤ n → Closed ops (fun j => arr.getD j false) → Inv P s φ w tr sE.nx (fun j => arr.getD j false) a w' → wpAny P .any ops Q n arr a w' := by
    have done : ∀ (arr : Array Bool) (a : Act) (w' : World), (∀ i, i < ops.size → arr.getD i false = true) → Inv P s φ w tr sE.nx (fun j => arr.getD j false) a w' → Q .normal a w' := by
      rintro arr a w' hal ⟨φ', sS, r1, r2, r3, r4, r5, r6, r7⟩
      have hS : ∀ e ∈ tr, arr.getD e.i false = true := fun e he => by
        obtain ⟨es2, es1, s1, htr, t1, t2, _⟩ := Tr.split tr sE ht e he
        exact hal e.i (Array.getElem?_eq_some_iff.1 t2).1
      have hsl : ∀ t, lookA sE.sl t = lookA sS.sl t := fun t => by
        rw [d3, r3]
        exact sw_congr tr fun e he _ _ => (hS e he).symm
      have hhp : ∀ id, lookA sE.hp id = lookA sS.hp id := fun id => by
        rw [d4, r4]
        exact hw_congr tr fun e he _ => (hS e he).symm
      have hok : ∀ b, okb φ' sS.hp b → okb φ' sE.hp b := fun b hb => (okb_congr hhp).2 hb
      refine hQ a w' ⟨φ', sE, ⟨?_, r5.df, fun j v hj => ?_, fun id o ho => ?_, ?_, fun i j o o' p q b h1 h2 => ?_⟩, ⟨r6.os, r6.tape, r6.output, r6.size, r6.ph, fun id o p b h1 => ?_, r6.bl⟩, d1, hk⟩
      · rw [d1, ← r1]; exact r5.sz
      · rw [hsl] at hj
        have ev0 : Evo φ' sS.hp w' φ' sE.hp w' := ⟨rfl, rfl, rfl, Nat.le_refl _, fun _ _ h => h, fun id o p b h1 h2 h3 => .inr fun hb => hok b hb id o p h1 h2 h3, fun _ _ _ => rfl⟩
        exact ev0.V (r5.sl j v hj)
      · rw [hhp] at ho
        have ev0 : Evo φ' sS.hp w' φ' sE.hp w' := ⟨rfl, rfl, rfl, Nat.le_refl _, fun _ _ h => h, fun id o p b h1 h2 h3 => .inr fun hb => hok b hb id o p h1 h2 h3, fun _ _ _ => rfl⟩
        exact (r5.ob id o ho).evo ev0 fun p b _ _ => rfl
      · rw [← r2]; exact r5.fr
      · rw [hhp] at h1 h2
        exact r5.dj i j o o' p q b h1 h2
      · rw [hhp] at h1
        exact r6.ow id o p b h1
    intro n
    induction n with
    | zero =>
      intro arr a w' hsz hu hc hi
      have hal : ∀ i, i < ops.size → arr.getD i false = true := fun i hi' => by
        have := unl_zero arr.toList (by omega) i (by simpa [hsz] using hi')
        rw [Array.getD_eq_getD_getElem?]
        rw [Array.getElem?_toList] at this
        rw [this]; rfl
      refine ⟨?_, done arr a w' hal hi⟩
      rw [List.eq_nil_iff_forall_not_mem]
      intro i hmem
      obtain ⟨q1, o, q2, _⟩ := mem_ready.1 hmem
      have hlt := (Array.getElem?_eq_some_iff.1 q2).1
      have := hal i hlt
      rw [Array.getD_eq_getD_getElem?] at this q1
      rw [Array.getElem?_eq_getElem (by omega)] at this q1
      simp only [Option.getD_some] at this q1
      rw [this] at q1; cases q1
    | succ n ih =>
      intro arr a w' hsz hu hc hi
      refine ⟨fun hnil => ?_, fun i hmem => ?_⟩
      · refine done arr a w' (fun i => ?_) hi
        induction i using Nat.strongRecOn with
        | _ i ih2 =>
          intro hlt
          cases hb : arr.getD i false with
          | true => rfl
          | false =>
            exfalso
            have ho : ops[i]? = some ops[i] := Array.getElem?_eq_getElem hlt
            have : i ∈ Region.ready .any ops arr := by
              refine mem_ready.2 ⟨?_, ops[i], ho, fun e he hbd => ?_⟩
              · rw [Array.getD_eq_getD_getElem?] at hb ⊢
                rw [Array.getElem?_eq_getElem (by omega)] at hb ⊢
                simpa using hb
              · have h1 := hback' i _ ho e he hbd
                exact ih2 e.on h1 (by omega)
            rw [hnil] at this; cases this
      · obtain ⟨q1, o, q2, q3⟩ := mem_ready.1 hmem
        have hlt := (Array.getElem?_eq_some_iff.1 q2).1
        have hun : arr[i]? = some false := by
          rw [Array.getD_eq_getD_getElem?] at q1
          rw [Array.getElem?_eq_getElem (by omega)] at q1 ⊢
          simpa using q1
        have hfalse : arr.getD i false = false := by rw [Array.getD_eq_getD_getElem?, hun]; rfl
        obtain ⟨e, he, hei⟩ := hcov' i hlt
        obtain ⟨_, _, _, _, _, t2, _⟩ := Tr.split tr sE ht e he
        rw [hei, q2] at t2
        have heo : e.o = o := by cases t2; rfl
        have hset := getD_setB arr i
        have := inv_step (P := P) (Q := Q) (K := wpAny P .any ops Q n (arr.setIfInBounds i true)) (S := fun j => arr.getD j false) (S' := fun j => (arr.setIfInBounds i true).getD j false) hE hspc rfl ht hc he (by rw [hei]; exact hfalse) (by rw [heo]; exact q3) hi
          (fun j => by rw [hei]; exact hset j (by omega)) (fun a2 w2 hi2 => ih _ a2 w2 (by simp [hsz]) ?_ ?_ hi2)
        · rw [hei] at this; exact this
        · have h1 := unl_set arr.toList i (by rw [Array.getElem?_toList]; exact hun)
          have h2 : (arr.setIfInBounds i true).toList = arr.toList.set i true := by simp
          rw [h2]; omega
        · intro j oj hj hS x hx hb
          show (arr.setIfInBounds i true).getD x.on false = true
          have hS' : (arr.setIfInBounds i true).getD j false = true := hS
          rw [hset j (by omega)] at hS'
          rw [hset x.on (by omega)]
          by_cases hji : j = i
          · subst hji
            rw [q2] at hj; cases hj
            rw [q3 x hx hb]; rfl
          · have : (j == i) = false := by simpa using hji
            rw [this, Bool.or_false] at hS'
            have := hc j oj hj hS' x hx hb
            rw [show arr.getD x.on false = true from this]; rfl
  refine key ops.size _ a w1 (by simp) ?_ ?_ ?_
  · have : ∀ n, unl (List.replicate n false) = n := by
      intro n
      induction n with
      | zero => rfl
      | succ n ih => simp [List.replicate_succ, unl, ih]
    simp only [Array.toList_replicate, this]
    exact Nat.le_refl _
  · intro j o hj hS
    exfalso
    have : (Array.replicate ops.size false).getD j false = false := by
      rw [Array.getD_eq_getD_getElem?, Array.getElem?_replicate]; split <;> rfl
    rw [show (Array.replicate ops.size false).getD j false = true from hS] at this; cases this
  · have hfalse : ∀ j, (Array.replicate ops.size false).getD j false = false := fun j => by
      rw [Array.getD_eq_getD_getElem?, Array.getElem?_replicate]; split <;> rfl
    have hsw : ∀ (tr : List Ent) t, swS s (fun j => (Array.replicate ops.size false).getD j false) tr t = lookA s.sl t := fun tr t => by
      induction tr with
      | nil => rfl
      | cons e tr ih => simp only [swS, hfalse, Bool.false_eq_true, false_and, if_false] at ih ⊢; exact ih
    have hhw : ∀ (tr : List Ent) id, hwS s (fun j => (Array.replicate ops.size false).getD j false) tr id = lookA s.hp id := fun tr id => by
      induction tr with
      | nil => rfl
      | cons e tr ih => simp only [hwS, hfalse, Bool.false_eq_true, if_false] at ih ⊢; exact ih
    refine ⟨φ, { s with nx := sE.nx }, rfl, rfl, fun t => (hsw tr t).symm, fun id => (hhw tr id).symm, ⟨hr.sz, hr.df, fun j v hj => ev1.V (hr.sl j v hj), hh1.ob, (hh1.le d2).fr, hh1.dj⟩, ev1, fun id hid => .inl ?_⟩
    rcases Nat.lt_or_ge id s.nx with q | q
    · exact q
    · exact absurd (hr.fr id q) hid
end
end Go.VM
set_option autoImplicit false
set_option linter.all false
namespace Go.VM
open Go Go.Lib

/-! ### 1. New numbers for objects -/
def posOf (r : Nat) : List Nat → Nat → Option Nat
  | [], _ => none
  | x :: l, i => if Nat.beq x r then some i else posOf r l (i + 1)

/-- Those in R become n, n + 1, ..; those below n stay. -/
def renId (n : Nat) (R : List Nat) (id : Nat) : Option Nat := match posOf id R n with
  | some j => some j
  | none => if Nat.blt id n then some id else none

def renIds (n : Nat) (R : List Nat) : List Nat → Option (List Nat)
  | [] => some []
  | id :: l => match renId n R id, renIds n R l with
    | some j, some m => some (j :: m)
    | _, _ => none

def renC (n : Nat) (R : List Nat) : C → Option C
  | .own id l => match renId n R id with
    | some j => some (.own j l)
    | none => none
  | .ptr id o => match renId n R id with
    | some j => some (.ptr j o)
    | none => none
  | .elp id i o => match renId n R id with
    | some j => some (.elp j i o)
    | none => none
  | .map id => match renId n R id with
    | some j => some (.map j)
    | none => none
  | .fn f caps => match renIds n R caps with
    | some l => some (.fn f l)
    | none => none
  | .selfp id => match renId n R id with
    | some j => some (.selfp j)
    | none => none
  | .bool b => some (.sym b)
  | c => some c

def renCs (n : Nat) (R : List Nat) : List C → Option (List C)
  | [] => some []
  | c :: l => match renC n R c, renCs n R l with
    | some j, some m => some (j :: m)
    | _, _ => none

def renV (n : Nat) (R : List Nat) : V → Option V
  | .c c => match renC n R c with
    | some c => some (.c c)
    | none => none
  | .agg l => match renCs n R l with
    | some l => some (.agg l)
    | none => none
  | .ipt l => match renCs n R l with
    | some l => some (.ipt l)
    | none => none
  | .tup _ => none

def renPs (n : Nat) (R : List Nat) : List (C × C) → Option (List (C × C))
  | [] => some []
  | (a, b) :: l => match renC n R b, renPs n R l with
    | some j, some m => some ((a, j) :: m)
    | _, _ => none

def keyC : C → Bool
  | .int _ _ | .str _ => true
  | _ => false

def renO (n : Nat) (R : List Nat) : Ob → Option Ob
  | .box t cs => match renCs n R cs with
    | some cs => some (.box t cs)
    | none => none
  | .rowf t e l j cs => match renCs n R cs with
    | some cs => some (.rowf t e l j cs)
    | none => none
  | .mapc l => if l.all (fun p => keyC p.1) then match renPs n R l with
    | some l => some (.mapc l)
    | none => none
    else none
  | o => some o

section
variable {φ φ' : Phi} {ok ok' : Nat → Prop} {w : World} {n : Nat} {R : List Nat}

/-- Where things lie, told anew. -/
def phiRen (φ : Phi) (n : Nat) (R : List Nat) : Phi := fun id => if id < n then φ id else match R[id - n]? with
  | some r => φ r
  | none => none

theorem posOf_ok (r : Nat) : ∀ (l : List Nat) (i j : Nat), posOf r l i = some j → i ≤ j ∧ l[j - i]? = some r
  | [], _, _, h => by cases h
  | x :: l, i, j, h => by
    unfold posOf at h
    split at h
    · rename_i e
      cases h
      have := beq_eq e
      subst this
      exact ⟨Nat.le_refl _, by simp⟩
    · obtain ⟨h1, h2⟩ := posOf_ok r l (i + 1) j h
      refine ⟨by omega, ?_⟩
      rw [show j - i = (j - (i + 1)) + 1 by omega, List.getElem?_cons_succ]
      exact h2

theorem renId_phi {id j : Nat} (h : renId n R id = some j) : phiRen φ n R j = φ id := by
  unfold renId at h
  unfold phiRen
  split at h
  · rename_i k hk
    cases h
    obtain ⟨h1, h2⟩ := posOf_ok id R n j hk
    rw [if_neg (by omega), h2]
  · split at h
    · rename_i hlt
      cases h
      have : id < n := Nat.le_of_ble_eq_true hlt
      rw [if_pos this]
    · cases h

/-- Different ids stay different. -/
theorem renId_inj {i j k : Nat} (hi : renId n R i = some k) (hj : renId n R j = some k) : i = j := by
  unfold renId at hi hj
  split at hi
  · rename_i a ha
    cases hi
    obtain ⟨h1, h2⟩ := posOf_ok i R n k ha
    split at hj
    · rename_i b hb
      cases hj
      obtain ⟨_, h3⟩ := posOf_ok j R n k hb
      rw [h2] at h3; cases h3; rfl
    · split at hj
      · rename_i hlt
        have : j < n := Nat.le_of_ble_eq_true hlt
        cases hj
        omega
      · cases hj
  · split at hi
    · rename_i hlt
      have hl : i < n := Nat.le_of_ble_eq_true hlt
      cases hi
      split at hj
      · rename_i b hb
        cases hj
        obtain ⟨h1, _⟩ := posOf_ok j R n i hb
        omega
      · split at hj
        · cases hj; rfl
        · cases hj
    · cases hi

variable (hok : ∀ b, ok b → ok' b)
include hok

theorem renK (t : Ty) (x : t.D) (vs : List Value) (h : K ok w t x vs) : K ok' w t x vs := K_mono (fun b hb _ => ⟨rfl, hok b hb⟩) t x vs h

theorem renIds_ok : ∀ (l m : List Nat) (vs : List Value), renIds n R l = some m → L2 (fun id u => isPtr φ id 0 u) l vs → L2 (fun id u => isPtr (phiRen φ n R) id 0 u) m vs
  | [], m, [], h, _ => by cases h; exact trivial
  | id :: l, m, v :: vs, h, hl => by
    unfold renIds at h
    split at h
    · rename_i j m' h1 h2
      cases h
      obtain ⟨b, sz, cap, nn, g1, g2⟩ := hl.1
      exact ⟨⟨b, sz, cap, nn, by rw [renId_phi h1]; exact g1, g2⟩, renIds_ok l m' vs h2 hl.2⟩
    · cases h
  | [], _, _ :: _, _, hl | _ :: _, _, [], _, hl => hl.elim

theorem renC_ok {c c' : C} {v : Value} (h : renC n R c = some c') (hv : Crel φ ok w c v) : Crel (phiRen φ n R) ok' w c' v := by
  cases c <;> simp only [renC] at h
  case own id l =>
    split at h
    · rename_i j hj
      cases h
      rcases hv with ⟨h1, h2⟩ | ⟨b, sz, cap, nn, h1, h2⟩
      · exact .inl ⟨by rw [renId_phi hj]; exact h1, h2⟩
      · exact .inr ⟨b, sz, cap, nn, by rw [renId_phi hj]; exact h1, h2⟩
    · cases h
  case ptr id o =>
    split at h
    · rename_i j hj
      cases h
      obtain ⟨b, sz, cap, nn, h1, h2⟩ := hv
      exact ⟨b, sz, cap, nn, by rw [renId_phi hj]; exact h1, h2⟩
    · cases h
  case selfp id =>
    split at h
    · rename_i j hj
      cases h
      rcases hv with h1 | ⟨b, sz, cap, nn, h1, h2⟩
      · exact .inl h1
      · exact .inr ⟨b, sz, cap, nn, by rw [renId_phi hj]; exact h1, h2⟩
    · cases h
  case elp id i o =>
    split at h
    · rename_i j hj
      cases h
      obtain ⟨b, sz, cap, nn, h1, h2⟩ := hv
      exact ⟨b, sz, cap, nn, by rw [renId_phi hj]; exact h1, h2⟩
    · cases h
  case map id =>
    split at h
    · rename_i j hj
      cases h
      obtain ⟨b, sz, cap, nn, h1, h2⟩ := hv
      exact ⟨b, sz, cap, nn, by rw [renId_phi hj]; exact h1, h2⟩
    · cases h
  case fn f caps =>
    split at h
    · rename_i l hl
      cases h
      obtain ⟨vs, h1, h2⟩ := hv
      exact ⟨vs, h1, renIds_ok hok caps l vs hl h2⟩
    · cases h
  case bool b => cases h; exact hv
  case sl e l => cases h; exact renK hok (.sl e) l _ hv
  all_goals (cases h; exact hv)

theorem renCs_ok : ∀ (l m : List C) (vs : List Value), renCs n R l = some m → L2 (Crel φ ok w) l vs → L2 (Crel (phiRen φ n R) ok' w) m vs
  | [], m, [], h, _ => by cases h; exact trivial
  | c :: l, m, v :: vs, h, hl => by
    unfold renCs at h
    split at h
    · rename_i j m' h1 h2
      cases h
      exact ⟨renC_ok hok h1 hl.1, renCs_ok l m' vs h2 hl.2⟩
    · cases h
  | [], _, _ :: _, _, hl | _ :: _, _, [], _, hl => hl.elim

theorem renCs_len : ∀ (l m : List C), renCs n R l = some m → m.length = l.length
  | [], m, h => by cases h; rfl
  | c :: l, m, h => by
    unfold renCs at h
    split at h
    · rename_i j m' h1 h2
      cases h
      simp [renCs_len l m' h2]
    · cases h

theorem renV_ok {x x' : V} {v : Value} (h : renV n R x = some x') (hv : Vrel φ ok w x v) : Vrel (phiRen φ n R) ok' w x' v := by
  cases x <;> simp only [renV] at h
  case c c =>
    split at h
    · rename_i c' hc
      cases h
      exact renC_ok hok hc hv
    · cases h
  case agg l =>
    split at h
    · rename_i l' hl
      cases h
      obtain ⟨vs, h1, h2⟩ := hv
      exact ⟨vs, h1, renCs_ok hok l l' vs hl h2⟩
    · cases h
  case ipt l =>
    split at h
    · rename_i l' hl
      cases h
      obtain ⟨ad, vs, h1, h2, h3⟩ := hv
      exact ⟨ad, vs, h1, renCs_ok hok l l' vs hl h2, fun i u hu => ⟨hok _ (h3 i u hu).1, (h3 i u hu).2⟩⟩
    · cases h
  case tup => cases h

theorem renPs_ok : ∀ (l m : List (C × C)) (es : List MapEntry), renPs n R l = some m → l.all (fun p => keyC p.1) = true → L2 (fun (x : C × C) (e : MapEntry) => Crel φ ok w x.1 e.key ∧ Crel φ ok w x.2 e.val) l es →
    L2 (fun (x : C × C) (e : MapEntry) => Crel (phiRen φ n R) ok' w x.1 e.key ∧ Crel (phiRen φ n R) ok' w x.2 e.val) m es
  | [], m, [], h, _, _ => by cases h; exact trivial
  | (a, b) :: l, m, v :: vs, h, hk, hl => by
    simp only [List.all_cons, Bool.and_eq_true] at hk
    unfold renPs at h
    split at h
    · rename_i j m' h1 h2
      cases h
      refine ⟨⟨?_, renC_ok hok h1 hl.1.2⟩, renPs_ok l m' vs h2 hk.2 hl.2⟩
      have h3 := hl.1.1
      have h4 := hk.1
      cases a <;> simp only [keyC, Bool.false_eq_true] at h4 <;> exact h3
    · cases h
  | [], _, _ :: _, _, _, hl | _ :: _, _, [], _, _, hl => hl.elim

theorem renO_ok {id j : Nat} (hj : renId n R id = some j) {o o' : Ob} (h : renO n R o = some o') (hv : Orel φ ok w id o) : Orel (phiRen φ n R) ok' w j o' := by
  have hφ := renId_phi (φ := φ) hj
  cases o <;> simp only [renO] at h
  case box t cs =>
    split at h
    · rename_i l' hl
      cases h
      obtain ⟨b, vs, h1, h2, h3⟩ := hv
      exact ⟨b, vs, by rw [hφ]; exact h1, h2, renCs_ok hok cs l' vs hl h3⟩
    · cases h
  case row t e l =>
    cases h
    rcases hv with ⟨h1, h2⟩ | ⟨b, cap, arr, h1, h2, h3, h4, h5⟩
    · exact .inl ⟨by rw [hφ]; exact h1, h2⟩
    · refine .inr ⟨b, cap, arr, by rw [hφ]; exact h1, h2, h3, h4, fun q x hx => ?_⟩
      obtain ⟨vs, q1, q2⟩ := h5 q x hx
      exact ⟨vs, renK hok _ _ _ q1, q2⟩
  case rowf t e l q cs =>
    split at h
    · rename_i l' hl
      cases h
      obtain ⟨b, cap, arr, h1, h2, h3, h4, h5, h6, h7, vs, h8, h9⟩ := hv
      refine ⟨b, cap, arr, by rw [hφ]; exact h1, h2, h3, h4, fun q' x hne hx => ?_, h6, by rw [renCs_len hok cs l' hl]; exact h7, vs, renCs_ok hok cs l' vs hl h8, h9⟩
      obtain ⟨vs, q1, q2⟩ := h5 q' x hne hx
      exact ⟨vs, renK hok _ _ _ q1, q2⟩
    · cases h
  case map k v l =>
    cases h
    obtain ⟨b, es, clock, h1, h2, h3⟩ := hv
    exact ⟨b, es, clock, by rw [hφ]; exact h1, h2, L2_mono (fun _ _ hh => ⟨renK hok _ _ _ hh.1, renK hok _ _ _ hh.2⟩) h3⟩
  case mapc l =>
    split at h
    · rename_i hk
      split at h
      · rename_i l' hl
        cases h
        obtain ⟨b, es, clock, h1, h2, h3⟩ := hv
        exact ⟨b, es, clock, by rw [hφ]; exact h1, h2, renPs_ok hok l l' es.toList hl hk h3⟩
      · cases h
    · cases h
  case amb =>
    cases h
    obtain ⟨S, w0, h1, h2⟩ := hv
    exact ⟨S, w0, by rw [hφ]; exact h1, h2⟩
end

/-! ### 2. States -/
def normSl (n : Nat) (R : List Nat) (sl : List (Nat × V)) : List Nat → Option (List (Nat × V))
  | [] => some []
  | j :: js => match lookA sl j with
    | some v => match renV n R v, normSl n R sl js with
      | some v, some l => some ((j, v) :: l)
      | _, _ => none
    | none => none

def insId (x : Nat × Ob) : Hp → Hp
  | [] => [x]
  | y :: l => if Nat.ble x.1 y.1 then x :: y :: l else y :: insId x l

def normHp (n : Nat) (R : List Nat) (hp : Hp) : Hp → Hp
  | [] => []
  | (id, _) :: l => match renId n R id, lookA hp id with
    | some j, some o => match renO n R o with
      | some o => insId (j, o) (normHp n R hp l)
      | none => normHp n R hp l
    | _, _ => normHp n R hp l

def norm (n : Nat) (js R : List Nat) (s : St) : Option St := match normSl n R s.sl js with
  | some sl => some { n := s.n, sl := sl, hp := normHp n R s.hp s.hp, nx := n + R.length }
  | none => none

theorem mem_insId (x y : Nat × Ob) : ∀ l : Hp, y ∈ insId x l → y = x ∨ y ∈ l
  | [], h => by simp [insId] at h; exact .inl h
  | z :: l, h => by
    unfold insId at h
    split at h
    · simpa using h
    · rcases List.mem_cons.1 h with h | h
      · exact .inr (by simp [h])
      · rcases mem_insId x y l h with h | h
        · exact .inl h
        · exact .inr (by simp [h])

theorem mem_normHp (n : Nat) (R : List Nat) (hp : Hp) (y : Nat × Ob) : ∀ l : Hp, y ∈ normHp n R hp l → ∃ id o, lookA hp id = some o ∧ renId n R id = some y.1 ∧ renO n R o = some y.2
  | [], h => by cases h
  | (id, o) :: l, h => by
    unfold normHp at h
    split at h
    · rename_i j o1 h1 h2
      split at h
      · rename_i o2 h3
        rcases mem_insId _ _ _ h with rfl | h
        · exact ⟨id, o1, h2, h1, h3⟩
        · exact mem_normHp n R hp y l h
      · exact mem_normHp n R hp y l h
    · exact mem_normHp n R hp y l h

theorem look_mem {α : Type} {x : α} {i : Nat} : ∀ l : List (Nat × α), lookA l i = some x → (i, x) ∈ l
  | [], h => by cases h
  | (k, v) :: l, h => by
    simp only [lookA, ifb] at h
    split at h
    · rename_i e; subst e; cases h; simp
    · simp [look_mem l h]

theorem look_normSl (n : Nat) (R : List Nat) (sl : List (Nat × V)) : ∀ (js : List Nat) (out : List (Nat × V)), normSl n R sl js = some out → ∀ j v, lookA out j = some v → ∃ v0, lookA sl j = some v0 ∧ renV n R v0 = some v
  | [], out, h, j, v, hv => by cases h; cases hv
  | i :: js, out, h, j, v, hv => by
    unfold normSl at h
    split at h
    · rename_i v0 h0
      split at h
      · rename_i v1 l h1 h2
        cases h
        simp only [lookA, ifb] at hv
        split at hv
        · rename_i e; subst e; cases hv; exact ⟨v0, h0, h1⟩
        · exact look_normSl n R sl js l h2 j v hv
      · cases h
    · cases h

/-- A state's normal form says as much. -/
theorem norm_ok {φ : Phi} {s s' : St} {a : Act} {w : World} {n : Nat} {js R : List Nat} (h : norm n js R s = some s') (hr : Rel φ s a w) :
    Rel (phiRen φ n R) s' a w ∧ s'.n = s.n ∧ ∀ φ0 hp0 w0, (∀ id, n ≤ id → φ0 id = none) → Evo φ0 hp0 w0 φ s.hp w → Evo φ0 hp0 w0 (phiRen φ n R) s'.hp w := by
  unfold norm at h
  split at h
  · rename_i sl hsl
    cases h
    have hob : ∀ j o', lookA (normHp n R s.hp s.hp) j = some o' → ∃ id o, lookA s.hp id = some o ∧ renId n R id = some j ∧ renO n R o = some o' := fun j o' hj => mem_normHp n R s.hp (j, o') s.hp (look_mem _ hj)
    have hok : ∀ b, okb φ s.hp b → okb (phiRen φ n R) (normHp n R s.hp s.hp) b := fun b hb j o' p h1 h2 h3 => by
      obtain ⟨id, o, g1, g2, g3⟩ := hob j o' h1
      rw [renId_phi g2] at h2
      exact hb id o p g1 h2 h3
    refine ⟨⟨hr.sz, hr.df, fun j v hv => ?_, fun j o' hj => ?_, fun id hid => ?_, fun i j o o' p q b h1 h2 hne h3 h4 => ?_⟩, rfl, fun φ0 hp0 w0 hfr ev => ?_⟩
    · obtain ⟨v0, g1, g2⟩ := look_normSl n R s.sl js sl hsl j v hv
      exact renV_ok hok g2 (hr.sl j v0 g1)
    · obtain ⟨id, o, g1, g2, g3⟩ := hob j o' hj
      exact renO_ok hok g2 g3 (hr.ob id o g1)
    · show phiRen φ n R id = none
      unfold phiRen
      have hid' : n + R.length ≤ id := hid
      rw [if_neg (by omega), List.getElem?_eq_none (by omega)]
    · obtain ⟨i', o1, g1, g2, g3⟩ := hob i o h1
      obtain ⟨j', o2, k1, k2, k3⟩ := hob j o' h2
      rw [renId_phi g2] at h3
      rw [renId_phi k2] at h4
      refine hr.dj i' j' o1 o2 p q b g1 k1 (fun e => hne ?_) h3 h4
      subst e
      rw [g2] at k2; cases k2; rfl
    · refine ⟨ev.os, ev.tape, ev.output, ev.size, fun id p hp => ?_, fun j o' p b h1 h2 h3 => ?_, ev.bl⟩
      · have hlt : id < n := by
          rcases Nat.lt_or_ge id n with h | h
          · exact h
          · rw [hfr id h] at hp; cases hp
        unfold phiRen
        rw [if_pos hlt]
        exact ev.ph id p hp
      · obtain ⟨id, o, g1, g2, g3⟩ := hob j o' h1
        rw [renId_phi g2] at h2
        exact ev.ow id o p b g1 h2 h3
  · cases h
end Go.VM
set_option autoImplicit false
set_option linter.all false
namespace Go.VM
open Go Go.Lib

/-! ### 1. The generator -/
inductive Ex
  | normal
  | exit (id : Nat)
  | ret

abbrev Kont := Ex → St → VC

/-- A row that is nil becomes an empty row of the call's own: in a slot, or in a cell of the variable that a slot points to. -/
def adopt (s : St) (j : Nat) (i : Option Nat) (et : TypeId) (e : Ty) : Option St := match i with
  | none => match s.look j with
    | .c .nils => some { s with sl := setA s.sl j (.c (.own s.nx 0)), hp := (s.nx, .row et e []) :: s.hp, nx := s.nx + 1 }
    | _ => none
  | some i => match s.look j with
    | .c (.ptr id 0) => match lookA s.hp id with
      | some (.box t cs) => match cs[i]? with
        | some .nils => some { s with hp := setA ((s.nx, .row et e []) :: s.hp) id (.box t (cs.set i (.own s.nx 0))), nx := s.nx + 1 }
        | _ => none
      | _ => none
    | _ => none

def adopts : List (Nat × Option Nat × TypeId × Ty) → St → Option St
  | [], s => some s
  | (j, i, et, e) :: l, s => match adopt s j i et e with
    | some s => adopts l s
    | none => none

/-- What is written at a loop. -/
structure Ann : Type 1 where
  js : List Nat
  ren : St → List Nat
  ad : List (Nat × Option Nat × TypeId × Ty)
  X : Type
  c : St → X → St
  ext : St → X
  I : St → X → Prop
  mu : St → X → Nat

def loopVC (an : Ann) (body : St → Kont → VC) (s : St) (k : Kont) : VC := match adopts an.ad s with
  | none => .bad
  | some s1 => match norm s1.nx an.js (an.ren s1) s1 with
    | none => .bad
    | some n0 => .obl (n0 = an.c n0 (an.ext n0)) (.obl (an.I n0 (an.ext n0)) (.all an.X fun x => .imp (an.I n0 x) (body (an.c n0 x) fun e s2 => match e with
        | .normal => match norm s1.nx an.js (an.ren s2) s2 with
          | some n2 => .ok (n2 = an.c n0 (an.ext n2) ∧ an.I n0 (an.ext n2) ∧ an.mu n0 (an.ext n2) < an.mu n0 x)
          | none => .bad
        | .exit id => k (.exit id) s2
        | .ret => k .ret s2)))

def unroll (body : St → Kont → VC) : Nat → St → Kont → VC
  | 0, _, _ => .bad
  | n + 1, s, k => body s fun e s2 => match e with
    | .normal => unroll body n s2 k
    | .exit id => k (.exit id) s2
    | .ret => k .ret s2

inductive LAnn : Type 1
  | no
  | un (n : Nat)
  | an (a : Ann)

abbrev Plan := List (Nat × List Nat)

/-- A row of one's own is given away: from here on the slot holds a list. -/
def pub1 (L : Lv) (s : St) (j : Nat) : St := match s.look j with
  | .c (.own id n) => match lookA s.hp id with
    | some (.row _ e _) => match viewV L (lookA s.hp) (.sl e) (.c (.own id n)) with
      | some (x, ids) => { s with hp := delAll s.hp ids }.put (some j) (outV (.sl e) x)
      | none => s
    | _ => s
  | _ => s
def pubAll (L : Lv) : List (Nat × List Nat) → St → St
  | [], s => s
  | p :: l, s => pubAll L l (pub1 L s p.1)

def vcgC (L : Lv) (E : Ev) (call : CallG) (spc : Spc) (pl : Nat → Plan) (ann : Nat → LAnn) : Nat → Code → St → Kont → VC
  | _, .skip, s, k => k .normal s
  | _, .region id ops draw, s, k => match draw with
    | true => drawGo L E spc ops (pl id) [] s (k .normal)
    | false => vcgOps L E call ops ops.toList (pubAll L (pl id) s) (k .normal)
  | b, .seq x y, s, k => vcgC L E call spc pl ann b x s fun e s1 => match e with
    | .normal => vcgC L E call spc pl ann b y s1 k
    | .exit id => k (.exit id) s1
    | .ret => k .ret s1
  | b, .cond c x y, s, k => match s.ev c with
    | .c (.bool true) => vcgC L E call spc pl ann b x s k
    | .c (.bool false) => vcgC L E call spc pl ann b y s k
    | .c (.sym q) => .br q (vcgC L E call spc pl ann b x s k) (vcgC L E call spc pl ann b y s k)
    | _ => .bad
  | _, .block id c, s, k => vcgC L E call spc pl ann id c s fun e s1 => match e with
    | .normal => k .normal s1
    | .exit id' => if Nat.beq id' id then k .normal s1 else k (.exit id') s1
    | .ret => k .ret s1
  | b, .loop c, s, k => match ann b with
    | .no => .bad
    | .un n => unroll (vcgC L E call spc pl ann b c) n s k
    | .an a => loopVC a (vcgC L E call spc pl ann b c) s k
  | _, .exit id, s, k => k (.exit id) s
  | _, .label _, s, k => k .normal s
  | _, .ret, s, k => k .ret s
  | _, _, _, _ => .bad

/-! ### 2. Soundness -/
def Ex.to : Ex → Exit
  | .normal => .normal
  | .exit id => .exit id
  | .ret => .ret

def EndsC (φ : Phi) (hp : Hp) (w : World) (n : Nat) (k : Kont) (e : Exit) (a' : Act) (w' : World) : Prop := ∃ x : Ex, x.to = e ∧ Ends φ hp w n (k x) a' w'

/-- The generator is sound at a piece of code. -/
def CodeOk (P : Program) (c : Code) (gen : St → Kont → VC) : Prop := ∀ (φ : Phi) (s : St) (a : Act) (w : World) (k : Kont) (Q : Exit → Act → World → Prop),
  (gen s k).holds → Rel φ s a w → (∀ e a' w', EndsC φ s.hp w s.n k e a' w' → Q e a' w') → c.wp P Q a w

section
variable {P : Program} {E : Ev}

theorem Ends.from {φ φ' : Phi} {hp hp' : Hp} {w w' : World} {n : Nat} {k : St → VC} {a2 : Act} {w2 : World} (ev : Evo φ hp w φ' hp' w') (h : Ends φ' hp' w' n k a2 w2) : Ends φ hp w n k a2 w2 := by
  obtain ⟨φ2, s2, t1, t2, t3, t4⟩ := h
  exact ⟨φ2, s2, t1, ev.trans t2, t3, t4⟩

theorem least (p : Nat → Prop) (h : ∃ n, p n) : ∃ n, p n ∧ ∀ m, p m → n ≤ m := by
  obtain ⟨n, hn⟩ := h
  induction n using Nat.strongRecOn with
  | _ n ih =>
    by_cases hx : ∃ m, m < n ∧ p m
    · obtain ⟨m, h1, h2⟩ := hx; exact ih m h1 h2
    · exact ⟨n, hn, fun m hm => by
        rcases Nat.lt_or_ge m n with h | h
        · exact absurd ⟨m, h, hm⟩ hx
        · exact h⟩

/-- A loop whose measure is of a thing that is told beside. -/
theorem wp_loop_g {c : Code} {Q : Exit → Act → World → Prop} {G : Type} (I : G → Act → World → Prop) (μ : G → Nat) {a : Act} {w : World} (h0 : ∃ g, I g a w)
    (round : ∀ g a w, I g a w → c.wp P (Exit.then (fun a' w' => ∃ g', I g' a' w' ∧ μ g' < μ g) Q) a w) : (Code.loop c).wp P Q a w := by
  have hm : ∀ (a : Act) (w : World), ∃ n, (∃ g, I g a w) → (∃ g, I g a w ∧ μ g = n) ∧ ∀ g, I g a w → n ≤ μ g := by
    intro a w
    by_cases h : ∃ g, I g a w
    · obtain ⟨g, hg⟩ := h
      obtain ⟨n, h1, h2⟩ := least (fun n => ∃ g, I g a w ∧ μ g = n) ⟨μ g, g, hg, rfl⟩
      exact ⟨n, fun _ => ⟨h1, fun g hg => h2 _ ⟨g, hg, rfl⟩⟩⟩
    · exact ⟨0, fun hh => absurd hh h⟩
  refine wp_loop (fun a w => ∃ g, I g a w) (fun a w => Classical.choose (hm a w)) h0 fun a w hI => ?_
  obtain ⟨⟨g, hg, hgn⟩, _⟩ := Classical.choose_spec (hm a w) hI
  refine wp_mono (round g a w hg) fun e a' w' he => ?_
  cases e with
  | normal =>
    obtain ⟨g', h1, h2⟩ := he
    refine ⟨⟨g', h1⟩, ?_⟩
    have := (Classical.choose_spec (hm a' w') ⟨g', h1⟩).2 g' h1
    omega
  | _ => exact he

theorem adopt_ok {φ : Phi} {s s' : St} {a : Act} {w : World} {j : Nat} {i : Option Nat} {et : TypeId} {e : Ty} (h : adopt s j i et e = some s') (hr : Rel φ s a w) :
    ∃ φ', Rel φ' s' a w ∧ Evo φ s.hp w φ' s'.hp w ∧ s'.n = s.n := by
  have hb := Go.RowKit.Below.refl w.heap.size w
  have hpl : ∀ b, Place.nil.S b → w.heap.size ≤ b := fun b hb => hb.elim
  have hn := hr.h.new (Nat.le_refl s.nx) (.row et e []) .nil hb hpl (.inl ⟨phiSet_self _ _ _, rfl⟩)
  have ev := evo_new hr.h (Nat.le_refl s.nx) (.row et e []) .nil hb hpl
  unfold adopt at h
  cases i with
  | none =>
    simp only at h
    split at h
    · rename_i hl
      cases h
      refine ⟨_, ⟨hr.sz, hr.df, fun q v hv => ?_, hn.ob, hn.fr, hn.dj⟩, ev, rfl⟩
      change lookA (setA s.sl j _) q = some v at hv
      rw [lookA_setA] at hv
      split at hv
      · rename_i hq
        cases hv
        subst hq
        have hv := ev_ok hr (.tmp q)
        have hv' : Vrel φ (okb φ s.hp) w (s.look q) (a.tmps.getD q undef) := hv
        rw [hl] at hv'
        exact .inl ⟨phiSet_self _ _ _, rfl, none, hv'⟩
      · exact ev.V (hr.sl q v hv)
    · cases h
  | some i =>
    simp only at h
    split at h
    · rename_i id hl
      split at h
      · rename_i t cs ho
        split at h
        · rename_i hc
          cases h
          have hne : id ≠ s.nx := fun e => by have := hr.h.lt ho; omega
          have ho' : lookA ((s.nx, Ob.row et e []) :: s.hp) id = some (.box t cs) := by
            simp only [lookA, ifb]
            rw [if_neg (fun e => hne e.symm)]; exact ho
          obtain ⟨b, vs, h1, h2, h3⟩ := hn.ob id _ ho'
          have ht : Turned w w b := ⟨rfl, rfl, rfl, rfl, fun _ _ => rfl⟩
          have ev2 := evo_upd (φ := phiSet φ s.nx .nil) ho' h1 (show (Place.at b 1 0 0).S b from rfl) ht [] (.box t (cs.set i (.own s.nx 0)))
          have hu := hn.upd ho' h1 (show (Place.at b 1 0 0).S b from rfl) ht [] (.box t (cs.set i (.own s.nx 0))) (by
            refine ⟨b, vs, h1, h2, ?_⟩
            have h3' := L2_mono (fun _ _ hh => ev2.C hh) h3
            obtain ⟨v, hv1, hv2⟩ := L2_get h3' hc
            have : vs = vs.set i v := by
              refine List.ext_getElem? fun q => ?_
              by_cases hq : i = q
              · subst hq
                rw [List.getElem?_set_self (List.getElem?_eq_some_iff.1 hv1).1]; exact hv1
              · rw [List.getElem?_set_ne hq]
            rw [this]
            exact L2_set (.inl ⟨phiSet_self _ _ _, rfl, none, hv2⟩) i h3')
          refine ⟨_, ⟨hr.sz, hr.df, fun q v hv => (ev.trans ev2).V (hr.sl q v hv), hu.ob, hu.fr, hu.dj⟩, ev.trans ev2, rfl⟩
        · cases h
      · cases h
    · cases h

theorem adopts_ok : ∀ (l : List (Nat × Option Nat × TypeId × Ty)) {φ : Phi} {s s' : St} {a : Act} {w : World}, adopts l s = some s' → Rel φ s a w → ∃ φ', Rel φ' s' a w ∧ Evo φ s.hp w φ' s'.hp w ∧ s'.n = s.n
  | [], φ, s, s', a, w, h, hr => by cases h; exact ⟨φ, hr, Evo.refl _ _ _, rfl⟩
  | (j, i, et, e) :: l, φ, s, s', a, w, h, hr => by
    unfold adopts at h
    split at h
    · rename_i s1 h1
      obtain ⟨φ1, r1, e1, n1⟩ := adopt_ok h1 hr
      obtain ⟨φ2, r2, e2, n2⟩ := adopts_ok l h r1
      exact ⟨φ2, r2, e1.trans e2, n2.trans n1⟩
    · cases h

theorem loop_sound {c : Code} {gen : St → Kont → VC} (an : Ann) (hb : CodeOk P c gen) : CodeOk P (.loop c) (loopVC an gen) := by
  intro φ s a w k Q h hr hQ
  unfold loopVC at h
  split at h
  · exact h.elim
  · rename_i s1 hs1
    obtain ⟨φ1, r1, e1, m1⟩ := adopts_ok an.ad hs1 hr
    have hfr : ∀ id, s1.nx ≤ id → φ id = none := fun id hid => by
      cases hp : φ id with
      | none => rfl
      | some p => have := e1.ph id p hp; rw [r1.fr id hid] at this; cases this
    split at h
    · exact h.elim
    · rename_i n0 hn0
      obtain ⟨h1, h2, h3⟩ := h
      obtain ⟨r0, m0, e0⟩ := norm_ok hn0 r1
      refine wp_loop_g (fun (x : an.X) a' w' => an.I n0 x ∧ ∃ φ', Rel φ' (an.c n0 x) a' w' ∧ Evo φ s.hp w φ' (an.c n0 x).hp w' ∧ (an.c n0 x).n = s.n) (an.mu n0) ⟨an.ext n0, h2, phiRen φ1 s1.nx (an.ren s1), ?_⟩ ?_
      · rw [← h1]; exact ⟨r0, e0 _ _ _ hfr e1, m0.trans m1⟩
      · rintro x a1 w1 ⟨hI, φ', r2, e2, m2⟩
        refine hb φ' (an.c n0 x) a1 w1 _ _ (h3 x hI) r2 ?_
        rintro e a2 w2 ⟨y, rfl, he⟩
        have he' := he.from e2
        rw [m2] at he'
        cases y with
        | normal =>
          obtain ⟨φ3, s3, t1, t2, t3, t4⟩ := he'
          simp only at t4
          split at t4
          · rename_i n2 hn2
            obtain ⟨q1, q2, q3⟩ := t4
            obtain ⟨r4, m4, e4⟩ := norm_ok hn2 t1
            refine ⟨an.ext n2, ⟨q2, phiRen φ3 s1.nx (an.ren s3), ?_⟩, q3⟩
            rw [← q1]; exact ⟨r4, e4 _ _ _ hfr t2, m4.trans t3⟩
          · exact t4.elim
        | exit id => exact hQ _ _ _ ⟨.exit id, rfl, he'⟩
        | ret => exact hQ _ _ _ ⟨.ret, rfl, he'⟩

theorem unroll_sound {c : Code} {gen : St → Kont → VC} (hb : CodeOk P c gen) (n : Nat) : CodeOk P (.loop c) (unroll gen n) := by
  intro φ s a w k Q h hr hQ
  refine wp_loop_g (fun (x : Nat) a' w' => ∃ φ' s', (unroll gen x s' k).holds ∧ Rel φ' s' a' w' ∧ Evo φ s.hp w φ' s'.hp w' ∧ s'.n = s.n) (fun x => x) ⟨n, φ, s, h, hr, Evo.refl _ _ _, rfl⟩ ?_
  rintro x a1 w1 ⟨φ', s', h', r', e', m'⟩
  cases x with
  | zero => exact h'.elim
  | succ x =>
    refine hb φ' s' a1 w1 _ _ h' r' ?_
    rintro e a2 w2 ⟨y, rfl, he⟩
    have he' := he.from e'
    rw [m'] at he'
    cases y with
    | normal =>
      obtain ⟨φ3, s3, t1, t2, t3, t4⟩ := he'
      exact ⟨x, ⟨φ3, s3, t4, t1, t2, t3⟩, Nat.lt_succ_self _⟩
    | exit id => exact hQ _ _ _ ⟨.exit id, rfl, he'⟩
    | ret => exact hQ _ _ _ ⟨.ret, rfl, he'⟩

/-- The plans are right. -/
def plansOk (pl : Nat → Plan) : Code → Bool
  | .region id ops draw => !draw || planOk ops (pl id)
  | .seq x y => plansOk pl x && plansOk pl y
  | .cond _ x y => plansOk pl x && plansOk pl y
  | .block _ c => plansOk pl c
  | .loop c => plansOk pl c
  | _ => true

theorem put_self (a : Act) (j : Nat) : a.put (some j) (a.tmps.getD j undef) = a := by
  show { a with tmps := a.tmps.setIfInBounds j (a.tmps.getD j undef) } = a
  have : a.tmps.setIfInBounds j (a.tmps.getD j undef) = a.tmps := by
    apply Array.ext
    · simp
    · intro i h1 h2
      rw [Array.getElem_setIfInBounds h2]
      split
      · rename_i e; subst e; simp [Array.getD_eq_getD_getElem?, h2]
      · rfl
  rw [this]
theorem pub1_ok {φ : Phi} {s : St} {a : Act} {w : World} (hr : Rel φ s a w) (j : Nat) : Rel φ (pub1 Lv.std s j) a w ∧ Evo φ s.hp w φ (pub1 Lv.std s j).hp w ∧ (pub1 Lv.std s j).n = s.n := by
  unfold pub1
  split
  rotate_left
  · exact ⟨hr, Evo.refl _ _ _, rfl⟩
  rename_i id n hl
  split
  rotate_left
  · exact ⟨hr, Evo.refl _ _ _, rfl⟩
  rename_i t e l ho
  split
  rotate_left
  · exact ⟨hr, Evo.refl _ _ _, rfl⟩
  rename_i x ids hv
  have hh : HRel φ s.hp s.nx w := ⟨hr.ob, hr.fr, hr.dj⟩
  have hs : lookA s.sl j = some (.c (.own id n)) := by
    unfold St.look at hl
    cases h : lookA s.sl j with
    | none => rw [h] at hl; cases hl
    | some y => rw [h] at hl; exact congrArg some hl
  have hK := viewV_ok hh hv (hr.sl j _ hs)
  obtain ⟨q1, q2, q3⟩ := hr.put (delAll s.hp ids) s.nx (hh.delAll ids) (evo_delAll φ w ids s.hp) (some j) (outV (.sl e) x) (a.tmps.getD j undef) (outV_ok hK)
  rw [put_self] at q1
  have q2' : ({ s with hp := delAll s.hp ids }.put (some j) (outV (.sl e) x)).hp = delAll s.hp ids := q2
  exact ⟨q1, by rw [q2']; exact evo_delAll φ w ids s.hp, q3⟩
theorem pubAll_ok {φ : Phi} {a : Act} {w : World} : ∀ (l : List (Nat × List Nat)) (s : St), Rel φ s a w → Rel φ (pubAll Lv.std l s) a w ∧ Evo φ s.hp w φ (pubAll Lv.std l s).hp w ∧ (pubAll Lv.std l s).n = s.n
  | [], s, h => ⟨h, Evo.refl _ _ _, rfl⟩
  | p :: l, s, h => by
    obtain ⟨h1, h2, h3⟩ := pub1_ok h p.1
    obtain ⟨k1, k2, k3⟩ := pubAll_ok l _ h1
    exact ⟨k1, h2.trans k2, k3.trans h3⟩

theorem code_sound {call : CallG} {spc : Spc} {pl : Nat → Plan} (hm : P.follows .mixedOrders = true) (hE : ∀ t i, E t = some i → TIok P t i) (hcall : CallOk P call) (hspc : ∀ g x, spc g = some x → XOk P g x) (ann : Nat → LAnn) : ∀ (c : Code) (b : Nat), plansOk pl c = true → CodeOk P c (vcgC Lv.std E call spc pl ann b c)
  | .skip, b, hp, φ, s, a, w, k, Q, h, hr, hQ => wp_skip (hQ _ _ _ ⟨.normal, rfl, φ, s, hr, Evo.refl _ _ _, rfl, h⟩)
  | .region id ops draw, b, hp, φ, s, a, w, k, Q, h, hr, hQ => by
    unfold vcgC at h
    cases draw
    · obtain ⟨p1, p2, p3⟩ := pubAll_ok (pl id) s hr
      refine wp_region (ops_sound hE hcall ops ops.toList _ (range_get ops) φ _ a w _ h p1 fun a' w' he => hQ _ _ _ ⟨.normal, rfl, ?_⟩)
      have he' := he.from p2
      rw [p3] at he'
      exact he'
    · exact draw_sound hm hE hspc (by simpa [plansOk] using hp) id φ s a w _ Q h hr fun a' w' he => hQ _ _ _ ⟨.normal, rfl, he⟩
  | .seq x y, b, hp, φ, s, a, w, k, Q, h, hr, hQ => by
    unfold vcgC at h
    refine wp_seq (code_sound hm hE hcall hspc ann x b (by simp only [plansOk, Bool.and_eq_true] at hp; exact hp.1) φ s a w _ _ h hr ?_)
    rintro e a1 w1 ⟨z, rfl, he⟩
    cases z with
    | normal =>
      obtain ⟨φ1, s1, t1, t2, t3, t4⟩ := he
      refine code_sound hm hE hcall hspc ann y b (by simp only [plansOk, Bool.and_eq_true] at hp; exact hp.2) φ1 s1 a1 w1 k _ t4 t1 ?_
      rintro e a2 w2 ⟨z, rfl, he2⟩
      have he3 := he2.from t2
      rw [t3] at he3
      exact hQ _ _ _ ⟨z, rfl, he3⟩
    | exit id => exact hQ _ _ _ ⟨.exit id, rfl, he⟩
    | ret => exact hQ _ _ _ ⟨.ret, rfl, he⟩
  | .cond c x y, b, hp, φ, s, a, w, k, Q, h, hr, hQ => by
    unfold vcgC at h
    have hv := ev_ok hr c
    split at h
    · rename_i e; rw [e] at hv
      exact wp_cond_true hv (code_sound hm hE hcall hspc ann x b (by simp only [plansOk, Bool.and_eq_true] at hp; exact hp.1) φ s a w k Q h hr hQ)
    · rename_i e; rw [e] at hv
      exact wp_cond_false hv (code_sound hm hE hcall hspc ann y b (by simp only [plansOk, Bool.and_eq_true] at hp; exact hp.2) φ s a w k Q h hr hQ)
    · rename_i q e; rw [e] at hv
      refine wp_cond_split hv (fun e => ?_) (fun e => ?_)
      · exact code_sound hm hE hcall hspc ann x b (by simp only [plansOk, Bool.and_eq_true] at hp; exact hp.1) φ s a w k Q (h.1 e) hr hQ
      · exact code_sound hm hE hcall hspc ann y b (by simp only [plansOk, Bool.and_eq_true] at hp; exact hp.2) φ s a w k Q (h.2 e) hr hQ
    · exact h.elim
  | .block id c, b, hp, φ, s, a, w, k, Q, h, hr, hQ => by
    unfold vcgC at h
    refine wp_block (code_sound hm hE hcall hspc ann c id hp φ s a w _ _ h hr ?_)
    rintro e a1 w1 ⟨z, rfl, he⟩
    cases z with
    | normal => exact hQ _ _ _ ⟨.normal, rfl, he⟩
    | exit id' =>
      simp only [Ex.to, Exit.inBlock]
      obtain ⟨φ1, s1, t1, t2, t3, t4⟩ := he
      simp only at t4
      rw [ifb] at t4
      by_cases e : id' = id
      · rw [if_pos e] at t4 ⊢
        exact hQ _ _ _ ⟨.normal, rfl, φ1, s1, t1, t2, t3, t4⟩
      · rw [if_neg e] at t4 ⊢
        exact hQ _ _ _ ⟨.exit id', rfl, φ1, s1, t1, t2, t3, t4⟩
    | ret => exact hQ _ _ _ ⟨.ret, rfl, he⟩
  | .loop c, b, hp, φ, s, a, w, k, Q, h, hr, hQ => by
    unfold vcgC at h
    split at h
    · exact h.elim
    · exact unroll_sound (code_sound hm hE hcall hspc ann c b hp) _ φ s a w k Q h hr hQ
    · exact loop_sound _ (code_sound hm hE hcall hspc ann c b hp) φ s a w k Q h hr hQ
  | .exit id, b, hp, φ, s, a, w, k, Q, h, hr, hQ => wp_exit (hQ _ _ _ ⟨.exit id, rfl, φ, s, hr, Evo.refl _ _ _, rfl, h⟩)
  | .label l, b, hp, φ, s, a, w, k, Q, h, hr, hQ => wp_label (hQ _ _ _ ⟨.normal, rfl, φ, s, hr, Evo.refl _ _ _, rfl, h⟩)
  | .ret, b, hp, φ, s, a, w, k, Q, h, hr, hQ => wp_ret (hQ _ _ _ ⟨.ret, rfl, φ, s, hr, Evo.refl _ _ _, rfl, h⟩)
  | .rangeFunc _ _ _ _, b, hp, φ, s, a, w, k, Q, h, hr, hQ => by unfold vcgC at h; exact h.elim
  | .scope _, b, hp, φ, s, a, w, k, Q, h, hr, hQ => by unfold vcgC at h; exact h.elim
  | .goto _, b, hp, φ, s, a, w, k, Q, h, hr, hQ => by unfold vcgC at h; exact h.elim
  | .refuse _, b, hp, φ, s, a, w, k, Q, h, hr, hQ => by unfold vcgC at h; exact h.elim
end
end Go.VM
set_option autoImplicit false
set_option linter.all false
namespace Go.VM
open Go Go.Lib

/-! ### 3. Calls -/
structure FnD : Type 1 where
  code : Code
  ntmps : Nat
  res : List ResultVar
  pl : Nat → Plan
  ann : Nat → LAnn

inductive FT : Type 1
  | no
  | spec (s : Spec)
  | ext (x : XOp)
  | inl (d : FnD)

def argSl : Nat → List V → List (Nat × V)
  | _, [] => []
  | i, v :: vs => (i, v) :: argSl (i + 1) vs

def mkO (agg : Bool) (cs : List C) : Option V :=
  if agg then some (.agg cs) else match cs with
    | [x] => some (.c x)
    | _ => none

def resV1 (L : Lv) (E : Ev) (s : St) : ResultVar → Option V
  | .tmp t => some (s.look t)
  | .cell a t => match E t, s.look a with
    | some i, .c (.ptr id off) => match lookA s.hp id with
      | some (.box _ cs) => if Nat.ble (off + i.size) cs.length then mkO i.kd.isAgg ((cs.drop off).take i.size) else none
      | _ => none
    | _, _ => none

def resVs (L : Lv) (E : Ev) (s : St) : List ResultVar → Option (List V)
  | [] => some []
  | r :: rs => match resV1 L E s r, resVs L E s rs with
    | some v, some vs => some (v :: vs)
    | _, _ => none

def tupOf : List V → Option (List (Bool × List C))
  | [] => some []
  | .c c :: r => (tupOf r).map ((false, [c]) :: ·)
  | .agg l :: r => (tupOf r).map ((true, l) :: ·)
  | _ => none

def resVC (L : Lv) (E : Ev) (rs : List ResultVar) (s : St) (k : V → VC) : VC := match resVs L E s rs with
  | some [v] => k v
  | some vs => match tupOf vs with
    | some l => k (.tup l)
    | none => .bad
  | none => .bad

def bodyVC (L : Lv) (E : Ev) (call : CallG) (spc : Spc) (d : FnD) (as : List V) (hp : Hp) (nx : Nat) (k : V → Hp → Nat → VC) : VC :=
  vcgC L E call spc d.pl d.ann 0 d.code { n := as.length + (d.ntmps - as.length), sl := argSl 0 as, hp := hp, nx := nx } fun e s => match e with
    | .exit _ => .bad
    | .normal => resVC L E d.res s fun v => k v s.hp s.nx
    | .ret => resVC L E d.res s fun v => k v s.hp s.nx

/-- The contracts of a table. -/
def spcOf (fns : FuncId → FT) : Spc := fun g => match fns g with
  | .spec sp => some sp.x
  | .ext x => some x
  | _ => none

def callG (L : Lv) (E : Ev) (fns : FuncId → FT) : Nat → CallG
  | 0 => fun g as hp nx k => match fns g with
    | .spec sp => specVC L sp as hp nx k
    | .ext x => runX hp nx k (x.fr L (lookA hp) nx as)
    | _ => .bad
  | n + 1 => fun g as hp nx k => match fns g with
    | .spec sp => specVC L sp as hp nx k
    | .ext x => runX hp nx k (x.fr L (lookA hp) nx as)
    | .inl d => bodyVC L E (callG L E fns n) (spcOf fns) d as hp nx k
    | .no => .bad

/-- The condition of a contract. -/
def contractVC (L : Lv) (E : Ev) (call : CallG) (spc : Spc) (d : FnD) (sp : Spec) (x : Ds sp.ins) : VC := bodyVC L E call spc d (outVs sp.ins x) [(0, .amb)] 1 fun v hp _ => match lookA hp 0 with
  | some .amb => match viewR L (lookA hp) sp.outs v with
    | some (y, ids) => if ids.contains 0 then .bad else .ok (y = sp.fn x)
    | none => .bad
  | _ => .bad

/-! ### 4. Soundness -/
def FnOk (P : Program) (g : FuncId) (d : FnD) : Prop := ∃ fn, P.funcs[g]? = some fn ∧ (fn.name == "runtime.NumGoroutine") = false ∧ fn.body = some d.code ∧ fn.ntmps = d.ntmps ∧ fn.results.toList = d.res ∧ plansOk d.pl d.code = true

section
variable {P : Program} {E : Ev} {φ : Phi} {w : World} {hp : Hp} {f : Nat}

theorem FnOk.has {g : FuncId} {d : FnD} (h : FnOk P g d) : Has P g := by
  obtain ⟨fn, h1, h2, h3, _⟩ := h
  exact ⟨fn, h1, h2, by rw [h3]; rfl⟩

end
end Go.VM
set_option autoImplicit false
set_option linter.all false
namespace Go.VM
open Go Go.Lib

section
variable {P : Program} {E : Ev} {φ : Phi} {w : World} {hp : Hp} {f : Nat}

theorem argSl_look : ∀ (vs : List V) (us : List Value) (i : Nat), L2 (Vrel φ (okb φ hp) w) vs us → ∀ j v, lookA (argSl i vs) j = some v → i ≤ j ∧ ∃ u, us[j - i]? = some u ∧ Vrel φ (okb φ hp) w v u
  | [], [], _, _, j, v, h => by cases h
  | x :: vs, u :: us, i, hl, j, v, h => by
    simp only [argSl, lookA, ifb] at h
    split at h
    · rename_i e
      subst e; cases h
      exact ⟨Nat.le_refl _, u, by simp, hl.1⟩
    · obtain ⟨h1, u', h2, h3⟩ := argSl_look vs us (i + 1) hl.2 j v h
      refine ⟨by omega, u', ?_, h3⟩
      rw [show j - i = (j - (i + 1)) + 1 by omega, List.getElem?_cons_succ]; exact h2
  | [], _ :: _, _, hl, _, _, _ | _ :: _, [], _, hl, _, _, _ => hl.elim

theorem start_rel {nx : Nat} (hh : HRel φ hp nx w) {as : List V} {vs : List Value} (hv : L2 (Vrel φ (okb φ hp) w) as vs) (m : Nat) :
    Rel φ { n := as.length + (m - as.length), sl := argSl 0 as, hp := hp, nx := nx } { tmps := vs.toArray ++ Array.replicate (m - vs.toArray.size) undef, defers := [] } w := by
  have hl := L2_len hv
  refine ⟨by simp [hl], rfl, fun j v hj => ?_, hh.ob, hh.fr, hh.dj⟩
  obtain ⟨_, u, h1, h2⟩ := argSl_look as vs 0 hv j v hj
  have hlt := (List.getElem?_eq_some_iff.1 h1).1
  have : (vs.toArray ++ Array.replicate (m - vs.toArray.size) undef).getD j undef = u := by
    rw [Array.getD_eq_getD_getElem?, Array.getElem?_append_left (by simpa using hlt)]
    simp only [Nat.sub_zero] at h1
    simp [h1]
  rw [this]; exact h2

theorem mkO_ok {ok : Nat → Prop} {b : Bool} {cs : List C} {vs : List Value} {x : V} (hl : L2 (Crel φ ok w) cs vs) {v : Value} (h : mkO b cs = some x) (hv : if b then v = .agg vs.toArray else vs = [v]) : Vrel φ ok w x v := by
  unfold mkO at h
  cases b
  · simp only [Bool.false_eq_true, if_false] at hv h
    subst hv
    match cs, hl with
    | [y], hl => cases h; exact hl.1
  · simp only [if_true] at hv h
    cases h
    exact ⟨vs, hv, hl⟩

def resRun (P : Program) (a : Act) : ResultVar → Sem Value
  | .tmp t => pure (a.tmps.getD t undef)
  | .cell c t => do loadVar t (← asAddr (a.tmps.getD c undef))

theorem resV1_ok (hE : ∀ t i, E t = some i → TIok P t i) {s : St} {a : Act} (hr : Rel φ s a w) (r : ResultVar) (x : V) (h : resV1 Lv.std E s r = some x) :
    ∃ v, (resRun P a r).run P w = .ok v w ∧ Vrel φ (okb φ s.hp) w x v := by
  cases r with
  | tmp t =>
    simp only [resV1, Option.some.injEq] at h
    subst h
    exact ⟨_, rfl, ev_ok hr (.tmp t)⟩
  | cell c t =>
    simp only [resV1] at h
    split at h
    · rename_i i id off hi hl
      split at h
      · rename_i tt cs ho
        split at h
        · rename_i hle
          have hle' := Nat.le_of_ble_eq_true hle
          have hv : Vrel φ (okb φ s.hp) w (s.look c) (a.tmps.getD c undef) := ev_ok hr (.tmp c)
          rw [hl] at hv
          obtain ⟨b, sz, cap, nn, g1, g2⟩ := hv
          obtain ⟨b', vs, g3, g4, g5⟩ := hr.ob id _ ho
          rw [g1] at g3; cases g3
          have hlen := L2_len g5
          obtain ⟨u, hu, hc⟩ := run_loadVar (P := P) (w := w) (hE t i hi) ⟨b, off, none⟩ ((vs.drop off).take i.size) (by rw [List.length_take, List.length_drop]; omega) (fun j x hx => by
            rw [add_plain, cell_at g4]
            have := getElem?_drop_take hx
            simpa using this)
          exact ⟨u, by simp [resRun, g2, asAddr, hu], mkO_ok (L2_take i.size (L2_drop off g5)) h hc⟩
        · cases h
      · cases h
    · cases h

theorem resVs_ok (hE : ∀ t i, E t = some i → TIok P t i) {s : St} {a : Act} (hr : Rel φ s a w) : ∀ (rs : List ResultVar) (xs : List V), resVs Lv.std E s rs = some xs →
    ∃ vs, (rs.mapM (resRun P a)).run P w = .ok vs w ∧ L2 (Vrel φ (okb φ s.hp) w) xs vs
  | [], xs, h => by cases h; exact ⟨[], by simp, trivial⟩
  | r :: rs, xs, h => by
    unfold resVs at h
    split at h
    · rename_i v vs h1 h2
      cases h
      obtain ⟨u, q1, q2⟩ := resV1_ok hE hr r v h1
      obtain ⟨us, q3, q4⟩ := resVs_ok hE hr rs vs h2
      exact ⟨u :: us, by simp [q1, q3], q2, q4⟩
    · cases h

theorem tupOf_ok {ok : Nat → Prop} : ∀ (xs : List V) (vs : List Value) (l : List (Bool × List C)), tupOf xs = some l → L2 (Vrel φ ok w) xs vs → L2 (tupRel (Crel φ ok w)) l vs
  | [], [], l, h, _ => by cases h; exact trivial
  | x :: xs, v :: vs, l, h, hl => by
    unfold tupOf at h
    split at h
    · rename_i heq; cases heq
    · rename_i c r heq
      cases heq
      cases hr : tupOf xs with
      | none => rw [hr] at h; cases h
      | some l' =>
        rw [hr] at h; cases h
        exact ⟨⟨c, rfl, hl.1⟩, tupOf_ok xs vs l' hr hl.2⟩
    · rename_i cs r heq
      cases heq
      cases hr : tupOf xs with
      | none => rw [hr] at h; cases h
      | some l' =>
        rw [hr] at h; cases h
        exact ⟨hl.1, tupOf_ok xs vs l' hr hl.2⟩
    · cases h
  | [], _ :: _, _, _, hl | _ :: _, [], _, _, hl => hl.elim

theorem res_sound (hE : ∀ t i, E t = some i → TIok P t i) {s : St} {a : Act} (hr : Rel φ s a w) (fn : Func) (k : V → VC) (h : (resVC Lv.std E fn.results.toList s k).holds) :
    ∃ v x, (results fn a.tmps).run P w = .ok v w ∧ Vrel φ (okb φ s.hp) w x v ∧ (k x).holds := by
  have main : ∀ (xs : List V), resVs Lv.std E s fn.results.toList = some xs → ∃ vs : List Value, L2 (Vrel φ (okb φ s.hp) w) xs vs ∧ (results fn a.tmps).run P w = .ok (if h : vs.toArray.size = 1 then vs.toArray[0] else .tuple vs.toArray) w := by
    intro xs hx
    obtain ⟨vs, q1, q2⟩ := resVs_ok (P := P) hE hr _ xs hx
    refine ⟨vs, q2, ?_⟩
    have e : (results fn a.tmps) = (do
        let vs ← fn.results.mapM (resRun P a)
        pure (if h : vs.size = 1 then vs[0] else .tuple vs)) := by
      unfold results
      congr 1
    rw [e, Array.mapM_eq_mapM_toList]
    simp only [Sem.run_bind, Sem.run_map, q1, Result.andThen_ok, Sem.run_pure]
  unfold resVC at h
  split at h
  · rename_i v hv
    obtain ⟨vs, q1, q2⟩ := main _ hv
    match vs, q1 with
    | [u], q1 => exact ⟨u, v, by rw [q2]; rfl, q1.1, h⟩
    | [], q1 => exact q1.elim
    | _ :: _ :: _, q1 => exact q1.2.elim
  · rename_i xs hne hx
    split at h
    · rename_i l hl
      obtain ⟨vs, q1, q2⟩ := main _ hx
      have hlen := L2_len q1
      have : vs.toArray.size ≠ 1 := by
        rw [List.size_toArray]
        intro e
        match xs, hne, hlen with
        | [x], hne, _ => exact hne x rfl
        | [], _, hlen => simp at hlen; omega
        | _ :: _ :: _, _, hlen => simp at hlen; omega
      refine ⟨.tuple vs.toArray, .tup l, by rw [q2, dif_neg this], ⟨vs, rfl, tupOf_ok xs vs l hl q1⟩, h⟩
    · exact h.elim
  · exact h.elim

theorem body_sound {call : CallG} {spc : Spc} (hm : P.follows .mixedOrders = true) (hE : ∀ t i, E t = some i → TIok P t i) (hcall : CallOk P call) (hspc : ∀ g x, spc g = some x → XOk P g x) {g : FuncId} {d : FnD} (hg : FnOk P g d) {as : List V} {k : V → Hp → Nat → VC} {nx : Nat} {vs : List Value}
    (h : (bodyVC Lv.std E call spc d as hp nx k).holds) (hh : HRel φ hp nx w) (hv : L2 (Vrel φ (okb φ hp) w) as vs) :
    Calls P g vs.toArray w fun e w' => ∃ v, e = .returned v ∧ ∃ φ' hp' nx' x, (k x hp' nx').holds ∧ HRel φ' hp' nx' w' ∧ Evo φ hp w φ' hp' w' ∧ Vrel φ' (okb φ' hp') w' x v := by
  obtain ⟨fn, h1, h2, h3, h4, h5, h6⟩ := hg
  refine calls_of_wp h1 h3 ?_
  rw [h4]
  refine code_sound hm hE hcall hspc d.ann d.code 0 h6 φ _ _ w _ _ h (start_rel hh hv d.ntmps) ?_
  have fin : ∀ (φ' : Phi) (s : St) (a : Act) (w' : World), Rel φ' s a w' → Evo φ hp w φ' s.hp w' → (resVC Lv.std E d.res s fun v => k v s.hp s.nx).holds →
      ∃ v, (results fn a.tmps).run P w' = .ok v w' ∧ ∃ u, Ending.returned v = .returned u ∧ ∃ φ' hp' nx' x, (k x hp' nx').holds ∧ HRel φ' hp' nx' w' ∧ Evo φ hp w φ' hp' w' ∧ Vrel φ' (okb φ' hp') w' x u := by
    intro φ' s a w' hr ev hk
    rw [← h5] at hk
    obtain ⟨v, x, q1, q2, q3⟩ := res_sound hE hr fn _ hk
    exact ⟨v, q1, v, rfl, φ', s.hp, s.nx, x, q3, hr.h, ev, q2⟩
  rintro e a' w' ⟨z, rfl, φ', s', r1, r2, r3, r4⟩
  cases z with
  | normal => exact ⟨r1.df, fin φ' s' a' w' r1 r2 r4⟩
  | ret => exact ⟨r1.df, fin φ' s' a' w' r1 r2 r4⟩
  | exit id => exact r4.elim

/-- What a table of functions must be. -/
def TableOk (P : Program) (fns : FuncId → FT) : Prop := ∀ g, match fns g with
  | .no => True
  | .spec sp => SpecOk P g sp
  | .ext x => XOk P g x
  | .inl d => FnOk P g d

theorem spcOf_ok {fns : FuncId → FT} (ht : TableOk P fns) (g : FuncId) (x : XOp) (h : spcOf fns g = some x) : XOk P g x := by
  have hg := ht g
  unfold spcOf at h
  split at h
  · rename_i sp' e
    rw [e] at hg
    cases h; exact spec_x hg
  · rename_i x' e
    rw [e] at hg
    cases h; exact hg
  · cases h

theorem call_sound (hm : P.follows .mixedOrders = true) (hE : ∀ t i, E t = some i → TIok P t i) {fns : FuncId → FT} (ht : TableOk P fns) : ∀ n, CallOk P (callG Lv.std E fns n)
  | 0 => by
    intro g as hp nx k φ w vs h hh hv
    have hg := ht g
    unfold callG at h
    split at h
    · rename_i sp e
      rw [e] at hg
      exact spec_sound hg h hh hv
    · rename_i x e
      rw [e] at hg
      exact x_sound hg h hh hv
    · exact h.elim
  | n + 1 => by
    intro g as hp nx k φ w vs h hh hv
    have hg := ht g
    unfold callG at h
    split at h
    · rename_i sp e
      rw [e] at hg
      exact spec_sound hg h hh hv
    · rename_i x e
      rw [e] at hg
      exact x_sound hg h hh hv
    · rename_i d e
      rw [e] at hg
      have ih := call_sound hm hE ht n
      exact ⟨FnOk.has hg, body_sound hm hE ih (spcOf_ok ht) hg h hh hv⟩
    · exact h.elim

/-- A contract at one input, from its condition. -/
theorem contract_at {call : CallG} {spc : Spc} (hm : P.follows .mixedOrders = true) (hE : ∀ t i, E t = some i → TIok P t i) (hcall : CallOk P call) (hspc : ∀ g x, spc g = some x → XOk P g x) {g : FuncId} {d : FnD} (hg : FnOk P g d) (sp : Spec)
    (x : Ds sp.ins) (hvc : (contractVC Lv.std E call spc d sp x).holds) (ok : Nat → Prop) (w : World) (vs : List Value) (hG : GlOk ok w) (hx : KVs ok w sp.ins x vs) :
    Calls P g vs.toArray w fun e w' => ∃ v, e = .returned v ∧ Go.RowKit.Below w.heap.size w w' ∧ KR (fun b => ok b ∨ w.heap.size ≤ b) w' sp.outs (sp.fn x) v := by
  let S : Nat → Prop := fun b => b < w.heap.size ∧ ¬ ok b
  let φ : Phi := fun id => if id = 0 then some (.set S w) else none
  have hh : HRel φ [(0, .amb)] 1 w := by
    refine ⟨fun id o ho => ?_, fun id hid => ?_, fun i j o o' p q b h1 h2 hne => ?_⟩
    · simp only [lookA, ifb] at ho
      split at ho
      · rename_i e; subst e; cases ho
        exact ⟨S, w, rfl, ⟨hG.1, fun b hb => ⟨glB_lt hG.1 hb, hG.2 b hb⟩⟩, fun b hb => ⟨hb.1, rfl⟩⟩
      · cases ho
    · show (if id = 0 then _ else none) = none
      rw [if_neg (by omega)]
    · simp only [lookA, ifb] at h1 h2
      split at h1
      · split at h2
        · rename_i e1 e2; exact absurd (e1.symm.trans e2) hne
        · cases h2
      · cases h1
  have hokb : ∀ b, ok b → okb φ [(0, .amb)] b := fun b hb id o p h1 h2 h3 => by
    simp only [lookA, ifb] at h1
    split at h1
    · rename_i e; subst e
      have h2' : some (Place.set S w) = some p := h2
      cases h2'
      exact h3.2 hb
    · cases h1
  have hv : L2 (Vrel φ (okb φ [(0, .amb)]) w) (outVs sp.ins x) vs := outVs_ok _ _ _ (KVs_mono (fun b hb _ => ⟨rfl, hokb b hb⟩) _ _ _ hx)
  refine (body_sound hm hE hcall hspc hg hvc hh hv).mono fun e w' he => ?_
  obtain ⟨v, rfl, φ', hp', nx', y, k1, k2, k3, k4⟩ := he
  refine ⟨v, rfl, ?_⟩
  split at k1
  · rename_i hamb
    split at k1
    · rename_i y' ids hvw
      split at k1
      · exact k1.elim
      · rename_i hnc
        have hy : y' = sp.fn x := k1
        have hn0 : 0 ∉ ids := by simpa using hnc
        have hφ0 : φ' 0 = some (.set S w) := k3.ph 0 _ rfl
        have hR := viewR_ok k2 sp.outs y v y' ids hvw k4
        rw [hy] at hR
        obtain ⟨S', w0, g1, _, g2⟩ := k2.ob 0 _ hamb
        rw [hφ0] at g1; cases g1
        refine ⟨⟨k3.os, k3.tape, k3.output, k3.size, fun b hb => ?_⟩, KR_mono (fun b hb _ => ⟨rfl, ?_⟩) _ _ _ hR⟩
        · by_cases hob : ok b
          · exact k3.bl b hb (hokb b hob)
          · exact (g2 b ⟨hb, hob⟩).2
        · by_cases hlt : b < w.heap.size
          · refine .inl (Classical.byContradiction fun hob => ?_)
            refine hb 0 .amb _ ?_ hφ0 ⟨hlt, hob⟩
            rw [lookA_delAll, if_neg hn0]; exact hamb
          · exact .inr (by omega)
    · exact k1.elim
  · exact k1.elim

/-- A contract, from its condition. -/
theorem contract_sound {call : CallG} {spc : Spc} (hm : P.follows .mixedOrders = true) (hE : ∀ t i, E t = some i → TIok P t i) (hcall : CallOk P call) (hspc : ∀ g x, spc g = some x → XOk P g x) {g : FuncId} {d : FnD} (hg : FnOk P g d) (sp : Spec)
    (h : ∀ x, sp.pre x → (contractVC Lv.std E call spc d sp x).holds) : SpecOk P g sp :=
  ⟨hg.has, fun ok w vs x hG hx hpre => contract_at hm hE hcall hspc hg sp x (h x hpre) ok w vs hG hx⟩

/-- A contract, over a table. -/
theorem contract_ok (hm : P.follows .mixedOrders = true) (hE : ∀ t i, E t = some i → TIok P t i) {fns : FuncId → FT} (ht : TableOk P fns) (n : Nat) {g : FuncId} {d : FnD} (hg : FnOk P g d) (sp : Spec)
    (h : ∀ x, sp.pre x → (contractVC Lv.std E (callG Lv.std E fns n) (spcOf fns) d sp x).holds) : SpecOk P g sp :=
  contract_sound hm hE (call_sound hm hE ht n) (spcOf_ok ht) hg sp h
end
end Go.VM
set_option autoImplicit false
set_option linter.all false
namespace Go.VM
open Go Go.Lib

def zEq : Z → Value → Bool
  | .int k, .int k' n => decide (k = k') && decide (n = 0)
  | .bool, .bool b => !b
  | .str, .string s => decide (s.size = 0)
  | .sl, .slice none 0 0 => true
  | .ptr, .pointer none => true
  | .fn, .nilFunc => true
  | .map, .map none => true
  | .ifc, .nilIface => true
  | .slf, .pointer none => true
  | _, _ => false

theorem zEq_ok {z : Z} {v : Value} (h : zEq z v = true) : v = z.val := by
  unfold zEq at h
  split at h <;> first
    | (simp only [Bool.and_eq_true, decide_eq_true_eq] at h; obtain ⟨rfl, rfl⟩ := h; rfl)
    | (simp only [Bool.not_eq_true'] at h; subst h; rfl)
    | (simp only [decide_eq_true_eq] at h
       rename_i s
       have : s = ByteArray.empty := by
         apply ByteArray.ext
         apply Array.eq_empty_of_size_eq_zero
         exact h
       subst this; rfl)
    | rfl
    | (cases h)

def zEqs : List Z → List Value → Bool
  | [], [] => true
  | z :: zs, v :: vs => zEq z v && zEqs zs vs
  | _, _ => false

theorem zEqs_ok : ∀ (zs : List Z) (vs : List Value), zEqs zs vs = true → vs = zs.map Z.val
  | [], [], _ => rfl
  | z :: zs, v :: vs, h => by
    simp only [zEqs, Bool.and_eq_true] at h
    rw [zEq_ok h.1, zEqs_ok zs vs h.2]; rfl
  | [], _ :: _, h | _ :: _, [], h => by cases h

def isIntU : Option TypeDesc → Bool
  | some (.int _) => true
  | _ => false
theorem isIntU_ok {d : Option TypeDesc} (h : isIntU d = true) : ∃ q, d = some (.int q) := by
  unfold isIntU at h
  split at h
  · exact ⟨_, rfl⟩
  · cases h

def undOk (P : Program) (t : TypeId) (k : Kd) : Bool := match k, P.underlying t with
  | .int k, some (.int k') => decide (k = k')
  | .bool, some .bool => true
  | .str, some .string => true
  | .sl e, some (.slice e') => Nat.beq e e'
  | .st fs, some (.struct a) => decide (a.toList.map (fun f => (f.offset, f.type)) = fs) && a.toList.all (fun f => f.name != "_") && !(P.stoodInHeld t) && !(P.eqGuardType P.depth t)
  | .ptr e, some (.pointer e') => Nat.beq e e'
  | .fn, some (.func _ _ _) => true
  | .map k e, some (.map k' e') => Nat.beq k k' && Nat.beq e e'
  | .arr n e, some (.array n' e') => Nat.beq n n' && Nat.beq e e'
  | .ifc ts, some (.interface _) => ts.all fun x => decide ((P.info? x).map (·.comparable) = some true) && isIntU (P.underlying x)
  | _, _ => false

def tiOk (P : Program) (t : TypeId) (i : TI) : Bool := match P.info? t with
  | some x => Nat.beq x.size i.size && Nat.beq x.bytes i.bytes && (match x.zero with
      | some z => zEqs i.zero z.cells.toList && (i.kd.isAgg || z.oneCell')
      | none => false) && Nat.beq i.zero.length i.size && Nat.blt 0 i.size && (i.kd.isAgg || Nat.beq i.size 1) && undOk P t i.kd
  | none => false

theorem tiOk_ok {P : Program} {t : TypeId} {i : TI} (h : tiOk P t i = true) : TIok P t i := by
  unfold tiOk at h
  split at h
  · rename_i x hx
    simp only [Bool.and_eq_true, Bool.or_eq_true] at h
    obtain ⟨⟨⟨⟨⟨⟨h1, h2⟩, h3⟩, h4⟩, h5⟩, h6⟩, h7⟩ := h
    split at h3
    · rename_i z hz
      simp only [Bool.and_eq_true, Bool.or_eq_true] at h3
      refine ⟨⟨x, hx, beq_eq h1, beq_eq h2, by rw [hz]; simp [zEqs_ok _ _ h3.1]⟩, beq_eq h4, fun ha x' z' hx' hz' => ?_, Nat.le_of_ble_eq_true h5, fun ha => ?_, ?_⟩
      · rw [hx] at hx'; cases hx'
        rw [hz] at hz'; cases hz'
        rcases h3.2 with h | h
        · rw [ha] at h; cases h
        · exact h
      · rcases h6 with h | h
        · rw [ha] at h; cases h
        · exact beq_eq h
      · unfold undOk at h7
        cases hk : i.kd <;> rw [hk] at h7 <;> cases hu : P.underlying t <;> rw [hu] at h7 <;> simp only at h7 ⊢ <;> try (cases h7; done)
        all_goals (rename_i d; cases d <;> simp only at h7 <;> try (cases h7; done))
        all_goals first
          | rfl
          | (have := beq_eq h7; subst this; rfl)
          | (have := of_decide_eq_true h7; subst this; rfl)
          | (simp only [Bool.and_eq_true] at h7; obtain ⟨g1, g2⟩ := h7; have := beq_eq g1; subst this; have := beq_eq g2; subst this; rfl)
          | (exact ⟨_, _, _, rfl⟩)
          | (rw [List.all_eq_true] at h7; exact ⟨_, rfl, fun x hx => by have := h7 x hx; simp only [Bool.and_eq_true] at this; exact ⟨of_decide_eq_true this.1, isIntU_ok this.2⟩⟩)
          | (simp only [Bool.and_eq_true, Bool.not_eq_true'] at h7; exact ⟨_, rfl, of_decide_eq_true h7.1.1.1, h7.1.1.2, h7.1.2, h7.2⟩)
    · cases h3
  · cases h

/-- A table. -/
def tabE (l : List (TypeId × TI)) : Ev := fun t => lookA l t
def tabOk (P : Program) (l : List (TypeId × TI)) : Bool := l.all fun p => tiOk P p.1 p.2
theorem tab_ok {P : Program} {l : List (TypeId × TI)} (h : tabOk P l = true) : ∀ t i, tabE l t = some i → TIok P t i := fun t i hi => tiOk_ok (List.all_eq_true.1 h (t, i) (look_mem l hi))

/-- A table as a tree, so that looking is quick. -/
inductive TT
  | leaf
  | node (l : TT) (k : Nat) (v : TI) (r : TT)

def TT.look : TT → Nat → Option TI
  | .leaf, _ => none
  | .node l k v r, t => match Nat.beq t k with
    | true => some v
    | false => match Nat.blt t k with
      | true => l.look t
      | false => r.look t

def TT.ok (P : Program) : TT → Bool
  | .leaf => true
  | .node l k v r => l.ok P && tiOk P k v && r.ok P

theorem TT.ok_look {P : Program} : ∀ (tt : TT) (t : Nat) (i : TI), tt.ok P = true → tt.look t = some i → TIok P t i
  | .leaf, _, _, _, h => by cases h
  | .node l k v r, t, i, ho, h => by
    simp only [TT.ok, Bool.and_eq_true] at ho
    unfold TT.look at h
    split at h
    · rename_i e
      cases h
      have := beq_eq e
      subst this
      exact tiOk_ok ho.1.2
    · split at h
      · exact TT.ok_look l t i ho.1.1 h
      · exact TT.ok_look r t i ho.2 h
end Go.VM
set_option autoImplicit false
set_option linter.all false
namespace Go.VM
open Go Go.Lib

/-- Kept behind a name, so that nobody evaluates it. -/
structure Holds (v : VC) : Prop where
  h : v.holds
theorem Holds.of_eq {v u : VC} (e : v = u) (h : u.holds) : Holds v := ⟨e ▸ h⟩

/-- A contract, over a table; the annotations, and the table, may depend on the input. -/
theorem contract_by {P : Program} {E : Ev} (hm : P.follows .mixedOrders = true) (hE : ∀ t i, E t = some i → TIok P t i) {g : FuncId} (D : (Nat → LAnn) → FnD) (hg : ∀ ann, FnOk P g (D ann)) (sp : Spec)
    (h : ∀ x, sp.pre x → ∃ (fns : FuncId → FT) (n : Nat) (ann : Nat → LAnn), TableOk P fns ∧ Holds (contractVC Lv.std E (callG Lv.std E fns n) (spcOf fns) (D ann) sp x)) : SpecOk P g sp := by
  refine ⟨(hg fun _ => .no).has, fun ok w vs x hG hx hpre => ?_⟩
  obtain ⟨fns, n, ann, ht, hv⟩ := h x hpre
  exact contract_at hm hE (call_sound hm hE ht n) (spcOf_ok ht) (hg ann) sp x hv.h ok w vs hG hx

/-! ### Annotations -/
def slotI (s : St) (j : Nat) : Int := match s.look j with
  | .c (.int _ n) => n
  | _ => 0
def slotS (s : St) (j : Nat) : ByteArray := match s.look j with
  | .c (.str n) => n
  | _ => ByteArray.empty
def slotB (s : St) (j : Nat) : Bool := match s.look j with
  | .c (.bool n) | .c (.sym n) => n
  | _ => false
def putV (s : St) (j : Nat) (v : V) : St := { s with sl := setA s.sl j v }
def putI (j : Nat) (s : St) (x : Int) : St := { s with sl := setA s.sl j (.c (.int .i64 x)) }

/-- A loop over one integer in a slot. -/
def anI (js : List Nat) (j : Nat) (I : Int → Prop) (mu : Int → Nat) : LAnn :=
  .an { js := js, ren := fun _ => [], ad := [], X := Int, c := putI j, ext := fun s => slotI s j, I := fun _ x => I x, mu := fun _ x => mu x }

/-- What a contract's proof gives at one input. -/
theorem pack {P : Program} {E : Ev} {D : (Nat → LAnn) → FnD} {sp : Spec} {x : Ds sp.ins} (fns : FuncId → FT) (n : Nat) (ann : Nat → LAnn) (ht : TableOk P fns) (h : Holds (contractVC Lv.std E (callG Lv.std E fns n) (spcOf fns) (D ann) sp x)) :
    ∃ (fns : FuncId → FT) (n : Nat) (ann : Nat → LAnn), TableOk P fns ∧ Holds (contractVC Lv.std E (callG Lv.std E fns n) (spcOf fns) (D ann) sp x) := ⟨fns, n, ann, ht, h⟩

/-- What changes in a loop: a slot; a row of the call's own in a slot; one cell of a variable that a slot points to; a row in such a cell. -/
inductive Hv
  | s (j : Nat) (t : Ty)
  | r (j : Nat) (e : Ty)
  | b (j k : Nat) (t : Ty)
  | br (j k : Nat) (e : Ty)
  | m (j : Nat) (k v : Ty)
def Hv.ty : Hv → Ty
  | .s _ t => t
  | .r _ e => .sl e
  | .b _ _ t => t
  | .br _ _ e => .sl e
  | .m _ k v => .sl (.pair k v)
def tysOf : List Hv → List Ty
  | [] => []
  | h :: l => h.ty :: tysOf l
def ptrOf (s : St) (j : Nat) : Nat := match s.look j with
  | .c (.ptr id _) => id
  | .c (.own id _) => id
  | .c (.map id) => id
  | _ => 0
def cellOf (s : St) (j k : Nat) : C := match lookA s.hp (ptrOf s j) with
  | some (.box _ cs) => match cs[k]? with
    | some c => c
    | none => .un
  | _ => .un
def rowPut (L : Lv) (s : St) (id : Nat) (e : Ty) (x : List e.D) : St := match lookA s.hp id with
  | some (.row et _ _) => { s with hp := setA s.hp id (.row et e x) }
  | _ => s
def rowGet (s : St) (id : Nat) (e : Ty) : List e.D := match lookA s.hp id with
  | some (.row _ e' l) => if q : e' = e then castL q l else []
  | _ => []
def cellPut (s : St) (j k : Nat) (c : C) : St := match lookA s.hp (ptrOf s j) with
  | some (.box t cs) => { s with hp := setA s.hp (ptrOf s j) (.box t (cs.set k c)) }
  | _ => s
def mapPut (s : St) (id : Nat) (k v : Ty) (x : List (k.D × v.D)) : St := match lookA s.hp id with
  | some (.map _ _ _) => { s with hp := setA s.hp id (.map k v x) }
  | _ => s
def castM {k k' v v' : Ty} (hk : k' = k) (hv : v' = v) (l : List (k'.D × v'.D)) : List (k.D × v.D) := hv ▸ hk ▸ l
def mapGet (s : St) (id : Nat) (k v : Ty) : List (k.D × v.D) := match lookA s.hp id with
  | some (.map k' v' l) => if q : k' = k then (if r : v' = v then castM q r l else []) else []
  | _ => []
def Hv.put (L : Lv) (s : St) : (h : Hv) → h.ty.D → St
  | .s j t, x => putV s j (outV t x)
  | .r j e, x => putV (rowPut L s (ptrOf s j) e x) j (.c (.own (ptrOf s j) (L.llen e x)))
  | .b j k t, x => match expl t x with
    | [c] => cellPut s j k c
    | _ => s
  | .br j k e, x => match cellOf s j k with
    | .own id _ => cellPut (rowPut L s id e x) j k (.own id (L.llen e x))
    | _ => s
  | .m j k v, x => mapPut s (ptrOf s j) k v x
def viewD (L : Lv) (h : H) (t : Ty) (cs : List C) : t.D := match view L h t cs with
  | some (x, _, _) => x
  | none => t.dflt
def Hv.get (L : Lv) (s : St) : (h : Hv) → h.ty.D
  | .s j t => viewD L (lookA s.hp) t (s.look j).cells
  | .r j e => rowGet s (ptrOf s j) e
  | .b j k t => viewD L (lookA s.hp) t [cellOf s j k]
  | .br j k e => match cellOf s j k with
    | .own id _ => rowGet s id e
    | _ => []
  | .m j k v => mapGet s (ptrOf s j) k v
def Hv.id (s : St) : Hv → List Nat
  | .r j _ => [ptrOf s j]
  | .m j _ _ => [ptrOf s j]
  | .br j k _ => match cellOf s j k with
    | .own id _ => [id]
    | _ => []
  | _ => []
def hvPut (L : Lv) : (l : List Hv) → St → Ds (tysOf l) → St
  | [], s, _ => s
  | h :: l, s, x => hvPut L l (h.put L s x.1) x.2
def hvGet (L : Lv) : (l : List Hv) → St → Ds (tysOf l)
  | [], _ => ()
  | h :: l, s => (h.get L s, hvGet L l s)
def hvIds (s : St) : List Hv → List Nat
  | [] => []
  | h :: l => h.id s ++ hvIds s l
def anH (L : Lv) (js : List Nat) (ad : List (Nat × Option Nat × TypeId × Ty)) (hv : List Hv) (I : Ds (tysOf hv) → Prop) (mu : Ds (tysOf hv) → Nat) : LAnn :=
  .an { js := js, ren := fun s => hvIds s hv, ad := ad, X := Ds (tysOf hv), c := hvPut L hv, ext := hvGet L hv, I := fun _ x => I x, mu := fun _ x => mu x }

/-! ### Conditions, step by step -/
theorem h_ok {p : Prop} (h : p) : (VC.ok p).holds := h
theorem h_br {c : Bool} {t f : VC} (h1 : c = true → t.holds) (h2 : c = false → f.holds) : (VC.br c t f).holds := ⟨h1, h2⟩
theorem h_obl {p : Prop} {k : VC} (h1 : p) (h2 : k.holds) : (VC.obl p k).holds := ⟨h1, h2⟩
theorem h_imp {p : Prop} {k : VC} (h : p → k.holds) : (VC.imp p k).holds := h
theorem h_all {β : Type} {k : β → VC} (h : ∀ x, (k x).holds) : (VC.all β k).holds := h
theorem h_bad (h : False) : VC.bad.holds := h
theorem h_id {v : VC} (h : v.holds) : v.holds := h

/-! ### Leaves in plain words -/
theorem wrap_i64 {x : Int} (h1 : -9223372036854775808 ≤ x) (h2 : x < 9223372036854775808) : IntKind.i64.wrap x = x := by
  unfold IntKind.wrap
  simp only [show IntKind.i64.bits = 64 from rfl, show IntKind.i64.signed = true from rfl, Bool.true_and, decide_eq_true_eq]
  split <;> omega

theorem cmp_lss_t (a b : Int) : (compare .lss a b = true) = (a < b) := by simp [compare]
theorem cmp_lss_f (a b : Int) : (compare .lss a b = false) = (b ≤ a) := by simp [compare]
theorem cmp_leq_t (a b : Int) : (compare .leq a b = true) = (a ≤ b) := by simp [compare]
theorem cmp_leq_f (a b : Int) : (compare .leq a b = false) = (b < a) := by simp [compare]
theorem cmp_gtr_t (a b : Int) : (compare .gtr a b = true) = (b < a) := by simp [compare]
theorem cmp_gtr_f (a b : Int) : (compare .gtr a b = false) = (a ≤ b) := by simp [compare]
theorem cmp_geq_t (a b : Int) : (compare .geq a b = true) = (b ≤ a) := by simp [compare]
theorem cmp_geq_f (a b : Int) : (compare .geq a b = false) = (a < b) := by simp [compare]
theorem cmp_eql_t (a b : Int) : (compare .eql a b = true) = (a = b) := by simp [compare]
theorem cmp_eql_f (a b : Int) : (compare .eql a b = false) = (a ≠ b) := by simp [compare]
theorem cmp_neq_t (a b : Int) : (compare .neq a b = true) = (a ≠ b) := by simp [compare]
theorem cmp_neq_f (a b : Int) : (compare .neq a b = false) = (a = b) := by simp [compare]
theorem ba_ext {a b : ByteArray} (h : a.toList = b.toList) : a = b := by
  rw [ByteArray.toList_eq, ByteArray.toList_eq] at h
  exact ByteArray.ext (Array.ext' h)
theorem scmp_eql_t (a b : ByteArray) : (scompare .eql a b = true) = (a = b) := by
  simp only [scompare, beq_iff_eq, eq_iff_iff]
  exact ⟨ba_ext, fun h => by rw [h]⟩
theorem scmp_eql_f (a b : ByteArray) : (scompare .eql a b = false) = (a ≠ b) := by
  rw [← Bool.not_eq_true, scmp_eql_t]
theorem scmp_neq (a b : ByteArray) : scompare .neq a b = !scompare .eql a b := rfl
theorem scmp_neq_t (a b : ByteArray) : (scompare .neq a b = true) = (a ≠ b) := by
  rw [scmp_neq, Bool.not_eq_true', scmp_eql_f]
theorem scmp_neq_f (a b : ByteArray) : (scompare .neq a b = false) = (a = b) := by
  rw [scmp_neq, Bool.not_eq_false', scmp_eql_t]

theorem std_cmp : Lv.std.cmp = compare := rfl
theorem std_scmp : Lv.std.scmp = scompare := rfl
theorem std_ar_add (k : IntKind) (x y : Int) : Lv.std.ar .add k x y = k.wrap (x + y) := rfl
theorem std_ar_sub (k : IntKind) (x y : Int) : Lv.std.ar .sub k x y = k.wrap (x - y) := rfl
theorem std_ar_mul (k : IntKind) (x y : Int) : Lv.std.ar .mul k x y = k.wrap (x * y) := rfl
theorem std_ar : Lv.std.ar = arith := rfl
theorem std_dv : Lv.std.dv = divide := rfl
theorem std_shf : Lv.std.shf = shift := rfl
theorem std_conv (k : IntKind) (n : Int) : Lv.std.conv k n = k.wrap n := rfl
theorem std_mn (x y : Int) : Lv.std.mn x y = min x y := by
  show (if y < x then y else x) = _
  split <;> omega
theorem std_mx (x y : Int) : Lv.std.mx x y = max x y := by
  show (if y > x then y else x) = _
  split <;> omega
theorem std_beq (a b : Bool) : Lv.std.beq a b = (a == b) := rfl
theorem std_bnot (a : Bool) : Lv.std.bnot a = !a := rfl
theorem std_band (a b : Bool) : Lv.std.band a b = (a && b) := rfl
theorem std_scat (a b : ByteArray) : Lv.std.scat a b = a ++ b := rfl
theorem std_byte : Lv.std.byte = byteAt := rfl
theorem std_ext (s : ByteArray) (a b : Nat) : Lv.std.ext s a b = s.extract a b := rfl
theorem std_slen (s : ByteArray) : Lv.std.slen s = s.size := rfl
theorem std_strOf : Lv.std.strOf = strOfL := rfl
theorem std_bytes : Lv.std.bytes = bytesOf := rfl
theorem std_llen (e : Ty) (l : List e.D) : Lv.std.llen e l = l.length := rfl
theorem std_get (e : Ty) (l : List e.D) (i : Nat) : Lv.std.get e l i = (l[i]?).getD e.dflt := rfl
theorem std_setl (e : Ty) (l : List e.D) (i : Nat) (x : e.D) : Lv.std.setl e l i x = l.set i x := rfl
theorem std_app (e : Ty) (a b : List e.D) : Lv.std.app e a b = a ++ b := rfl
theorem std_take (e : Ty) (l : List e.D) (n : Nat) : Lv.std.take e l n = l.take n := rfl
theorem std_drop (e : Ty) (l : List e.D) (n : Nat) : Lv.std.drop e l n = l.drop n := rfl
theorem std_rep (e : Ty) (n : Nat) (x : e.D) : Lv.std.rep e n x = List.replicate n x := rfl
theorem std_mhas : Lv.std.mhas = mhasL := rfl
theorem std_mval : Lv.std.mval = mvalL := rfl
theorem std_mput : Lv.std.mput = mputL := rfl
theorem std_cast (n : Nat) : Lv.std.cast n = (n : Int) := rfl
theorem std_toN (n : Int) : Lv.std.toN n = n.toNat := rfl
theorem std_sub (a b : Nat) : Lv.std.sub a b = a - b := rfl
theorem std_add (a b : Nat) : Lv.std.add a b = a + b := rfl
theorem std_inR (i : Int) (n : Nat) : Lv.std.inR i n = (0 ≤ i ∧ i < (n : Int)) := rfl
theorem std_le3 (a b : Int) (n : Nat) : Lv.std.le3 a b n = (0 ≤ a ∧ a ≤ b ∧ b ≤ (n : Int)) := rfl
theorem std_leN (a b : Nat) : Lv.std.leN a b = (a ≤ b) := rfl
theorem std_ltN (a b : Nat) : Lv.std.ltN a b = (a < b) := rfl
theorem std_ne0 (y : Int) : Lv.std.ne0 y = (y ≠ 0) := rfl
theorem std_nonneg (y : Int) : Lv.std.nonneg y = (0 ≤ y) := rfl
theorem std_catOk (a b : ByteArray) : Lv.std.catOk a b = (a.size + b.size ≤ 9223372036854775807) := rfl
theorem std_room (n b : Nat) : Lv.std.room n b = (n ≤ 140737488355328 ∧ n * b ≤ 140737488355328) := rfl
theorem std_mkOk (n c : Int) (b : Nat) : Lv.std.mkOk n c b = (0 ≤ n ∧ n ≤ c ∧ c ≤ 140737488355328 ∧ c * b ≤ 140737488355328) := rfl
theorem dflt_int (k : IntKind) : (Ty.int k).dflt = (0 : Int) := rfl
theorem dflt_bool : Ty.bool.dflt = false := rfl
theorem dflt_str : Ty.str.dflt = ByteArray.empty := rfl
theorem dflt_sl (e : Ty) : (Ty.sl e).dflt = ([] : List e.D) := rfl
theorem dflt_pair (a b : Ty) : (Ty.pair a b).dflt = (a.dflt, b.dflt) := rfl
end Go.VM
set_option autoImplicit false
set_option linter.all false
namespace Go.VM
open Go Go.Lib

/-- A function of no argument that makes a new map. -/
def mapX (k v : Ty) (l : List (k.D × v.D)) : XOp where
  fr := fun L h f as => match as with
    | [] => match hasAmb h [] with
      | true => .new (.c (.map f)) [.map k v l] []
      | false => .bad
    | _ => .bad

/-- What its body must come to. -/
def mapVC (L : Lv) (E : Ev) (call : CallG) (spc : Spc) (d : FnD) (k v : Ty) (l : List (k.D × v.D)) : VC := bodyVC L E call spc d [] [(0, .amb)] 1 fun y hp _ => match lookA hp 0, y with
  | some .amb, .c (.map id) => match lookA hp id with
    | some (.map k' v' l') => if q : k' = k then (if r : v' = v then .ok (castM q r l' = l) else .bad) else .bad
    | _ => .bad
  | _, _ => .bad

theorem mapX_ok {P : Program} {E : Ev} (hm : P.follows .mixedOrders = true) (hE : ∀ t i, E t = some i → TIok P t i) {fns : FuncId → FT} (n : Nat) (ht : TableOk P fns) {g : FuncId} {d : FnD} (hg : FnOk P g d)
    (k v : Ty) (l : List (k.D × v.D)) (hk : k.flat = true) (hv : v.flat = true) (h : Holds (mapVC Lv.std E (callG Lv.std E fns n) (spcOf fns) d k v l)) : XOk P g (mapX k v l) where
  has := hg.has
  mono := fun L h h' f as hl => by
    unfold mapX
    simp only
    split
    · cases ha : hasAmb h [] with
      | false => exact .inl rfl
      | true => right; rw [hasAmb_mono hl ha]
    · exact .inl rfl
  num := fun L h f f' as l hl hn => by
    unfold mapX at hl
    simp only at hl
    split at hl
    · split at hl
      · cases hl; cases hn
      · exact hl.elim
    · exact hl.elim
  run := fun φ hp f w as vs l' hh hv' hl => by
    unfold mapX at hl
    simp only at hl
    split at hl
    · split at hl
      rotate_left
      · exact hl.elim
      rename_i hA
      cases hl
      match vs, hv' with
      | [], _ => ?_
      let S : Nat → Prop := fun b => b < w.heap.size
      let φ0 : Phi := fun id => if id = 0 then some (.set S w) else none
      have hG := (hasAmb_ok hh hA).1
      have hh0 : HRel φ0 [(0, .amb)] 1 w := by
        refine ⟨fun id o ho => ?_, fun id hid => ?_, fun i j o o' p q b h1 h2 hne => ?_⟩
        · simp only [lookA, ifb] at ho
          split at ho
          · rename_i e; subst e; cases ho
            exact ⟨S, w, rfl, ⟨hG, fun b hb => glB_lt hG hb⟩, fun b hb => ⟨hb, rfl⟩⟩
          · cases ho
        · show (if id = 0 then _ else none) = none
          rw [if_neg (by omega)]
        · simp only [lookA, ifb] at h1 h2
          split at h1
          · split at h2
            · rename_i e1 e2; exact absurd (e1.symm.trans e2) hne
            · cases h2
          · cases h1
      refine (body_sound hm hE (call_sound hm hE ht n) (spcOf_ok ht) hg (as := []) (vs := []) h.h hh0 trivial).mono fun e w' he => ?_
      obtain ⟨u, rfl, φ', hp', nx', y, k1, k2, k3, k4⟩ := he
      refine ⟨u, rfl, ?_⟩
      split at k1
      · rename_i id hamb
        split at k1
        · rename_i k' v' m hm'
          split at k1
          · rename_i q
            split at k1
            · rename_i r
              subst q r
              have hml : m = l := k1
              subst hml
              have hφ0 : φ' 0 = some (.set S w) := k3.ph 0 _ rfl
              obtain ⟨S', w0, g1, _, g2⟩ := k2.ob 0 _ hamb
              rw [hφ0] at g1; cases g1
              obtain ⟨b, es, clock, o1, o2, o3⟩ := k2.ob id _ hm'
              have hid : id ≠ 0 := fun e => by subst e; rw [hamb] at hm'; cases hm'
              have hbig : w.heap.size ≤ b := by
                refine Classical.byContradiction fun hc => ?_
                exact k2.dj 0 id _ _ _ _ b hamb hm' (fun e => hid e.symm) hφ0 o1 (show b < w.heap.size by omega) rfl
              have hB : Go.RowKit.Below w.heap.size w w' := ⟨k3.os, k3.tape, k3.output, k3.size, fun b hb => (g2 b hb).2⟩
              obtain ⟨b', _, _, _, p1, p2⟩ := k4
              rw [o1] at p1; cases p1
              have hO : Orel (phiSet φ f (.at b 1 0 0)) (okb (phiSet φ f (.at b 1 0 0)) ((f, .map k' v' m) :: hp)) w' f (.map k' v' m) := by
                refine ⟨b, es, clock, by simp [phiSet], o2, L2_mono (fun x e hx => ⟨flat_K _ _ _ hk hx.1, flat_K _ _ _ hv hx.2⟩) o3⟩
              have hn := hh.new (Nat.le_refl f) (.map k' v' m) (.at b 1 0 0) hB (fun c hc => by cases hc; exact hbig) hO
              have hev := evo_new hh (Nat.le_refl f) (.map k' v' m) (.at b 1 0 0) hB (fun c hc => by cases hc; exact hbig)
              refine ⟨_, _, fun i => rfl, hn, hev, ⟨b, 1, 0, 0, by simp [phiSet], p2⟩, fun i hi => ?_⟩
              by_cases hif : i = f
              · exact .inr ⟨rfl, hif⟩
              · refine .inl ?_
                simp only [phiSet, if_neg hif] at hi
                exact hi
            · exact k1.elim
          · exact k1.elim
        · exact k1.elim
      · exact k1.elim
    · exact hl.elim
end Go.VM
set_option autoImplicit false
set_option linter.all false
namespace Go.VM
open Go Go.Lib

/-- What one object has for itself is turned, and the object is given up. -/
theorem kill_turned {φ : Phi} {hp : Hp} {nx : Nat} {w w' : World} (h : HRel φ hp nx w) {g id : Nat} {o : Ob} {p : Place} (ho : lookA hp id = some o) (hpl : φ id = some p) (hS : p.S g) (ht : Turned w w' g) :
    HRel φ (delAll hp [id]) nx w' ∧ Evo φ hp w φ (delAll hp [id]) w' := by
  have ev : Evo φ hp w φ (delAll hp [id]) w' := by
    refine ⟨ht.os, ht.tape, ht.output, Nat.le_of_eq ht.size.symm, fun _ _ h => h, fun i o1 q b h1 h2 h3 => .inr fun hk => ?_, fun b _ hb => ht.bl b fun e => ?_⟩
    · rw [lookA_delAll] at h1
      split at h1
      · cases h1
      · exact hk i o1 q h1 h2 h3
    · subst e; exact hb id o p ho hpl hS
  refine ⟨⟨fun i o1 h1 => ?_, h.fr, fun i j o1 o2 p1 p2 b h1 h2 => ?_⟩, ev⟩
  · rw [lookA_delAll] at h1
    split at h1
    · cases h1
    · rename_i hm
      refine (h.ob i o1 h1).evo ev (fun q b hq hb => ht.bl b fun e => ?_)
      subst e
      exact h.dj i id o1 o q p b h1 ho (fun e => hm (by simp [e])) hq hpl hb hS
  · rw [lookA_delAll] at h1 h2
    split at h1
    · cases h1
    · split at h2
      · cases h2
      · exact h.dj i j o1 o2 p1 p2 b h1 h2

/-! ### copyCheck -/
def ckX (T : TypeId) : XOp where
  fr := fun L h f as => match as with
    | [.c (.ptr id 0)] => match h id with
      | some (.box t [.selfp i, _]) => match Nat.beq t T && Nat.beq i id with
        | true => .v (.tup [])
        | false => .bad
      | _ => .bad
    | _ => .bad

theorem turned_setCell (w : World) (b : Nat) (v : Value) : Turned w (w.setCell ⟨b, 0, none⟩ v) b :=
  ⟨rfl, rfl, rfl, by simp [World.setCell], fun k hk => by simp only [World.setCell, Array.getElem?_modify]; rw [if_neg (fun e => hk e.symm)]⟩

theorem ckX_ok {P : Program} {g : FuncId} {T : TypeId} (hh : Has P g)
    (h1 : ∀ (b : Nat) (w : World), w.cell? ⟨b, 0, none⟩ = some (.pointer (some ⟨b, 0, none⟩)) → Calls P g #[.pointer (some ⟨b, 0, none⟩)] w fun e w' => e = .returned (.tuple #[]) ∧ w' = w)
    (h2 : ∀ (b : Nat) (w : World), w.cell? ⟨b, 0, none⟩ = some (.pointer none) → w.shape? b = some (T, 2) → w.frozen? ⟨b, 0, none⟩ = false →
      Calls P g #[.pointer (some ⟨b, 0, none⟩)] w fun e w' => e = .returned (.tuple #[]) ∧ w' = w.setCell ⟨b, 0, none⟩ (.pointer (some ⟨b, 0, none⟩))) : XOk P g (ckX T) where
  has := hh
  mono := fun L h h' f as hl => by
    unfold ckX
    simp only
    split
    · split
      · rename_i heq
        rw [hl _ _ heq]
        exact .inr rfl
      · exact .inl rfl
    · exact .inl rfl
  num := fun L h f f' as l hl hn => hl
  run := fun φ hp f w as vs l hh hv hl => by
    unfold ckX at hl
    simp only at hl
    split at hl
    rotate_left
    · exact hl.elim
    rename_i id
    split at hl
    rotate_left
    · exact hl.elim
    rename_i t i c1 ho
    split at hl
    rotate_left
    · exact hl.elim
    rename_i hc
    simp only [Bool.and_eq_true] at hc
    have e1 := Nat.eq_of_beq_eq_true hc.1
    have e2 := Nat.eq_of_beq_eq_true hc.2
    subst e1
    have e2' : i = id := e2
    clear hc e2
    obtain ⟨x', hx, rfl⟩ := hl
    match vs, hv with
    | [v], hv => ?_
    obtain ⟨hv, _⟩ := hv
    have hv : isPtr φ id 0 v := hv
    obtain ⟨b, sz, cap, n, hφ, rfl⟩ := hv
    have hob := hh.ob id _ ho
    obtain ⟨b', us, hφ', hbk, hL⟩ := hob
    rw [hφ] at hφ'; cases hφ'
    match us, hL with
    | [v0, v1], hL => ?_
    obtain ⟨g0, g1, _⟩ := hL
    have hblt : b < w.heap.size := by
      rcases Nat.lt_or_ge b w.heap.size with h' | h'
      · exact h'
      · simp [Array.getElem?_eq_none h'] at hbk
    have g0 : v0 = .pointer none ∨ isPtr φ i 0 v0 := g0
    have hcell : w.cell? ⟨b, 0, none⟩ = some v0 := by rw [cell_of_heap hbk]; rfl
    have ht0 : Vrel φ (okb φ hp) w (V.tup []) (.tuple #[]) := ⟨[], rfl, trivial⟩
    rcases g0 with rfl | ⟨b2, _, _, _, hφ2, rfl⟩
    · refine (h2 b w hcell (by simp [World.shape?, hbk]) (frozen_of_heap hbk 0)).mono fun e w' he => ?_
      obtain ⟨rfl, rfl⟩ := he
      refine ⟨_, rfl, φ, _, ?_, hh.upd (kill := []) (o' := .box t [.selfp i, c1]) ho hφ rfl (turned_setCell w b _) ?_, evo_upd ho hφ rfl (turned_setCell w b _) [] _, hx.rel ⟨[], rfl, trivial⟩, fun i hi => .inl hi⟩
      · intro j
        rw [lookA_setA]
        by_cases hj : j = id
        · subst hj; rw [if_pos rfl]; exact ho.symm
        · rw [if_neg hj]; rfl
      · refine ⟨b, [.pointer (some ⟨b, 0, none⟩), v1], hφ, ?_, .inr ⟨b, _, _, _, by rw [e2']; exact hφ, rfl⟩, ?_, trivial⟩
        · simp [World.setCell, Array.getElem?_modify, hbk]
        · exact (evo_upd ho hφ (show Place.S (.at b 1 0 0) b from rfl) (turned_setCell w b _) [] _).C g1
    · rw [e2', hφ] at hφ2; cases hφ2
      refine (h1 b w hcell).mono fun e w' he => ?_
      obtain ⟨rfl, rfl⟩ := he
      exact ⟨_, rfl, φ, hp, fun i => rfl, hh, Evo.refl _ _ _, hx.rel ht0, fun i hi => .inl hi⟩

/-! ### String -/
def sbX (T e : TypeId) : XOp where
  fr := fun L h f as => match as with
    | [.c (.ptr id 0)] => match h id with
      | some (.box t [_, .own r n]) => match Nat.beq t T with
        | true => match h r with
          | some (.row t' (.int .u8) l) => match Nat.beq t' e with
            | true => .o (0 < n ∧ n ≤ 4611686018427387904 ∧ ∀ x ∈ l, 0 ≤ x ∧ x < 256) (.new (.c (.str (L.strOf (L.take (.int .u8) l n)))) [] [r])
            | false => .bad
          | _ => .bad
        | false => .bad
      | some (.box t [_, .nils]) => match Nat.beq t T with
        | true => .v (.c (.str ByteArray.empty))
        | false => .bad
      | _ => .bad
    | _ => .bad

theorem turned_drew_freeze (w : World) (g n : Nat) : Turned w (w.drew.freeze ⟨g, 0, none⟩ n) g := by
  unfold World.freeze
  split
  · exact ⟨rfl, rfl, rfl, rfl, fun _ _ => rfl⟩
  · refine ⟨rfl, rfl, rfl, ?_, fun k hk => ?_⟩
    · show (Array.modify w.heap g _).size = w.heap.size
      simp
    · show (Array.modify w.heap g _)[k]? = w.heap[k]?
      rw [Array.getElem?_modify, if_neg (fun e => hk e.symm)]

theorem u8_back (y : Int) (h0 : 0 ≤ y) (h1 : y < 256) : y = ((UInt8.ofNat y.toNat).toNat : Int) := by
  simp only [UInt8.toNat_ofNat']
  omega

theorem below_drew' (w : World) : Go.RowKit.Below w.heap.size w w.drew := ⟨rfl, rfl, rfl, Nat.le_refl _, fun _ _ => rfl⟩

theorem sbX_ok {P : Program} {g : FuncId} {T e : TypeId} (hh : Has P g)
    (h1 : ∀ (b r cap : Nat) (p : Value) (cur : Array Value) (l : List UInt8) (w : World), w.heap[b]? = some (.cells #[p, .slice (some ⟨r, 0, none⟩) l.length cap] T (0, 0)) → w.heap[r]? = some (.cells cur e (0, 0)) → l ≠ [] → cap ≠ 0 → l.length ≤ cur.size → l.length ≤ 4611686018427387904 →
      (∀ (j : Nat) (x : UInt8), l[j]? = some x → cur[j]? = some (Value.int .u8 x.toNat)) →
      Calls P g #[.pointer (some ⟨b, 0, none⟩)] w fun en w' => en = .returned (.string ⟨l.toArray⟩) ∧ w' = w.drew.freeze ⟨r, 0, none⟩ l.length)
    (h2 : ∀ (b : Nat) (p : Value) (w : World), w.heap[b]? = some (.cells #[p, .slice none 0 0] T (0, 0)) → Calls P g #[.pointer (some ⟨b, 0, none⟩)] w fun en w' => en = .returned (.string ⟨#[]⟩) ∧ w' = w.drew) : XOk P g (sbX T e) where
  has := hh
  mono := fun L h h' f as hl => by
    unfold sbX
    simp only
    split
    · split
      · rename_i heq
        rw [hl _ _ heq]
        simp only
        split
        · split
          · rename_i heq2
            rw [hl _ _ heq2]
            exact .inr rfl
          · exact .inl rfl
        · exact .inr rfl
      · rename_i heq
        rw [hl _ _ heq]
        exact .inr rfl
      · exact .inl rfl
    · exact .inl rfl
  num := fun L h f f' as l hl hn => hl
  run := fun φ hp f w as vs l hh hv hl => by
    unfold sbX at hl
    simp only at hl
    split at hl
    rotate_left
    · exact hl.elim
    rename_i id
    match vs, hv with
    | [v], hv => ?_
    obtain ⟨hv, _⟩ := hv
    have hv : isPtr φ id 0 v := hv
    obtain ⟨b, sz, cap0, n0, hφ, rfl⟩ := hv
    split at hl
    · rename_i t c0 r n ho
      split at hl
      rotate_left
      · exact hl.elim
      rename_i hT
      have e1 := Nat.eq_of_beq_eq_true hT
      subst e1
      split at hl
      rotate_left
      · exact hl.elim
      rename_i t' row hr
      split at hl
      rotate_left
      · exact hl.elim
      rename_i he
      have e1 := Nat.eq_of_beq_eq_true he
      subst e1
      obtain ⟨⟨k1, k2, k3⟩, hl⟩ := hl
      cases hl
      obtain ⟨b', us, hφ', hbk, hL⟩ := hh.ob id _ ho
      rw [hφ] at hφ'; cases hφ'
      match us, hL with
      | [v0, v1], hL => ?_
      obtain ⟨g0, g1, _⟩ := hL
      rcases g1 with ⟨_, hn0, _⟩ | ⟨rb, rsz, rcap, rn, hφr, hle, rfl⟩
      · omega
      rcases hh.ob r _ hr with ⟨h3, _⟩ | ⟨rb', cap', arr, h3, h4, h5, h6, h7⟩
      · rw [hφr] at h3; cases h3
      rw [hφr] at h3; cases h3
      have hlen : (List.take n row).length = n := by rw [List.length_take]; have : n ≤ List.length row := hle; omega
      -- the bytes
      have hL8 : ((List.take n row).map fun x => UInt8.ofNat x.toNat).length = n := by rw [List.length_map, hlen]
      have hcalls := h1 b rb rcap v0 arr ((List.take n row).map fun x => UInt8.ofNat x.toNat) w (by rw [hL8]; exact hbk) h4 (fun e => by rw [e] at hL8; simp at hL8; omega) ?_ ?_ (by rw [hL8]; exact k2) ?_
      · rw [hL8] at hcalls
        refine hcalls.mono fun en w' hen => ?_
        obtain ⟨rfl, rfl⟩ := hen
        obtain ⟨q1, q2⟩ := kill_turned hh hr hφr (show Place.S (.at rb 1 rcap _) rb from rfl) (turned_drew_freeze w rb n)
        exact ⟨_, rfl, φ, _, fun i => rfl, q1, q2, rfl, fun i hi => .inl hi⟩
      · have : n ≤ List.length row := hle
        have h6' : List.length row ≤ rcap := h6
        omega
      · rw [hL8]
        have : n ≤ List.length row := hle
        have h6' : List.length row ≤ rcap := h6
        have h5' : arr.size = rcap * 1 := h5
        omega
      · intro j x hx
        rw [List.getElem?_map, Option.map_eq_some_iff] at hx
        obtain ⟨y, hy, rfl⟩ := hx
        rw [List.getElem?_take] at hy
        split at hy
        · obtain ⟨vs, q1, q2⟩ := h7 j y hy
          have q1 : vs = [.int .u8 y] := q1
          subst q1
          have := q2 0 _ rfl
          have h8 : arr[j * 1 + 0]? = some (Value.int .u8 y) := this
          rw [Nat.mul_one, Nat.add_zero] at h8
          rw [h8]
          obtain ⟨y0, y1⟩ := k3 y (List.mem_of_getElem? hy)
          exact congrArg (fun z => some (Value.int .u8 z)) (u8_back y y0 y1)
        · cases hy
    · rename_i t c0 ho
      split at hl
      rotate_left
      · exact hl.elim
      rename_i hT
      have e1 := Nat.eq_of_beq_eq_true hT
      subst e1
      obtain ⟨x', hx, rfl⟩ := hl
      obtain ⟨b', us, hφ', hbk, hL⟩ := hh.ob id _ ho
      rw [hφ] at hφ'; cases hφ'
      match us, hL with
      | [v0, v1], hL => ?_
      obtain ⟨g0, g1, _⟩ := hL
      obtain rfl : v1 = _ := g1
      refine (h2 b v0 w hbk).mono fun en w' hen => ?_
      obtain ⟨rfl, rfl⟩ := hen
      obtain ⟨q1, q2⟩ := below_h hh (below_drew' w)
      exact ⟨_, rfl, φ, hp, fun i => rfl, q1, q2, hx.rel (show Vrel φ (okb φ hp) w.drew (.c (.str ByteArray.empty)) (.string ⟨#[]⟩) from rfl), fun i hi => .inl hi⟩
    · exact hl.elim

/-! ### a number read, or an error -/
def atoiX (p : ByteArray → Prop) (okf : ByteArray → Bool) (val : ByteArray → Int) : XOp where
  fr := fun L h f as => match as with
    | [.c (.str s)] => match hasAmb h [] with
      | true => .o (p s) (.br (okf s) (.v (.tup [(false, [.int .i64 (val s)]), (false, [.ifn])])) (.v (.tup [(false, [.un]), (false, [.ifo])])))
      | false => .bad
    | _ => .bad

theorem atoiX_ok {P : Program} {g : FuncId} {p : ByteArray → Prop} {okf : ByteArray → Bool} {val : ByteArray → Int} (hh : Has P g)
    (h1 : ∀ (s : ByteArray) (w : World), p s → okf s = true → Calls P g #[.string s] w fun e w' => e = .returned (.tuple #[.int .i64 (val s), .nilIface]) ∧ Go.RowKit.Below w.heap.size w w')
    (h2 : ∀ (s : ByteArray) (w : World), glW w → p s → okf s = false → Calls P g #[.string s] w fun e w' => (∃ n t u, e = .returned (.tuple #[.int .i64 n, .iface t u])) ∧ Go.RowKit.Below w.heap.size w w') : XOk P g (atoiX p okf val) where
  has := hh
  mono := fun L h h' f as hl => by
    unfold atoiX
    simp only
    split
    · cases ha : hasAmb h [] with
      | false => exact .inl rfl
      | true => right; rw [hasAmb_mono hl ha]
    · exact .inl rfl
  num := fun L h f f' as l hl hn => hl
  run := fun φ hp f w as vs l hh hv hl => by
    unfold atoiX at hl
    simp only at hl
    split at hl
    rotate_left
    · exact hl.elim
    rename_i s
    split at hl
    rotate_left
    · exact hl.elim
    rename_i hA
    obtain ⟨hp', hb⟩ := hl
    match vs, hv with
    | [v], hv => ?_
    obtain ⟨hv, _⟩ := hv
    obtain rfl : v = .string s := hv
    cases hc : okf s with
    | true =>
      obtain ⟨x', hx, rfl⟩ := hb.1 hc
      refine (h1 s w hp' hc).mono fun e w' he => ?_
      obtain ⟨rfl, hbel⟩ := he
      obtain ⟨q1, q2⟩ := below_h hh hbel
      refine ⟨_, rfl, φ, hp, fun id => rfl, q1, q2, hx.rel ⟨[_, _], rfl, ?_, ?_, trivial⟩, fun id hid => .inl hid⟩
      · exact ⟨_, rfl, rfl⟩
      · exact ⟨_, rfl, rfl⟩
    | false =>
      obtain ⟨x', hx, rfl⟩ := hb.2 hc
      refine (h2 s w (hasAmb_ok hh hA).1 hp' hc).mono fun e w' he => ?_
      obtain ⟨⟨n, t, u, rfl⟩, hbel⟩ := he
      obtain ⟨q1, q2⟩ := below_h hh hbel
      refine ⟨_, rfl, φ, hp, fun id => rfl, q1, q2, hx.rel ⟨[_, _], rfl, ?_, ?_, trivial⟩, fun id hid => .inl hid⟩
      · exact ⟨_, rfl, trivial⟩
      · exact ⟨_, rfl, t, u, rfl⟩
end Go.VM
set_option autoImplicit false
set_option linter.all false
namespace Go.VM
open Go Go.Lib

def flatC : C → Bool
  | .int _ _ | .bool _ | .sym _ | .str _ | .nils | .nilp | .nilf | .nilm | .ifn | .ife _ _ _ => true
  | _ => false

theorem flatC_rel {φ φ' : Phi} {ok ok' : Nat → Prop} {w w' : World} {c : C} {v : Value} (h : flatC c = true) (hr : Crel φ ok w c v) : Crel φ' ok' w' c v := by
  cases c <;> first | exact hr | cases h

theorem flatC_eq {φ φ' : Phi} {ok ok' : Nat → Prop} {w w' : World} {c : C} {v v' : Value} (h : flatC c = true) (hr : Crel φ ok w c v) (hr' : Crel φ' ok' w' c v') : v' = v := by
  cases c with
  | int k n => obtain rfl : v = _ := hr; exact hr'
  | bool b => obtain rfl : v = _ := hr; exact hr'
  | sym b => obtain rfl : v = _ := hr; exact hr'
  | str s => obtain rfl : v = _ := hr; exact hr'
  | nils => obtain rfl : v = _ := hr; exact hr'
  | nilp => obtain rfl : v = _ := hr; exact hr'
  | nilf => obtain rfl : v = _ := hr; exact hr'
  | nilm => obtain rfl : v = _ := hr; exact hr'
  | ifn => obtain rfl : v = _ := hr; exact hr'
  | ife t k n => obtain rfl : v = _ := hr; exact hr'
  | _ => cases h

theorem flats_eq {φ φ' : Phi} {ok ok' : Nat → Prop} {w w' : World} : ∀ {cs : List C} {vs vs' : List Value}, cs.all flatC = true → L2 (Crel φ ok w) cs vs → L2 (Crel φ' ok' w') cs vs' → vs' = vs
  | [], [], [], _, _, _ => rfl
  | c :: cs, v :: vs, v' :: vs', h, h1, h2 => by
    simp only [List.all_cons, Bool.and_eq_true] at h
    rw [flatC_eq h.1 h1.1 h2.1, flats_eq h.2 h1.2 h2.2]
  | [], _ :: _, _, _, h, _ => h.elim
  | _ :: _, [], _, _, h, _ => h.elim
  | [], [], _ :: _, _, _, h => h.elim
  | _ :: _, _ :: _, [], _, _, h => h.elim

theorem flats_rel {φ φ' : Phi} {ok ok' : Nat → Prop} {w w' : World} : ∀ {cs : List C} {vs : List Value}, cs.all flatC = true → L2 (Crel φ ok w) cs vs → L2 (Crel φ' ok' w') cs vs
  | [], [], _, _ => trivial
  | c :: cs, v :: vs, h, h1 => by
    simp only [List.all_cons, Bool.and_eq_true] at h
    exact ⟨flatC_rel h.1 h1.1, flats_rel h.2 h1.2⟩
  | [], _ :: _, _, h => h.elim
  | _ :: _, [], _, h => h.elim

/-- A closure of one argument, of plain data, that reads one variable of flat cells; its result is flat. -/
structure RdX where
  T : TypeId
  t : Ty
  outs : List Ty
  X : Type
  sel : List C → Option X
  box : X → List C
  pre : Lv → X → t.D → Prop
  fn : Lv → X → t.D → Ds outs

def RdX.x (r : RdX) : XOp where
  fr := fun L h f as => match as with
    | [a, .c (.ptr id 0)] => match h id with
      | some (.box T cs) => match Nat.beq T r.T, r.sel cs with
        | true, some p => match viewV L h r.t a with
          | some (x, []) => match hasAmb h [] with
            | true => .o (r.pre L p x) (.v (outR r.outs (r.fn L p x)))
            | false => .bad
          | _ => .bad
        | _, _ => .bad
      | _ => .bad
    | _ => .bad

def RdX.vc (r : RdX) (L : Lv) (E : Ev) (call : CallG) (spc : Spc) (d : FnD) (p : r.X) (x : r.t.D) : VC :=
  bodyVC L E call spc d [outV r.t x, .c (.ptr 1 0)] [(0, .amb), (1, .box r.T (r.box p))] 2 fun y hp _ => match lookA hp 0, lookA hp 1 with
    | some .amb, some (.box T cs) => match viewR L (lookA hp) r.outs y with
      | some (z, _) => .ok (T = r.T ∧ cs = r.box p ∧ z = r.fn L p x)
      | none => .bad
    | _, _ => .bad

theorem rdX_ok {P : Program} {E : Ev} (hm : P.follows .mixedOrders = true) (hE : ∀ t i, E t = some i → TIok P t i) {fns : FuncId → FT} (n : Nat) (ht : TableOk P fns) {g : FuncId} {d : FnD} (hg : FnOk P g d)
    (r : RdX) (hsel : ∀ cs p, r.sel cs = some p → cs = r.box p) (hflat : ∀ p, (r.box p).all flatC = true) (ho : r.outs.all Ty.flat = true)
    (h : ∀ p x, r.pre Lv.std p x → Holds (r.vc Lv.std E (callG Lv.std E fns n) (spcOf fns) d p x)) : XOk P g r.x where
  has := hg.has
  mono := fun L h h' f as hl => by
    unfold RdX.x
    simp only
    split
    · split
      · rename_i heq
        rw [hl _ _ heq]
        simp only
        split
        · split
          · rename_i heq2
            rw [viewV_mono L hl _ _ _ heq2]
            simp only
            cases ha : hasAmb h [] with
            | false => exact .inl rfl
            | true => right; rw [hasAmb_mono hl ha]
          · exact .inl rfl
        · exact .inl rfl
      · exact .inl rfl
    · exact .inl rfl
  num := fun L h f f' as l hl hn => hl
  run := fun φ hp f w as vs l hh hv hl => by
    unfold RdX.x at hl
    simp only at hl
    split at hl
    rotate_left
    · exact hl.elim
    rename_i a id
    split at hl
    rotate_left
    · exact hl.elim
    rename_i T cs hbx
    split at hl
    rotate_left
    · exact hl.elim
    rename_i p hT hs
    have e1 := Nat.eq_of_beq_eq_true hT
    subst e1
    have e2 := hsel _ _ hs
    subst e2
    split at hl
    rotate_left
    · exact hl.elim
    rename_i x hvw
    split at hl
    rotate_left
    · exact hl.elim
    rename_i hA
    obtain ⟨hpre, x', hx, rfl⟩ := hl
    match vs, hv with
    | [va, vp], hv => ?_
    obtain ⟨hva, hvp, _⟩ := hv
    have hvp : isPtr φ id 0 vp := hvp
    obtain ⟨b, sz, cap, n0, hφ, rfl⟩ := hvp
    obtain ⟨b', us, hφ', hbk, hL⟩ := hh.ob id _ hbx
    rw [hφ] at hφ'; cases hφ'
    have hblt : b < w.heap.size := by
      rcases Nat.lt_or_ge b w.heap.size with h' | h'
      · exact h'
      · simp [Array.getElem?_eq_none h'] at hbk
    have hnb : ¬ okb φ hp b := fun hb => hb id _ _ hbx hφ rfl
    have hG := hasAmb_ok hh hA
    -- the package's blocks are not the variable's
    have hgl : ∀ c, glB c → c ≠ b := fun c hc e => by
      subst e
      unfold hasAmb at hA
      split at hA
      · rename_i h0
        obtain ⟨S0, w0, k1, ⟨_, k2⟩, _⟩ := hh.ob 0 _ h0
        by_cases e0 : id = 0
        · subst e0; rw [h0] at hbx; cases hbx
        · exact hh.dj 0 id _ _ _ _ c h0 hbx (fun e => e0 e.symm) k1 hφ (k2 c hc) rfl
      · cases hA
    let S : Nat → Prop := fun c => c < w.heap.size ∧ ¬ okb φ hp c ∧ c ≠ b
    let φ0 : Phi := fun i => if i = 0 then some (.set S w) else if i = 1 then some (.at b 1 0 0) else none
    let hp0 : Hp := [(0, .amb), (1, .box r.T (r.box p))]
    have look0 : ∀ i o, lookA hp0 i = some o → (i = 0 ∧ o = .amb) ∨ (i = 1 ∧ o = .box r.T (r.box p)) := fun i o hi => by
      simp only [hp0, lookA, ifb] at hi
      split at hi
      · rename_i e; cases hi; exact .inl ⟨e.symm, rfl⟩
      · split at hi
        · rename_i e; cases hi; exact .inr ⟨e.symm, rfl⟩
        · cases hi
    have p0 : φ0 0 = some (.set S w) := rfl
    have p1 : φ0 1 = some (.at b 1 0 0) := rfl
    have hh0 : HRel φ0 hp0 2 w := by
      refine ⟨fun i o hi => ?_, fun i hi => ?_, fun i j o o' q q' c h1 h2 hne h3 h4 h5 => ?_⟩
      · rcases look0 i o hi with ⟨rfl, rfl⟩ | ⟨rfl, rfl⟩
        · exact ⟨S, w, rfl, ⟨hG.1, fun c hc => ⟨glB_lt hG.1 hc, fun hk => hG.2 c hc (by simpa [delAll] using hk), hgl c hc⟩⟩, fun c hc => ⟨hc.1, rfl⟩⟩
        · exact ⟨b, us, rfl, hbk, flats_rel (hflat p) hL⟩
      · show (if i = 0 then _ else if i = 1 then _ else none) = none
        rw [if_neg (by omega), if_neg (by omega)]
      · rcases look0 i o h1 with ⟨rfl, rfl⟩ | ⟨rfl, rfl⟩ <;> rcases look0 j o' h2 with ⟨rfl, rfl⟩ | ⟨rfl, rfl⟩
        · exact absurd rfl hne
        · rw [p0] at h3; rw [p1] at h4; cases h3; cases h4
          exact fun hc => h5.2.2 hc
        · rw [p1] at h3; rw [p0] at h4; cases h3; cases h4
          exact fun hc => hc.2.2 h5
        · exact absurd rfl hne
    have hok0 : ∀ c, okb φ hp c → okb φ0 hp0 c := fun c hc i o q h1 h2 h3 => by
      rcases look0 i o h1 with ⟨rfl, rfl⟩ | ⟨rfl, rfl⟩
      · rw [p0] at h2; cases h2; exact h3.2.1 hc
      · rw [p1] at h2; cases h2
        have : c = b := h3
        subst this; exact hnb hc
    have hva0 : Vrel φ0 (okb φ0 hp0) w (outV r.t x) va := outV_ok (KV_mono (fun c hc _ => ⟨rfl, hok0 c (by simpa [delAll] using hc)⟩) (viewV_ok hh hvw hva))
    refine (body_sound hm hE (call_sound hm hE ht n) (spcOf_ok ht) hg (as := [outV r.t x, .c (.ptr 1 0)]) (vs := [va, .pointer (some ⟨b, 0, none⟩)]) (h p x hpre).h hh0 ⟨hva0, ⟨b, _, _, _, p1, rfl⟩, trivial⟩).mono fun e w' he => ?_
    obtain ⟨u, rfl, φ', hp', nx', y, k1, k2, k3, k4⟩ := he
    refine ⟨u, rfl, ?_⟩
    split at k1
    rotate_left
    · exact k1.elim
    rename_i T1 cs1 h0 h1
    split at k1
    rotate_left
    · exact k1.elim
    rename_i z ids hz
    obtain ⟨rfl, rfl, rfl⟩ := k1
    have q0 := k3.ph 0 _ p0
    have q1 := k3.ph 1 _ p1
    obtain ⟨S', w0, g1, _, g2⟩ := k2.ob 0 _ h0
    rw [q0] at g1; cases g1
    obtain ⟨b1, us1, g3, g4, g5⟩ := k2.ob 1 _ h1
    rw [q1] at g3; cases g3
    have hus := flats_eq (hflat p) hL g5
    subst hus
    have hB : Go.RowKit.Below w.heap.size w w' := by
      refine ⟨k3.os, k3.tape, k3.output, k3.size, fun c hc => ?_⟩
      by_cases hcb : c = b
      · subst hcb; rw [g4, hbk]
      · by_cases hco : okb φ hp c
        · exact k3.bl c hc (hok0 c hco)
        · exact (g2 c ⟨hc, hco, hcb⟩).2
    obtain ⟨r1, r2⟩ := below_h hh hB
    have hR := viewR_ok k2 r.outs y u _ ids hz k4
    exact ⟨φ, hp, fun i => rfl, r1, r2, hx.rel (outR_ok _ _ _ (flat_KR _ _ _ ho hR)), fun i hi => .inl hi⟩
end Go.VM
