/- A condition generator over the model's code, proved sound: what a function's body must come to is told as conditions on plain data. Conditions: none of ours. -/
import Derived.Calls
import Derived.Orders
import Derived.Below
import Derived.Lib.ItoaNum
import Derived.Laws.Sem
import Derived.Laws.Cells
import Derived.Laws.Entries
set_option autoImplicit false
set_option linter.all false
namespace Go.VM
open Go
inductive Ty
 | int (k:IntKind) | bool | str | sl (e:Ty) | pair (a b:Ty) | wrap (a:Ty)
 deriving DecidableEq
@[reducible] def Ty.D:Ty→Type
  | .int _=>Int
  | .bool=>Bool
  | .str=>ByteArray
  | .sl e=>List e.D
  | .pair a b=>a.D × b.D
  | .wrap a=>a.D
def Ty.n:Ty→Nat
 | .pair a b=>a.n + b.n
 | .wrap a=>a.n
 | _=>1
def Ty.dflt:(t:Ty)→t.D
 | .int _=>(0:Int)
 | .bool=>false
 | .str=>ByteArray.empty
 | .sl _=>[]
 | .pair a b=>(a.dflt,b.dflt)
 | .wrap a=>a.dflt
def Ty.agg:Ty→Bool
 | .pair _ _ | .wrap _=>true
 | _=>false
inductive C
 | un
 | sk
 | int (k:IntKind) (n:Int)
 | bool (b:Bool)
 | sym (b:Bool)
 | str (s:ByteArray)
 | sl (e:Ty) (l:List e.D)
 | nils
 | own (id:Nat) (len:Nat)
 | ptr (id:Nat) (off:Nat)
 | elp (id:Nat) (i:Nat) (off:Nat)
 | nilp
 | fn (f:FuncId) (caps:List Nat)
 | nilf
 | map (id:Nat)
 | nilm
 | ifn
 | ife (t:TypeId) (k:IntKind) (n:Int)
 | ifo
 | selfp (id:Nat)
 | owa (id off len:Nat)
 | yld (l:Nat)
inductive V
 | c (x:C)
 | agg (l:List C)
 | tup (l:List (Bool × List C))
 | ipt (l:List C)
def V.cells:V→List C
 | .c x=>[x]
 | .agg l=>l
 | _=>[]
inductive Ob
 | box (t:TypeId) (cs:List C)
 | row (t:TypeId) (e:Ty) (l:List e.D)
 | rowf (t:TypeId) (e:Ty) (l:List e.D) (j:Nat) (cs:List C)
 | map (k v:Ty) (l:List (k.D × v.D))
 | mapc (l:List (C × C))
 | amb
structure St where
 n:Nat
 sl:List (Nat × V)
 hp:List (Nat × Ob)
 nx:Nat
def lookA {α:Type} (l:List (Nat × α)) (j:Nat):Option α :=
 match l with
 | []=>none
 | (k,v) :: r=>if Nat.beq k j then some v else lookA r j
def setA {α:Type} (l:List (Nat × α)) (j:Nat) (x:α):List (Nat × α) :=
 match l with
 | []=>[(j,x)]
 | (k,v) :: r=>if Nat.beq k j then (k,x) :: r else (k,v) :: setA r j x
def delA {α:Type} (l:List (Nat × α)) (j:Nat):List (Nat × α) :=
 match l with
 | []=>[]
 | (k,v) :: r=>if Nat.beq k j then delA r j else (k,v) :: delA r j
def St.look (s:St) (j:Nat):V:=(lookA s.sl j).getD (.c .un)
def St.put (s:St) (d:Option Nat) (v:V):St :=
 match d with
 | some d=>if Nat.blt d s.n then { s with sl:=setA s.sl d v } else s
 | none=>s
theorem ifb {α:Sort _} (k j:Nat) (a b:α):(if Nat.beq k j = true then a else b) = if k = j then a else b:=by
 by_cases h:k = j
 ·simp [h]
 ·rw [if_neg h,if_neg (fun hb=>h (Nat.eq_of_beq_eq_true hb))]
theorem Xa {α:Type} (l:List (Nat × α)) (j:Nat) (x:α) (i:Nat):lookA (setA l j x) i = if i = j then some x else lookA l i:=by
 induction l with
 | nil =>
   simp only [setA,lookA,ifb]
   by_cases h:i = j
   ·subst h; simp
   ·simp [h,Ne.symm h]
 | cons p r ih =>
   obtain ⟨k,v⟩:=p
   simp only [setA,ifb]
   by_cases hk:k = j
   ·subst hk
    simp only [if_true,lookA,ifb]
    by_cases h:k = i
    ·subst h; simp
    ·simp [h,Ne.symm h]
   ·simp only [hk,if_false,lookA,ifb]
    by_cases h:k = i
    ·subst h; simp [hk]
    ·simp [h,ih]
theorem Xx {α:Type} (l:List (Nat × α)) (j i:Nat):lookA (delA l j) i = if i = j then none else lookA l i:=by
 induction l with
 | nil=>simp [delA,lookA]
 | cons p r ih =>
   obtain ⟨k,v⟩:=p
   simp only [delA,ifb]
   by_cases hk:k = j
   ·subst hk
    simp only [if_true,lookA,ifb]
    rw [ih]
    by_cases h:k = i
    ·subst h; simp
    ·simp [h]
   ·simp only [hk,if_false,lookA,ifb]
    by_cases h:k = i
    ·subst h; simp [hk]
    ·simp [h,ih]
inductive VC:Type 1
 | ok (p:Prop)
 | br (c:Bool) (t f:VC)
 | obl (p:Prop) (k:VC)
 | imp (p:Prop) (k:VC)
 | all (β:Type) (k:β→VC)
 | ex (β:Type) (k:β→VC)
 | bad
def VC.holds:VC→Prop
 | .ok p=>p
 | .br c t f=>(c = true→t.holds)∧(c = false→f.holds)
 | .obl p k=>p∧k.holds
 | .imp p k=>p→k.holds
 | .all β k=>∀ b:β,(k b).holds
 | .ex β k=>∃ b:β,(k b).holds
 | .bad=>False
end Go.VM
namespace Go.VM
open Go
def glN:Nat:=0
def glB (_:Nat):Prop:=False
structure glW (w:World):Prop where
 sz:glN≤w.heap.size
theorem Xb {w w':World} (h:∀ b,glB b→w'.heap[b]? = w.heap[b]?) (hs:glN≤w'.heap.size) (hw:glW w):glW w':=⟨hs⟩
theorem glN_le {n:Nat} (h:∀ b,glB b→b < n):glN≤n:=Nat.zero_le n
theorem XD {w:World} (h:glW w) {b:Nat} (hb:glB b):b < w.heap.size:=hb.elim
def Gl (w:World) (S:Nat→Prop):Prop:=glW w∧∀ b,glB b→S b
def GlOk (ok:Nat→Prop) (w:World):Prop:=glW w∧∀ b,glB b→¬ ok b
end Go.VM
namespace Go.VM
open Go
theorem Ty.n_pos:∀ t:Ty,0 < t.n
 | .int _ | .bool | .str | .sl _=>by simp [Ty.n]
 | .pair a b=>by have:=a.n_pos; simp only [Ty.n]; omega
 | .wrap a=>by have:=a.n_pos; simp only [Ty.n]; omega
def K (ok:Nat→Prop) (w:World):(t:Ty)→t.D→List Value→Prop
 | .int k,x,cs=>cs = [.int k x]
 | .bool,x,cs=>cs = [.bool x]
 | .str,x,cs=>cs = [.string x]
 | .sl e,l,cs=>∃ A c,cs = [.slice A (List.length (α:=e.D) l) c]∧List.length (α:=e.D) l≤c ∧
   (0 < List.length (α:=e.D) l→∃ ad:Addr,A = some ad∧ok ad.block∧∀ j (x:e.D),l[j]? = some x→∃ vs,K ok w e x vs∧∀ i u,vs[i]? = some u→w.cell? (ad.add (j * e.n + i)) = some u)
 | .pair a b,x,cs=>∃ c1 c2,cs = c1 ++ c2∧K ok w a x.1 c1∧K ok w b x.2 c2
 | .wrap a,x,cs=>K ok w a x cs
theorem Xz {ok:Nat→Prop} {w:World}:∀ (t:Ty) (x:t.D) (cs:List Value),K ok w t x cs→cs.length = t.n
 | .int _,_,_,h | .bool,_,_,h | .str,_,_,h=>by simp only [K] at h; subst h; rfl
 | .sl _,_,_,h=>by obtain ⟨A,c,rfl,_⟩:=h; rfl
 | .pair a b,x,cs,h=>by
   obtain ⟨c1,c2,rfl,h1,h2⟩:=h
   rw [List.length_append,Xz a _ _ h1,Xz b _ _ h2]; rfl
 | .wrap a,x,cs,h=>Xz a x cs h
theorem Xe {w:World} {a:Addr} {i:Nat} {v:Value} (h:w.cell? (a.add i) = some v):a.block < w.heap.size:=by
 have:(a.add i).block = a.block:=by unfold Addr.add; split <;> rfl
 rw [← this]; exact World.block_lt_of_cell? w _ h
theorem Xc (a:Addr) (i:Nat):(a.add i).block = a.block:=by unfold Addr.add; split <;> rfl
theorem YI {ok ok':Nat→Prop} {w w':World} (h:∀ b,ok b→b < w.heap.size→w'.heap[b]? = w.heap[b]?∧ok' b) :
  ∀ (t:Ty) (x:t.D) (cs:List Value),K ok w t x cs→K ok' w' t x cs
 | .int _,_,_,h1 | .bool,_,_,h1 | .str,_,_,h1=>h1
 | .sl e,l,cs,h1=>by
   obtain ⟨A,c,rfl,hc,h2⟩:=h1
   refine ⟨A,c,rfl,hc,fun hn=>?_⟩
   obtain ⟨ad,rfl,hok,hj⟩:=h2 hn
   have hb:ad.block < w.heap.size:=by
    obtain ⟨x,hx⟩:∃ x,l[0]? = some x:=⟨l[0],by simp⟩
    obtain ⟨vs,hk,hv⟩:=hj 0 x hx
    have hl:=Xz e x vs hk
    have hp:=e.n_pos
    exact Xe (hv 0 (vs[0]'(by omega)) (by simp))
   refine ⟨ad,rfl,(h _ hok hb).2,fun j x hx=>?_⟩
   obtain ⟨vs,hk,hv⟩:=hj j x hx
   refine ⟨vs,YI h e x vs hk,fun i u hu=>?_⟩
   rw [World.cell?_of_block (w:=w)]
   ·exact hv i u hu
   ·rw [Xc]; exact (h _ hok hb).1
 | .pair a b,x,cs,h1=>by
   obtain ⟨c1,c2,rfl,h2,h3⟩:=h1
   exact ⟨c1,c2,rfl,YI h a _ _ h2,YI h b _ _ h3⟩
 | .wrap a,x,cs,h1=>YI h a x cs h1
def L2 {α β:Type} (R:α→β→Prop):List α→List β→Prop
 | [],[]=>True
 | a :: as,b :: bs=>R a b∧L2 R as bs
 | _,_=>False
theorem Yo {α β:Type} {R R':α→β→Prop} (h:∀ a b,R a b→R' a b):∀ {l:List α} {m:List β},L2 R l m→L2 R' l m
 | [],[],_=>trivial
 | _ :: _,_ :: _,h1=>⟨h _ _ h1.1,Yo h h1.2⟩
 | [],_ :: _,h1 | _ :: _,[],h1=>h1.elim
theorem YW {α β:Type} {R:α→β→Prop}:∀ {l:List α} {m:List β},L2 R l m→l.length = m.length
 | [],[],_=>rfl
 | _ :: _,_ :: _,h1=>by simp [YW h1.2]
 | [],_ :: _,h1 | _ :: _,[],h1=>h1.elim
theorem L2_get {α β:Type} {R:α→β→Prop}:∀ {l:List α} {m:List β} (_:L2 R l m) {i:Nat} {a:α},l[i]? = some a→∃ b,m[i]? = some b∧R a b
 | [],[],_,i,a,h=>by simp at h
 | x :: l,y :: m,h1,0,a,h=>by simp at h; subst h; exact ⟨y,rfl,h1.1⟩
 | x :: l,y :: m,h1,i + 1,a,h=>by simp at h; obtain ⟨b,hb,hr⟩:=L2_get h1.2 h; exact ⟨b,by simpa using hb,hr⟩
 | [],_ :: _,h1,_,_,_ | _ :: _,[],h1,_,_,_=>h1.elim
theorem YA {α β:Type} {R:α→β→Prop}:∀ {l l':List α} {m m':List β},L2 R l m→L2 R l' m'→L2 R (l ++ l') (m ++ m')
 | [],_,[],_,_,h=>h
 | _ :: _,_,_ :: _,_,h1,h=>⟨h1.1,YA h1.2 h⟩
 | [],_,_ :: _,_,h1,_ | _ :: _,_,[],_,h1,_=>h1.elim
theorem Xs {α β:Type} {R:α→β→Prop}:∀ {l:List α} {m:List β} (n:Nat),L2 R l m→L2 R (l.drop n) (m.drop n)
 | _,_,0,h=>h
 | [],[],_ + 1,_=>trivial
 | _ :: _,_ :: _,n + 1,h=>by simpa using Xs n h.2
 | [],_ :: _,_,h | _ :: _,[],_,h=>h.elim
theorem Xr {α β:Type} {R:α→β→Prop}:∀ {l:List α} {m:List β} (n:Nat),L2 R l m→L2 R (l.take n) (m.take n)
 | _,_,0,_=>trivial
 | [],[],_ + 1,_=>trivial
 | _ :: _,_ :: _,n + 1,h=>⟨h.1,Xr n h.2⟩
 | [],_ :: _,_,h | _ :: _,[],_,h=>h.elim
theorem L2_set {α β:Type} {R:α→β→Prop} {a:α} {b:β} (hr:R a b):∀ {l:List α} {m:List β} (n:Nat),L2 R l m→L2 R (l.set n a) (m.set n b)
 | [],[],_,_=>trivial
 | _ :: _,_ :: _,0,h=>⟨hr,h.2⟩
 | _ :: _,_ :: _,n + 1,h=>⟨h.1,L2_set hr n h.2⟩
 | [],_ :: _,_,h | _ :: _,[],_,h=>h.elim
inductive Place
 | nil
 | at (b sz cap len:Nat)
 | set (S:Nat→Prop) (w:World)
def Place.S:Place→Nat→Prop
 | .nil,_=>False
 | .at b _ _ _,x=>x = b
 | .set S _,x=>S x
abbrev Phi:=Nat→Option Place
abbrev Hp:=List (Nat × Ob)
def okb (φ:Phi) (hp:Hp) (b:Nat):Prop:=∀ id o p,lookA hp id = some o→φ id = some p→¬ p.S b
def isPtr (φ:Phi) (id off:Nat) (v:Value):Prop:=∃ b sz cap n,φ id = some (.at b sz cap n)∧v = .pointer (some ⟨b,off,none⟩)
def Crel (φ:Phi) (ok:Nat→Prop) (w:World):C→Value→Prop
 | .un,_=>True
 | .sk,v=>v = undef
 | .int k n,v=>v = .int k n
 | .bool b,v | .sym b,v=>v = .bool b
 | .str s,v=>v = .string s
 | .sl e l,v=>K ok w (.sl e) l [v]
 | .nils,v=>v = .slice none 0 0
 | .own id len,v=>(φ id = some .nil∧len = 0∧∃ A,v = .slice A 0 0)∨∃ b sz cap n,φ id = some (.at b sz cap n)∧len≤n∧v = .slice (some ⟨b,0,none⟩) len cap
 | .ptr id off,v=>isPtr φ id off v
 | .elp id i off,v=>∃ b sz cap n,φ id = some (.at b sz cap n)∧v = .pointer (some ⟨b,i * sz + off,none⟩)
 | .nilp,v=>v = .pointer none
 | .fn f caps,v=>∃ vs,v = .func (.func f) #[] (List.toArray vs)∧L2 (fun id u=>isPtr φ id 0 u) caps vs
 | .nilf,v=>v = .nilFunc
 | .map id,v=>∃ b sz cap n,φ id = some (.at b sz cap n)∧v = .map (some b)
 | .nilm,v=>v = .map none
 | .ifn,v=>v = .nilIface
 | .ife t k n,v=>v = .iface t (.int k n)
 | .ifo,v=>∃ t u,v = .iface t u
 | .selfp id,v=>v = .pointer none∨isPtr φ id 0 v
 | .owa id off len,v=>(len = 0∧∃ A c,v = .slice A 0 c)∨∃ b sz cap n,φ id = some (.at b sz cap n)∧off + len≤n∧v = .slice (some ⟨b,off * sz,none⟩) len (cap - off)
 | .yld l,v=>v = .func (.yield l) #[] #[]
def tupRel (R:C→Value→Prop) (x:Bool × List C) (v:Value):Prop :=
 if x.1 then ∃ vs,v = .agg (List.toArray vs)∧L2 R x.2 vs else ∃ c,x.2 = [c]∧R c v
def Vrel (φ:Phi) (ok:Nat→Prop) (w:World):V→Value→Prop
 | .c x,v=>Crel φ ok w x v
 | .agg l,v=>∃ vs,v = .agg (List.toArray vs)∧L2 (Crel φ ok w) l vs
 | .tup l,v=>∃ vs,v = .tuple (List.toArray vs)∧L2 (tupRel (Crel φ ok w)) l vs
 | .ipt l,v=>∃ ad vs,v = .pointer (some ad)∧L2 (Crel φ ok w) l vs∧∀ i u,vs[i]? = some u→ok ad.block∧w.cell? (ad.add i) = some u
def Orel (φ:Phi) (ok:Nat→Prop) (w:World) (id:Nat):Ob→Prop
 | .box t cs=>∃ b vs,φ id = some (.at b 1 0 0)∧w.heap[b]? = some (.cells (List.toArray vs) t (0,0))∧L2 (Crel φ ok w) cs vs
 | .row t e l=>(φ id = some .nil∧l = [])∨∃ b cap arr,φ id = some (.at b e.n cap (List.length (α:=e.D) l))∧w.heap[b]? = some (.cells arr t (0,0))∧arr.size = cap * e.n∧List.length (α:=e.D) l≤cap ∧
   ∀ j (x:e.D),l[j]? = some x→∃ vs,K ok w e x vs∧∀ i u,vs[i]? = some u→arr[j * e.n + i]? = some u
 | .rowf t e l j cs=>∃ b cap arr,φ id = some (.at b e.n cap (List.length (α:=e.D) l))∧w.heap[b]? = some (.cells arr t (0,0))∧arr.size = cap * e.n∧List.length (α:=e.D) l≤cap ∧
   (∀ q (x:e.D),q ≠ j→l[q]? = some x→∃ vs,K ok w e x vs∧∀ i u,vs[i]? = some u→arr[q * e.n + i]? = some u) ∧
   j < List.length (α:=e.D) l∧cs.length = e.n∧∃ vs,L2 (Crel φ ok w) cs vs∧∀ i u,vs[i]? = some u→arr[j * e.n + i]? = some u
 | .map k v l=>∃ b es clock,φ id = some (.at b 1 0 0)∧w.heap[b]? = some (.map es clock)∧L2 (fun (x:k.D × v.D) (e:MapEntry)=>K ok w k x.1 [e.key]∧K ok w v x.2 [e.val]) l es.toList
 | .mapc l=>∃ b es clock,φ id = some (.at b 1 0 0)∧w.heap[b]? = some (.map es clock)∧L2 (fun (x:C × C) (e:MapEntry)=>Crel φ ok w x.1 e.key∧Crel φ ok w x.2 e.val) l es.toList
 | .amb=>∃ S w0,φ id = some (.set S w0)∧Gl w0 S∧∀ b,S b→b < w.heap.size∧w.heap[b]? = w0.heap[b]?
def mkD (D:Nat):Deferred:={ target:=.collected D,args:=#[] }
def Dfs (B:Nat × Bool) (ok:Nat→Prop) (w:World) (ds:List Deferred):Prop:=∃ l:List Nat,ds = l.map mkD∧l.Nodup∧(B.2 = false→l = [])∧∀ D ∈ l,B.1≤D∧w.heap[D]? = some (.deferred (some []))∧ok D
structure Rel (B:Nat × Bool) (φ:Phi) (st:St) (a:Act) (w:World):Prop where
 sz:a.tmps.size = st.n
 bs:B.1≤w.heap.size
 df:Dfs B (okb φ st.hp) w a.defers
 sl:∀ j v,lookA st.sl j = some v→Vrel φ (okb φ st.hp) w v (a.tmps.getD j undef)
 ob:∀ id o,lookA st.hp id = some o→Orel φ (okb φ st.hp) w id o
 fr:∀ id,st.nx≤id→φ id = none
 dj:∀ i j o o' p q b,lookA st.hp i = some o→lookA st.hp j = some o'→i ≠ j→φ i = some p→φ j = some q→p.S b→¬ q.S b
structure Evo (φ:Phi) (hp:Hp) (w:World) (φ':Phi) (hp':Hp) (w':World):Prop where
 os:w'.os = w.os
 tape:w'.tape = w.tape
 output:w'.output = w.output
 size:w.heap.size≤w'.heap.size
 ph:∀ id p,φ id = some p→φ' id = some p
 ow:∀ id o p b,lookA hp' id = some o→φ' id = some p→p.S b→w.heap.size≤b∨¬ okb φ hp b
 bl:∀ b,b < w.heap.size→okb φ hp b→w'.heap[b]? = w.heap[b]?
section
variable {φ φ' φ'':Phi} {hp hp' hp'':Hp} {w w' w'':World}
theorem Evo.refl (φ:Phi) (hp:Hp) (w:World):Evo φ hp w φ hp w :=
 ⟨rfl,rfl,rfl,Nat.le_refl _,fun _ _ h=>h,fun id o p b h1 h2 h3=>.inr (fun h=>h id o p h1 h2 h3),fun _ _ _=>rfl⟩
theorem Evo.ok (h:Evo φ hp w φ' hp' w') {b:Nat} (hb:okb φ hp b) (hl:b < w.heap.size):okb φ' hp' b:=fun id o p h1 h2 h3=>by
 rcases h.ow id o p b h1 h2 h3 with h4 | h4
 ·omega
 ·exact h4 hb
theorem Evo.trans (h:Evo φ hp w φ' hp' w') (k:Evo φ' hp' w' φ'' hp'' w''):Evo φ hp w φ'' hp'' w'' where
 os:=k.os.trans h.os
 tape:=k.tape.trans h.tape
 output:=k.output.trans h.output
 size:=Nat.le_trans h.size k.size
 ph:=fun id p hp=>k.ph id p (h.ph id p hp)
 ow:=fun id o p b h1 h2 h3=>by
  rcases k.ow id o p b h1 h2 h3 with h4 | h4
  ·exact .inl (Nat.le_trans h.size h4)
  ·by_cases hl:w.heap.size≤b
   ·exact .inl hl
   ·exact .inr fun hb=>h4 (h.ok hb (by omega))
 bl:=fun b hl hb=>(k.bl b (Nat.lt_of_lt_of_le hl h.size) (h.ok hb hl)).trans (h.bl b hl hb)
theorem Evo.K (h:Evo φ hp w φ' hp' w') (t:Ty) (x:t.D) (cs:List Value) (hk:K (okb φ hp) w t x cs):K (okb φ' hp') w' t x cs :=
 YI (fun b hb hl=>⟨h.bl b hl hb,h.ok hb hl⟩) t x cs hk
theorem isPtr_evo (h:∀ id p,φ id = some p→φ' id = some p) {id off:Nat} {v:Value} (hp:isPtr φ id off v):isPtr φ' id off v:=by
 obtain ⟨b,sz,cap,n,h1,h2⟩:=hp; exact ⟨b,sz,cap,n,h _ _ h1,h2⟩
theorem Evo.C (h:Evo φ hp w φ' hp' w') {x:C} {v:Value} (hc:Crel φ (okb φ hp) w x v):Crel φ' (okb φ' hp') w' x v:=by
 cases x with
 | sl e l=>exact h.K _ _ _ hc
 | own id len =>
   rcases hc with ⟨h1,h2,h3⟩ | ⟨b,sz,cap,n,h1,h2⟩
   ·exact .inl ⟨h.ph _ _ h1,h2,h3⟩
   ·exact .inr ⟨b,sz,cap,n,h.ph _ _ h1,h2⟩
 | ptr id off=>exact isPtr_evo h.ph hc
 | selfp id=>exact hc.imp (fun h=>h) (fun hc=>isPtr_evo h.ph hc)
 | owa id off len =>
   rcases hc with h1 | ⟨b,sz,cap,n,h1,h2⟩
   ·exact .inl h1
   ·exact .inr ⟨b,sz,cap,n,h.ph _ _ h1,h2⟩
 | elp id i off=>obtain ⟨b,sz,cap,n,h1,h2⟩:=hc; exact ⟨b,sz,cap,n,h.ph _ _ h1,h2⟩
 | fn f caps=>obtain ⟨vs,h1,h2⟩:=hc; exact ⟨vs,h1,Yo (fun _ _ hh=>isPtr_evo h.ph hh) h2⟩
 | map id=>obtain ⟨b,sz,cap,n,h1,h2⟩:=hc; exact ⟨b,sz,cap,n,h.ph _ _ h1,h2⟩
 | _=>exact hc
theorem Evo.V (h:Evo φ hp w φ' hp' w') {x:V} {v:Value} (hc:Vrel φ (okb φ hp) w x v):Vrel φ' (okb φ' hp') w' x v:=by
 cases x with
 | c x=>exact h.C hc
 | agg l=>obtain ⟨vs,h1,h2⟩:=hc; exact ⟨vs,h1,Yo (fun _ _ hh=>h.C hh) h2⟩
 | tup l =>
   obtain ⟨vs,h1,h2⟩:=hc
   refine ⟨vs,h1,Yo (fun y u hh=>?_) h2⟩
   unfold tupRel at hh ⊢
   split at hh
   ·rename_i hy
    rw [if_pos hy]
    obtain ⟨us,e,hh⟩:=hh
    exact ⟨us,e,Yo (fun _ _ hh=>h.C hh) hh⟩
   ·rename_i hy
    rw [if_neg hy]
    obtain ⟨c,e,hh⟩:=hh
    exact ⟨c,e,h.C hh⟩
 | ipt l =>
   obtain ⟨ad,vs,h1,h2,h3⟩:=hc
   refine ⟨ad,vs,h1,Yo (fun _ _ hh=>h.C hh) h2,fun i u hu=>?_⟩
   obtain ⟨hok,hcell⟩:=h3 i u hu
   have hl:=Xe hcell
   refine ⟨h.ok hok hl,?_⟩
   rw [World.cell?_of_block (w:=w)]
   ·exact hcell
   ·rw [Xc]; exact h.bl _ hl hok
theorem Evo.D (h:Evo φ hp w φ' hp' w') {B:Nat × Bool} {ds:List Deferred} (hd:Dfs B (okb φ hp) w ds):Dfs B (okb φ' hp') w' ds:=by
 obtain ⟨l,h1,h2,h4,h3⟩:=hd
 refine ⟨l,h1,h2,h4,fun D hm=>?_⟩
 obtain ⟨q1,q2,q3⟩:=h3 D hm
 have hl:D < w.heap.size:=(Array.getElem?_eq_some_iff.1 q2).1
 exact ⟨q1,by rw [h.bl D hl q3]; exact q2,h.ok q3 hl⟩
theorem Dfs.mono {B:Nat × Bool} {ok ok':Nat→Prop} {w:World} {ds:List Deferred} (h:Dfs B ok w ds) (hk:∀ b,ok b→ok' b):Dfs B ok' w ds:=by
 obtain ⟨l,h1,h2,h4,h3⟩:=h
 exact ⟨l,h1,h2,h4,fun D hm=>⟨(h3 D hm).1,(h3 D hm).2.1,hk D (h3 D hm).2.2⟩⟩
theorem Dfs.nil (B:Nat × Bool) (ok:Nat→Prop) (w:World):Dfs B ok w []:=⟨[],rfl,List.nodup_nil,fun _=>rfl,fun _ h=>by cases h⟩
theorem Evo.below (hb:Go.RowKit.Below w.heap.size w w') (hph:∀ id p,φ id = some p→φ' id = some p)
  (how:∀ id o p b,lookA hp' id = some o→φ' id = some p→p.S b→w.heap.size≤b∨¬ okb φ hp b):Evo φ hp w φ' hp' w' :=
 ⟨hb.os,hb.tape,hb.output,hb.size,hph,how,fun b hl _=>hb.block b hl⟩
end
end Go.VM
namespace Go.VM
open Go
structure Lv where
 ar:BinOp→IntKind→Int→Int→Int
 dv:BinOp→IntKind→Int→Int→Int
 shf:BinOp→IntKind→Int→Int→Int
 cmp:BinOp→Int→Int→Bool
 conv:IntKind→Int→Int
 mn:Int→Int→Int
 mx:Int→Int→Int
 beq:Bool→Bool→Bool
 bnot:Bool→Bool
 band:Bool→Bool→Bool
 scat:ByteArray→ByteArray→ByteArray
 scmp:BinOp→ByteArray→ByteArray→Bool
 byte:ByteArray→Int→Int
 ext:ByteArray→Nat→Nat→ByteArray
 slen:ByteArray→Nat
 strOf:List Int→ByteArray
 bytes:ByteArray→List Int
 llen:(e:Ty)→List e.D→Nat
 get:(e:Ty)→List e.D→Nat→e.D
 setl:(e:Ty)→List e.D→Nat→e.D→List e.D
 app:(e:Ty)→List e.D→List e.D→List e.D
 take:(e:Ty)→List e.D→Nat→List e.D
 drop:(e:Ty)→List e.D→Nat→List e.D
 rep:(e:Ty)→Nat→e.D→List e.D
 mhas:(k v:Ty)→List (k.D × v.D)→k.D→Bool
 mval:(k v:Ty)→List (k.D × v.D)→k.D→v.D
 mput:(k v:Ty)→List (k.D × v.D)→k.D→v.D→List (k.D × v.D)
 cast:Nat→Int
 toN:Int→Nat
 sub:Nat→Nat→Nat
 add:Nat→Nat→Nat
 inR:Int→Nat→Prop
 le3:Int→Int→Nat→Prop
 leN:Nat→Nat→Prop
 ltN:Nat→Nat→Prop
 ne0:Int→Prop
 nonneg:Int→Prop
 catOk:ByteArray→ByteArray→Prop
 room:Nat→Nat→Prop
 mkOk:Int→Int→Nat→Prop
 nth:(α:Type)→List α→Nat→α→Prop
 cnt:(α:Type)→List α→Nat
def byteAt (s:ByteArray) (i:Int):Int:=if h:i.toNat < s.size then ((s[i.toNat]'h).toNat:Int) else 0
def bytesOf (s:ByteArray):List Int:=s.data.toList.map fun b=>(b.toNat:Int)
def strOfL (l:List Int):ByteArray:=⟨(l.map fun n=>UInt8.ofNat n.toNat).toArray⟩
def arith (op:BinOp) (k:IntKind) (x y:Int):Int :=
 match op with
 | .add=>k.wrap (x + y)
 | .sub=>k.wrap (x - y)
 | .mul=>k.wrap (x * y)
 | .and=>k.wrap (BitVec.ofInt k.bits x &&& BitVec.ofInt k.bits y).toNat
 | .or=>k.wrap (BitVec.ofInt k.bits x ||| BitVec.ofInt k.bits y).toNat
 | .xor=>k.wrap (BitVec.ofInt k.bits x ^^^ BitVec.ofInt k.bits y).toNat
 | _=>k.wrap (BitVec.ofInt k.bits x &&& ~~~(BitVec.ofInt k.bits y)).toNat
def divide (op:BinOp) (k:IntKind) (x y:Int):Int :=
 match op with
 | .quo=>k.wrap (x.tdiv y)
 | _=>x.tmod y
def shift (op:BinOp) (k:IntKind) (x y:Int):Int :=
 match op with
 | .shl=>k.wrap (x * 2 ^ (min y.toNat k.bits))
 | _=>x.fdiv (2 ^ (min y.toNat k.bits))
def compare (op:BinOp) (x y:Int):Bool :=
 match op with
 | .eql=>x == y
 | .neq=>x != y
 | .lss=>x < y
 | .leq=>x≤y
 | .gtr=>x > y
 | _=>x ≥ y
def scompare (op:BinOp) (x y:ByteArray):Bool :=
 let eq:=x.toList == y.toList
 let lt:=Op.bytesLess x.toList y.toList
 match op with
 | .eql=>eq
 | .neq=>!eq
 | .lss=>lt
 | .leq=>lt || eq
 | .gtr=>!(lt || eq)
 | _=>!lt
def keq:(k:Ty)→k.D→k.D→Bool
 | .int _,a,b=>let a:Int:=a; let b:Int:=b; a == b
 | .str,a,b=>let a:ByteArray:=a; let b:ByteArray:=b; a == b
 | _,_,_=>false
def mhasL (k v:Ty) (l:List (k.D × v.D)) (x:k.D):Bool:=l.any fun p=>keq k x p.1
def mvalL (k v:Ty):List (k.D × v.D)→k.D→v.D
 | [],_=>v.dflt
 | p :: r,x=>if keq k x p.1 then p.2 else mvalL k v r x
def mputL (k v:Ty):List (k.D × v.D)→k.D→v.D→List (k.D × v.D)
 | [],x,y=>[(x,y)]
 | p :: r,x,y=>if keq k x p.1 then (x,y) :: r else p :: mputL k v r x y
def Lv.std:Lv where
 ar:=arith
 dv:=divide
 shf:=shift
 cmp:=compare
 conv:=fun k n=>k.wrap n
 mn:=fun x y=>if y < x then y else x
 mx:=fun x y=>if y > x then y else x
 beq:=fun a b=>a == b
 bnot:=fun a=>!a
 band:=fun a b=>a && b
 scat:=fun a b=>a ++ b
 scmp:=scompare
 byte:=byteAt
 ext:=fun s a b=>s.extract a b
 slen:=fun s=>s.size
 strOf:=strOfL
 bytes:=bytesOf
 llen:=fun _ l=>l.length
 get:=fun e l i=>(l[i]?).getD e.dflt
 setl:=fun _ l i x=>l.set i x
 app:=fun _ a b=>a ++ b
 take:=fun _ l n=>l.take n
 drop:=fun _ l n=>l.drop n
 rep:=fun _ n x=>List.replicate n x
 mhas:=mhasL
 mval:=mvalL
 mput:=mputL
 cast:=fun n=>(n:Int)
 toN:=Int.toNat
 sub:=fun a b=>a - b
 add:=fun a b=>a + b
 inR:=fun i n=>0≤i∧i < (n:Int)
 le3:=fun a b n=>0≤a∧a≤b∧b≤(n:Int)
 leN:=fun a b=>a≤b
 ltN:=fun a b=>a < b
 ne0:=fun y=>y ≠ 0
 nonneg:=fun y=>0≤y
 catOk:=fun a b=>a.size + b.size≤9223372036854775807
 room:=fun n b=>n≤140737488355328∧n * b≤140737488355328
 mkOk:=fun n c b=>0≤n∧n≤c∧c≤140737488355328∧c * b≤140737488355328
 nth:=fun _ l i y=>l[i]? = some y
 cnt:=fun _ l=>l.length
inductive Z | int (k:IntKind) | bool | str | sl | ptr | fn | map | ifc | slf
 deriving DecidableEq
def Z.val:Z→Value
 | .int k=>.int k 0
 | .bool=>.bool false
 | .str=>.string .empty
 | .sl=>.slice none 0 0
 | .ptr=>.pointer none
 | .fn=>.nilFunc
 | .map=>.map none
 | .ifc=>.nilIface
 | .slf=>.pointer none
def Z.c:Z→C
 | .int k=>.int k 0
 | .bool=>.bool false
 | .str=>.str .empty
 | .sl=>.nils
 | .ptr=>.nilp
 | .fn=>.nilf
 | .map=>.nilm
 | .ifc=>.ifn
 | .slf=>.nilp
def Z.cAt (f:Nat):Z→C
 | .slf=>.selfp f
 | z=>z.c
inductive Kd
 | int (k:IntKind) | bool | str | sl (e:TypeId) | st (fs:List (Nat × TypeId)) | ptr (e:TypeId) | fn | map (k e:TypeId) | arr (n:Nat) (e:TypeId) | ifc (ts:List TypeId)
 deriving DecidableEq
structure TI where
 kd:Kd
 size:Nat
 bytes:Nat
 zero:List Z
 ty:Ty
def Kd.isAgg:Kd→Bool
 | .st _ | .arr _ _=>true
 | _=>false
structure TIok (P:Program) (t:TypeId) (i:TI):Prop where
 info:∃ x,P.info? t = some x∧x.size = i.size∧x.bytes = i.bytes∧x.zero.map (fun z=>z.cells.toList) = some (i.zero.map Z.val)
 zsz:i.zero.length = i.size
 za:i.kd.isAgg = false→∀ x z,P.info? t = some x→x.zero = some z→z.oneCell' = true
 ne:0 < i.size
 one:i.kd.isAgg = false→i.size = 1
 und:match i.kd with
  | .int k=>P.underlying t = some (.int k)
  | .bool=>P.underlying t = some .bool
  | .str=>P.underlying t = some .string
  | .sl e=>P.underlying t = some (.slice e)
  | .st fs=>∃ a:Array Field,P.underlying t = some (.struct a)∧a.toList.map (fun f=>(f.offset,f.type)) = fs∧a.toList.all (fun f=>f.name != "_") = true∧P.stoodInHeld t = false∧P.eqGuardType P.depth t = false
  | .ptr e=>P.underlying t = some (.pointer e)
  | .fn=>∃ a b c,P.underlying t = some (.func a b c)
  | .map k e=>P.underlying t = some (.map k e)
  | .arr n e=>P.underlying t = some (.array n e)
  | .ifc ts=>∃ ms,P.underlying t = some (.interface ms)∧∀ x ∈ ts,(P.info? x).map (·.comparable) = some true∧∃ q,P.underlying x = some (.int q)
def expl:(t:Ty)→t.D→List C
 | .int k,x=>[.int k x]
 | .bool,x=>[.sym x]
 | .str,x=>[.str x]
 | .sl e,l=>[.sl e l]
 | .pair a b,x=>expl a x.1 ++ expl b x.2
 | .wrap a,x=>expl a x
abbrev H:=Nat→Option Ob
def castL {e e':Ty} (h:e = e') (l:List e.D):List e'.D:=h ▸ l
def vInt (k:IntKind):List C→Option (Int × List C × List Nat)
 | .int k' n :: r=>if k = k' then some (n,r,[]) else none
 | _=>none
def vBool:List C→Option (Bool × List C × List Nat)
 | .bool b :: r | .sym b :: r=>some (b,r,[])
 | _=>none
def vStr:List C→Option (ByteArray × List C × List Nat)
 | .str s :: r=>some (s,r,[])
 | _=>none
def vRow (L:Lv) (e:Ty) (vw:List C→Option (e.D × List C × List Nat)) (id n:Nat):Option Ob→Option (List e.D × List Nat)
 | some (.row _ e' l)=>if q:e' = e then some (L.take e (castL q l) n,[id]) else none
 | some (.rowf _ e' l j cs)=>if q:e' = e then match vw cs with
   | some (y,[],ids)=>some (L.take e (L.setl e (castL q l) j y) n,id :: ids)
   | _=>none
  else none
 | _=>none
def vSl (L:Lv) (h:H) (e:Ty) (vw:List C→Option (e.D × List C × List Nat)):List C→Option (List e.D × List C × List Nat)
 | .sl e' l :: r=>if q:e' = e then some (castL q l,r,[]) else none
 | .nils :: r=>some ([],r,[])
 | .own id n :: r=>match vRow L e vw id n (h id) with
   | some (l,ids)=>some (l,r,ids)
   | none=>none
 | _=>none
def view (L:Lv) (h:H):(t:Ty)→List C→Option (t.D × List C × List Nat)
 | .int k,cs=>vInt k cs
 | .bool,cs=>vBool cs
 | .str,cs=>vStr cs
 | .sl e,cs=>vSl L h e (view L h e) cs
 | .pair a b,cs=>match view L h a cs with
   | some (x,r,i)=>match view L h b r with
     | some (y,r',j)=>some ((x,y),r',i ++ j)
     | none=>none
   | none=>none
 | .wrap a,cs=>view L h a cs
def absC:Value→C
 | .int k n=>.int k n
 | .bool b=>.bool b
 | .string s=>.str s
 | .slice none 0 0=>.nils
 | .pointer none=>.nilp
 | .nilFunc=>.nilf
 | .map none=>.nilm
 | .nilIface=>.ifn
 | _=>.un
def absV:Value→V
 | .agg cs=>.agg (cs.toList.map absC)
 | v=>.c (absC v)
def St.ev (st:St):Operand→V
 | .tmp t=>st.look t
 | .const v=>absV v
 | .global _=>.c .un
 | .func f=>.c (.fn f [])
inductive FR
 | v (x:V)
 | b (c:Bool)
 | amb
 | br (c:Bool) (t f:FR)
 | o (p:Prop) (r:FR)
 | new (x:V) (news:List Ob) (kill:List Nat)
 | upd (id:Nat) (o:Ob) (kill:List Nat)
 | bad
def mkV (agg:Bool) (cs:List C):FR :=
 if agg then .v (.agg cs) else match cs with
  | [x]=>.v (.c x)
  | _=>.bad
def opOk:BinOp→Bool
 | .add | .sub | .mul | .and | .or | .xor | .andNot=>true
 | _=>false
def opCmp:BinOp→Bool
 | .eql | .neq | .lss | .leq | .gtr | .geq=>true
 | _=>false
abbrev Ev:=TypeId→Option TI
def isKd (E:Ev) (t:TypeId) (k:Kd):Bool:=match E t with
 | some i=>decide (i.kd = k)
 | none=>false
def isSl (E:Ev) (t:TypeId):Bool:=match E t with
 | some i=>match i.kd with
   | .sl _=>true
   | _=>false
 | none=>false
def boolC:C→Option Bool
 | .bool b | .sym b=>some b
 | _=>none
def eqSt (L:Lv) (E:Ev):Nat→List (Nat × TypeId)→List C→List C→Option Bool
 | _,[],[],[]=>some true
 | k,(off,t) :: fs,x :: r,y :: r'=>if Nat.beq off k then match E t with
   | some q=>match eqSt L E (k + 1) fs r r' with
     | some c=>match q.kd with
       | .int _=>match x,y with
         | .int k1 n,.int k2 m=>if k1 = k2 then some (L.band (L.cmp .eql n m) c) else none
         | _,_=>none
       | .str=>match x,y with
         | .str n,.str m=>some (L.band (L.scmp .eql n m) c)
         | _,_=>none
       | .bool=>match boolC x,boolC y with
         | some n,some m=>some (L.band (L.beq n m) c)
         | _,_=>none
       | _=>none
     | none=>none
   | none=>none
  else none
 | _,_,_,_=>none
def eqAgg (L:Lv) (E:Ev) (t:TypeId) (a b:List C):Option Bool:=match E t with
 | some i=>match i.kd with
   | .st fs=>eqSt L E 0 fs a b
   | _=>none
 | none=>none
def isIfc (E:Ev) (t:TypeId):Bool:=match E t with
 | some i=>match i.kd with
   | .ifc _=>true
   | _=>false
 | none=>false
def isIfcOf (E:Ev) (t x:TypeId):Bool:=match E t with
 | some i=>match i.kd with
   | .ifc ts=>ts.any (Nat.beq x)
   | _=>false
 | none=>false
def isNilLit:Operand→Bool
 | .const .nilIface=>true
 | _=>false
def isNilC:V→Option Bool
 | .c .ifn=>some true
 | .c (.ife _ _ _) | .c .ifo=>some false
 | _=>none
def fnil (E:Ev) (op:BinOp) (t:TypeId) (x y:V):FR:=match isIfc E t,isNilC y,op,isNilC x with
 | true,some true,.eql,some b=>.v (.c (.bool b))
 | true,some true,.neq,some b=>.v (.c (.bool (!b)))
 | _,_,_,_=>.bad
def fmki (E:Ev) (t:TypeId) (x:V):FR:=match E t with
 | some i=>match i.kd,x with
   | .int _,.c (.int k n)=>.v (.c (.ife t k n))
   | .ptr _,_=>.v (.c .ifo)
   | _,_=>.bad
 | none=>.bad
def fbin (L:Lv) (E:Ev) (op:BinOp) (t:TypeId) (x y:V):FR :=
 match x,y with
 | .c (.int k a),.c (.int k' b) =>
   match op with
   | .shl | .shr=>.o (L.nonneg b) (.v (.c (.int k (L.shf op k a b))))
   | .quo | .rem=>if k = k' then .o (L.ne0 b) (.v (.c (.int k (L.dv op k a b)))) else .bad
   | _=>if k = k' then (if opOk op then .v (.c (.int k (L.ar op k a b))) else .b (L.cmp op a b)) else .bad
 | .c (.str a),.c (.str b) =>
   match op with
   | .add=>.o (L.catOk a b) (.v (.c (.str (L.scat a b))))
   | _=>if opCmp op then .b (L.scmp op a b) else .bad
 | .c (.bool a),.c (.bool b) | .c (.sym a),.c (.bool b) | .c (.bool a),.c (.sym b) | .c (.sym a),.c (.sym b) =>
   if isKd E t .bool then match op with
    | .eql=>.b (L.beq a b)
    | .neq=>.b (L.bnot (L.beq a b))
    | _=>.bad
   else .bad
 | .c .nils,.c .nils=>if isSl E t then match op with
   | .eql=>.v (.c (.bool true))
   | .neq=>.v (.c (.bool false))
   | _=>.bad
  else .bad
 | .c (.sl e l),.c .nils=>if isSl E t then match op with
   | .eql=>.br (L.cmp .eql (L.cast (L.llen e l)) 0) .amb (.v (.c (.bool false)))
   | .neq=>.br (L.cmp .eql (L.cast (L.llen e l)) 0) .amb (.v (.c (.bool true)))
   | _=>.bad
  else .bad
 | .c (.own _ _),.c .nils=>if isSl E t then match op with
   | .eql | .neq=>.amb
   | _=>.bad
  else .bad
 | .c (.ife t1 k a),.c (.ife t2 k' b)=>if isIfcOf E t t1 && Nat.beq t1 t2 && decide (k = k') then match op with
   | .eql=>.b (L.cmp .eql a b)
   | .neq=>.b (L.bnot (L.cmp .eql a b))
   | _=>.bad
  else .bad
 | .agg a,.agg b=>match op,eqAgg L E t a b with
   | .eql,some c=>.b c
   | .neq,some c=>.b (L.bnot c)
   | _,_=>.bad
 | _,_=>.bad
def knownV:V→Bool
 | .c .un | .c .sk=>false
 | .c _=>true
 | .agg _=>true
 | _=>false
def putL {α:Type} (l:List α) (off:Nat) (xs:List α):List α:=l.take off ++ xs ++ l.drop (off + xs.length)
def szOf (E:Ev) (t:TypeId):Nat:=match E t with
 | some i=>i.size
 | none=>0
def fieldOf (E:Ev) (t:TypeId) (f:Nat):Option (Nat × TypeId):=match E t with
 | some i=>match i.kd with
   | .st fs=>fs[f]?
   | _=>none
 | none=>none
def elemOf (E:Ev) (t:TypeId):Option TypeId:=match E t with
 | some i=>match i.kd with
   | .sl e=>some e
   | _=>none
 | none=>none
def arrOf (E:Ev) (t:TypeId):Option (Nat × TypeId):=match E t with
 | some i=>match i.kd with
   | .arr n e=>some (n,e)
   | _=>none
 | none=>none
def arrFs (sz:Nat) (e:TypeId):Nat→Nat→List (Nat × TypeId)
 | _,0=>[]
 | k,n + 1=>(k * sz,e) :: arrFs sz e (k + 1) n
def fillC (E:Ev) (fs:List (Nat × TypeId)):List C→List (Nat × V)→Option (List C)
 | cs,[]=>some cs
 | cs,(i,v) :: r=>match fs[i]? with
   | some (off,t)=>if Nat.blt 0 (szOf E t) && knownV v && Nat.beq v.cells.length (szOf E t) && Nat.ble (off + v.cells.length) cs.length then fillC E fs (putL cs off v.cells) r else none
   | none=>none
def fbuild (E:Ev) (t:TypeId) (parts:List (Nat × V)):FR:=match E t with
 | some i=>match i.kd with
   | .st fs=>if fs.all (fun p=>Nat.blt 0 (szOf E p.2)) then match fillC E fs (i.zero.map Z.c) parts with
     | some cs=>.v (.agg cs)
     | none=>.bad
    else .bad
   | .arr n e=>if Nat.blt 0 (szOf E e) then match fillC E (arrFs (szOf E e) e 0 n) (i.zero.map Z.c) parts with
     | some cs=>.v (.agg cs)
     | none=>.bad
    else .bad
   | _=>.bad
 | none=>.bad
def litC (L:Lv) (h:H) (e:Ty):Nat→List (Nat × V)→Option (List e.D × List Nat)
 | _,[]=>some ([],[])
 | k,(i,v) :: r=>if Nat.beq i k && knownV v then match view L h e v.cells with
   | some (x,[],ids)=>match litC L h e (k + 1) r with
     | some (l,ids')=>some (x :: l,ids ++ ids')
     | none=>none
   | _=>none
  else none
def fbuildSlice (L:Lv) (E:Ev) (h:H) (f:Nat) (t:TypeId) (len:Nat) (parts:List (Nat × V)):FR:=match elemOf E t with
 | some et=>match E et with
   | some i=>if Nat.beq i.ty.n i.size && Nat.beq parts.length len && Nat.ble (len * i.size) 16777216 then match litC L h i.ty 0 parts with
     | some (l,ids)=>.new (.c (.own f len)) [.row et i.ty l] ids
     | none=>.bad
    else .bad
   | none=>.bad
 | none=>.bad
def fload (L:Lv) (E:Ev) (h:H) (t:TypeId) (a:V):FR:=match E t with
 | some i=>match a with
   | .c (.ptr id off)=>match h id with
     | some (.box _ cs)=>if Nat.ble (off + i.size) cs.length then mkV i.kd.isAgg ((cs.drop off).take i.size) else .bad
     | _=>.bad
   | .c (.elp id j off)=>match h id with
     | some (.row _ e l)=>let cs:=expl e (L.get e l j); if Nat.ble (off + i.size) e.n then .o (L.ltN j (L.llen e l)) (mkV i.kd.isAgg ((cs.drop off).take i.size)) else .bad
     | some (.rowf _ e _ q cs)=>if Nat.ble (off + i.size) e.n then .o (j = q) (mkV i.kd.isAgg ((cs.drop off).take i.size)) else .bad
     | _=>.bad
   | .ipt cs=>if Nat.ble i.size cs.length then mkV i.kd.isAgg (cs.take i.size) else .bad
   | _=>.bad
 | none=>.bad
def ffieldAddr (E:Ev) (s:TypeId) (a:V) (f:Nat):FR:=match fieldOf E s f with
 | some (off,t)=>if Nat.blt 0 (szOf E t) then match a with
   | .c (.ptr id o)=>.v (.c (.ptr id (o + off)))
   | .c (.elp id j o)=>.v (.c (.elp id j (o + off)))
   | .ipt cs=>.v (.ipt (cs.drop off))
   | _=>.bad
  else .bad
 | none=>.bad
def ffield (E:Ev) (s:TypeId) (x:V) (f:Nat):FR:=match fieldOf E s f with
 | some (off,t)=>match E t with
   | some i=>match x with
     | .agg cs=>if Nat.ble (off + i.size) cs.length then mkV i.kd.isAgg ((cs.drop off).take i.size) else .bad
     | _=>.bad
   | none=>.bad
 | none=>.bad
def farr (L:Lv) (n:Int) (id off sz:Nat):Nat→Nat→FR
 | _,0=>.bad
 | j,r + 1=>.br (L.cmp .eql n (Int.ofNat j)) (.v (.c (.ptr id (off + j * sz)))) (farr L n id off sz (j + 1) r)
def findexArr (L:Lv) (E:Ev) (t:TypeId) (x i:V):FR:=match arrOf E t with
 | some (m,et)=>match x,i with
   | .c (.ptr id off),.c (.int _ n)=>if Nat.blt 0 (szOf E et) then .o (L.inR n m) (farr L n id off (szOf E et) 0 m) else .bad
   | _,_=>.bad
 | none=>.bad
def findexAddr (L:Lv) (E:Ev) (h:H) (t:TypeId) (x i:V):FR:=match elemOf E t with
 | some et=>match x,i with
   | .c (.own id len),.c (.int _ n)=>match h id with
     | some (.row _ e _) | some (.rowf _ e _ _ _)=>if Nat.beq e.n (szOf E et) then .o (L.inR n len) (.v (.c (.elp id (L.toN n) 0))) else .bad
     | _=>.bad
   | .c (.owa id off len),.c (.int _ n)=>match h id with
     | some (.row _ e _)=>if Nat.beq e.n (szOf E et) then .o (L.inR n len) (.v (.c (.elp id (L.add off (L.toN n)) 0))) else .bad
     | _=>.bad
   | .c (.sl e l),.c (.int _ n)=>if Nat.beq e.n (szOf E et) then .o (L.inR n (L.llen e l)) (.v (.ipt (expl e (L.get e l (L.toN n))))) else .bad
   | _,_=>.bad
 | none=>findexArr L E t x i
def findex (L:Lv) (E:Ev) (t:TypeId) (x i:V):FR:=match E t,x,i with
 | some q,.c (.str s),.c (.int _ n)=>match q.kd with
   | .str=>.o (L.inR n (L.slen s)) (.v (.c (.int .u8 (L.byte s n))))
   | _=>.bad
 | _,_,_=>.bad
def bound (dflt:Int):Option V→Option Int
 | none=>some dflt
 | some (.c (.int _ n))=>some n
 | _=>none
def aliasB:Option V→Bool→Bool
 | none,true=>true
 | _,_=>false
theorem aliasB_t {o:Option V} {b:Bool} (h:aliasB o b = true):o = none:=by
 unfold aliasB at h
 split at h
 ·rfl
 ·cases h
def fslice (L:Lv) (E:Ev) (h:H) (t:TypeId) (x:V) (lo hi:Option V):FR:=match E t with
 | some q=>match q.kd,x with
   | .str,.c (.str s)=>match bound (L.cast 0) lo,bound (L.cast (L.slen s)) hi with
     | some a,some b=>.o (L.le3 a b (L.slen s)) (.v (.c (.str (L.ext s (L.toN a) (L.toN b)))))
     | _,_=>.bad
   | .sl et,.c (.sl e l)=>if Nat.beq e.n (szOf E et) then match bound (L.cast 0) lo,bound (L.cast (L.llen e l)) hi with
     | some a,some b=>.o (L.le3 a b (L.llen e l)) (.v (.c (.sl e (L.drop e (L.take e l (L.toN b)) (L.toN a)))))
     | _,_=>.bad
    else .bad
   | .sl et,.c (.own id len)=>match h id with
     | some (.row _ e l)=>if Nat.beq e.n (szOf E et) then match lo with
       | none=>match bound (L.cast len) hi with
         | some b=>.o (L.le3 (L.cast 0) b len) (.v (.c (.own id (L.toN b))))
         | _=>.bad
       | some lo=>match aliasB hi (Nat.ble 3 e.n) with
         | true=>match bound (L.cast 0) (some lo) with
           | some a=>.o (L.le3 a (L.cast len) len) (.v (.c (.owa id (L.toN a) (L.sub len (L.toN a)))))
           | none=>.bad
         | false=>match bound (L.cast 0) (some lo),bound (L.cast len) hi with
           | some a,some b=>.o (L.le3 a b len) (.new (.c (.sl e (L.drop e (L.take e l (L.toN b)) (L.toN a)))) [] [id])
           | _,_=>.bad
      else .bad
     | _=>.bad
   | _,_=>.bad
 | none=>.bad
def funop (L:Lv) (op:UnOp) (x:V):FR:=match op,x with
 | .not,.c (.bool b)=>.v (.c (.bool (!b)))
 | .not,.c (.sym b)=>.v (.c (.sym (L.bnot b)))
 | .neg,.c (.int k n)=>.v (.c (.int k (L.ar .sub k 0 n)))
 | _,_=>.bad
def fconvert (L:Lv) (E:Ev) (h:H) (src dst:TypeId) (x:V):FR:=match E src,E dst,x with
 | some _,some d,.c (.int _ n)=>match d.kd with
   | .int k=>.v (.c (.int k (L.conv k n)))
   | _=>.bad
 | some _,some d,.c (.str s)=>match d.kd with
   | .str=>.v (.c (.str s))
   | _=>.bad
 | some s,some d,.c (.sl (.int .u8) l)=>match s.kd,d.kd with
   | .sl e,.str=>if E e |>.any (fun i=>decide (i.kd = .int .u8)) then .v (.c (.str (L.strOf l))) else .bad
   | _,_=>.bad
 | some s,some d,.c (.own id len)=>match s.kd,d.kd with
   | .sl e,.str=>if E e |>.any (fun i=>decide (i.kd = .int .u8)) then match h id with
     | some (.row _ (.int .u8) l)=>.v (.c (.str (L.strOf (L.take (.int .u8) l len))))
     | _=>.bad
    else .bad
   | _,_=>.bad
 | _,_,_=>.bad
def falloc (E:Ev) (f:Nat) (t:TypeId):FR:=match E t with
 | some i=>.new (.c (.ptr f 0)) [.box t (i.zero.map (Z.cAt f))] []
 | none=>.bad
def fbox (f:Nat) (t:TypeId) (x:V):FR:=if knownV x then .new (.c (.ptr f 0)) [.box t x.cells] [] else .bad
def ptrIds:List V→Option (List Nat)
 | []=>some []
 | .c (.ptr id 0) :: r=>(ptrIds r).map (id :: ·)
 | _=>none
def zeroTy:Ty→List Z
 | .int k=>[.int k]
 | .bool=>[.bool]
 | .str=>[.str]
 | .sl _=>[.sl]
 | .pair a b=>zeroTy a ++ zeroTy b
 | .wrap a=>zeroTy a
def fmakeSlice (L:Lv) (E:Ev) (f:Nat) (t:TypeId) (x y:V):FR:=match elemOf E t with
 | some et=>match E et,x,y with
   | some i,.c (.int _ n),.c (.int _ m) =>
     if decide (zeroTy i.ty = i.zero) then .o (L.mkOk n m i.bytes) (.new (.c (.own f (L.toN n))) [.row et i.ty (L.rep i.ty (L.toN n) i.ty.dflt)] []) else .bad
   | _,_,_=>.bad
 | none=>.bad
def fsrc (L:Lv) (h:H) (e:Ty):V→Option (List e.D)
 | .c (.sl e' l)=>if q:e' = e then some (castL q l) else none
 | .c .nils=>some []
 | .c (.own id n)=>match h id with
   | some (.row _ e' l)=>if q:e' = e then some (L.take e (castL q l) n) else none
   | _=>none
 | .c (.str s)=>if q:Ty.int .u8 = e then some (castL q (L.bytes s)) else none
 | _=>none
def fbase (L:Lv) (h:H) (et:TypeId) (e:Ty):V→Option (List e.D × List Nat)
 | .c .nils=>some ([],[])
 | .c (.own id n)=>match h id with
   | some (.row t e' l)=>if q:e' = e then (if Nat.beq t et then some (L.take e (castL q l) n,[id]) else none) else none
   | _=>none
 | _=>none
def noInt (E:Ev) (t:TypeId):Bool:=match E t with
 | some i=>match i.kd with
   | .sl _ | .str=>true
   | _=>false
 | none=>false
def fappend (L:Lv) (E:Ev) (h:H) (f:Nat) (t tx:TypeId) (x y:V):FR:=match elemOf E t with
 | some et=>match E et with
   | some i=>if Nat.beq i.ty.n i.size && noInt E tx then match fbase L h et i.ty x,fsrc L h i.ty y with
     | some (l,kill),some m=>.o (L.room (L.add (L.llen i.ty l) (L.llen i.ty m)) i.bytes) (.new (.c (.own f (L.add (L.llen i.ty l) (L.llen i.ty m)))) [.row et i.ty (L.app i.ty l m)] kill)
     | _,_=>.bad
    else .bad
   | none=>.bad
 | none=>.bad
def knownCs:List C→Bool
 | []=>true
 | x :: r=>knownV (.c x) && knownCs r
def hasOwn:List C→Bool
 | []=>false
 | .own _ _ :: _ | .map _ :: _=>true
 | _ :: r=>hasOwn r
def fstore (L:Lv) (E:Ev) (h:H) (t:TypeId) (a x:V):FR:=match E t with
 | some i=>if knownV x && knownCs x.cells && Nat.beq x.cells.length i.size then match a with
   | .c (.ptr id off)=>match h id with
     | some (.box tt cs)=>if Nat.ble (off + i.size) cs.length then .upd id (.box tt (putL cs off x.cells)) [] else .bad
     | _=>.bad
   | .c (.elp id j off)=>match h id with
     | some (.row tt e l)=>if Nat.ble (off + i.size) e.n then
       if hasOwn x.cells && !(Nat.beq i.size e.n) then .o (L.ltN j (L.llen e l)) (.upd id (.rowf tt e l j (putL (expl e (L.get e l j)) off x.cells)) [])
       else match view L h e (putL (expl e (L.get e l j)) off x.cells) with
        | some (y,[],ids)=>if ids.contains id then .bad else .o (L.ltN j (L.llen e l)) (.upd id (.row tt e (L.setl e l j y)) ids)
        | _=>.bad
      else .bad
     | some (.rowf tt e l q cs)=>if Nat.ble (off + i.size) e.n then .o (j = q) (.upd id (.rowf tt e l q (putL cs off x.cells)) []) else .bad
     | _=>.bad
   | _=>.bad
   else .bad
 | none=>.bad
def fmakeFunc (fn:Fn) (first caps:List V):FR:=match fn,first,ptrIds caps with
 | .func f,[],some ids=>.v (.c (.fn f ids))
 | _,_,_=>.bad
def fextract (x:V) (i:Nat):FR:=match x with
 | .tup l=>match l[i]? with
   | some (b,cs)=>mkV b cs
   | none=>.bad
 | _=>.bad
def fpick (c a b:V):FR:=match c with
 | .c (.bool true)=>.v a
 | .c (.bool false)=>.v b
 | .c (.sym c)=>.br c (.v a) (.v b)
 | _=>.bad
def mapOf (E:Ev) (t:TypeId):Option (TypeId × TypeId):=match E t with
 | some i=>match i.kd with
   | .map k e=>some (k,e)
   | _=>none
 | none=>none
def keyOk (E:Ev) (kt:TypeId):Ty→Bool
 | .int k=>isKd E kt (.int k)
 | .str=>isKd E kt .str
 | _=>false
def keysK (k:IntKind):List (C × C)→Bool
 | []=>true
 | (.int k' _,_) :: r=>decide (k' = k) && keysK k r
 | _=>false
def neKeys (L:Lv) (n:Int):List (C × C)→Prop
 | []=>True
 | (.int _ m,_) :: r=>L.cmp .eql n m = false∧neKeys L n r
 | _=>False
def fpicks (L:Lv) (ok:Bool) (k:IntKind) (n:Int) (z:Option C):List (C × C)→FR
 | []=>match z with
   | some z=>if ok then .v (.tup [(false,[z]),(false,[.bool false])]) else .v (.c z)
   | none=>.bad
 | (.int k' m,x) :: r=>if k = k' then .br (L.cmp .eql n m) (if ok then .v (.tup [(false,[x]),(false,[.bool true])]) else .v (.c x)) (fpicks L ok k n z r) else .bad
 | _=>.bad
def flookup (L:Lv) (E:Ev) (h:H) (t:TypeId) (x i:V) (ok:Bool):FR:=match mapOf E t with
 | some (kt,et)=>match E et,x,i with
   | some ie,.c (.map id),.c ix=>match h id with
     | some (.map k v l)=>if keyOk E kt k && Nat.beq v.n 1 && !ie.kd.isAgg && decide (zeroTy v = ie.zero) then match view L h k [ix] with
       | some (key,[],[])=>if ok then .v (.tup [(false,expl v (L.mval k v l key)),(false,[.sym (L.mhas k v l key)])]) else mkV false (expl v (L.mval k v l key))
       | _=>.bad
      else .bad
     | some (.mapc l)=>match ix with
       | .int k n=>if isKd E kt (.int k) && !ie.kd.isAgg then fpicks L ok k n (match ie.zero with
         | [z]=>some z.c
         | _=>none) l else .bad
       | _=>.bad
     | _=>.bad
   | _,_,_=>.bad
 | none=>.bad
def fmapUpdate (L:Lv) (E:Ev) (h:H) (t:TypeId) (m i x:V):FR:=match mapOf E t with
 | some (kt,et)=>match m,i,x with
   | .c (.map id),.c ix,.c x=>match h id with
     | some (.map k v l)=>if keyOk E kt k && Nat.beq v.n 1 && !v.agg then match view L h k [ix],view L h v [x] with
       | some (key,[],[]),some (y,[],[])=>.upd id (.map k v (L.mput k v l key y)) []
       | _,_=>.bad
      else .bad
     | some (.mapc l)=>match ix with
       | .int k n=>if isKd E kt (.int k) && knownV (.c x) && keysK k l then .o (neKeys L n l) (.upd id (.mapc (l ++ [(.int k n,x)])) []) else .bad
       | _=>.bad
     | _=>.bad
   | _,_,_=>.bad
 | none=>.bad
def fmakeMap (E:Ev) (f:Nat) (t:TypeId):FR:=match mapOf E t with
 | some (kt,et)=>match E kt,E et with
   | some ik,some ie=>match ie.kd with
     | .fn=>.new (.c (.map f)) [.mapc []] []
     | _=>.new (.c (.map f)) [.map ik.ty ie.ty []] []
   | _,_=>.bad
 | none=>.bad
def fnilCheck (x:V):FR:=match x with
 | .c (.ptr _ _) | .c (.elp _ _ _) | .ipt _=>.v x
 | _=>.bad
def flen (L:Lv) (E:Ev) (t:TypeId) (x:V):FR:=match E t with
 | some i=>match i.kd,x with
   | .str,.c (.str s)=>.v (.c (.int .i64 (L.cast (L.slen s))))
   | .sl _,.c (.sl e l)=>.v (.c (.int .i64 (L.cast (L.llen e l))))
   | .sl _,.c (.own _ n)=>.v (.c (.int .i64 (L.cast n)))
   | .sl _,.c (.owa _ _ n)=>.v (.c (.int .i64 (L.cast n)))
   | .sl _,.c .nils=>.v (.c (.int .i64 0))
   | _,_=>.bad
 | none=>.bad
def fmin (L:Lv) (x y:V):FR:=match x,y with
 | .c (.int k a),.c (.int _ b)=>.v (.c (.int k (L.mn a b)))
 | _,_=>.bad
def fmax (L:Lv) (x y:V):FR:=match x,y with
 | .c (.int k a),.c (.int _ b)=>.v (.c (.int k (L.mx a b)))
 | _,_=>.bad
end Go.VM
namespace Go.VM
open Go
variable {B:Nat × Bool}
structure HRel (φ:Phi) (hp:Hp) (nx:Nat) (w:World):Prop where
 ob:∀ id o,lookA hp id = some o→Orel φ (okb φ hp) w id o
 fr:∀ id,nx≤id→φ id = none
 dj:∀ i j o o' p q b,lookA hp i = some o→lookA hp j = some o'→i ≠ j→φ i = some p→φ j = some q→p.S b→¬ q.S b
theorem Rel.h {φ:Phi} {st:St} {a:Act} {w:World} (r:Rel B φ st a w):HRel φ st.hp st.nx w:=⟨r.ob,r.fr,r.dj⟩
theorem Orel.has {φ:Phi} {ok:Nat→Prop} {w:World} {id:Nat} {o:Ob} (h:Orel φ ok w id o):∃ p,φ id = some p∧∀ b,p.S b→b < w.heap.size:=by
 cases o with
 | box t cs =>
   obtain ⟨b,vs,h1,h2,_⟩:=h
   exact ⟨_,h1,fun x hx=>by cases hx; exact (Array.getElem?_eq_some_iff.1 h2).1⟩
 | row t e l =>
   rcases h with ⟨h1,_⟩ | ⟨b,cap,arr,h1,h2,_⟩
   ·exact ⟨_,h1,fun x hx=>hx.elim⟩
   ·exact ⟨_,h1,fun x hx=>by cases hx; exact (Array.getElem?_eq_some_iff.1 h2).1⟩
 | rowf t e l j cs =>
   obtain ⟨b,cap,arr,h1,h2,_⟩:=h
   exact ⟨_,h1,fun x hx=>by cases hx; exact (Array.getElem?_eq_some_iff.1 h2).1⟩
 | map k v l =>
   obtain ⟨b,es,clock,h1,h2,_⟩:=h
   exact ⟨_,h1,fun x hx=>by cases hx; exact (Array.getElem?_eq_some_iff.1 h2).1⟩
 | mapc l =>
   obtain ⟨b,es,clock,h1,h2,_⟩:=h
   exact ⟨_,h1,fun x hx=>by cases hx; exact (Array.getElem?_eq_some_iff.1 h2).1⟩
 | amb =>
   obtain ⟨S,w0,h1,_,h2⟩:=h
   exact ⟨_,h1,fun x hx=>(h2 x hx).1⟩
theorem HRel.lt {φ:Phi} {hp:Hp} {nx:Nat} {w:World} (h:HRel φ hp nx w) {id:Nat} {o:Ob} (ho:lookA hp id = some o):id < nx:=by
 obtain ⟨p,hp',_⟩:=(h.ob id o ho).has
 by_cases hl:nx≤id
 ·rw [h.fr id hl] at hp'; cases hp'
 ·omega
theorem Orel.evo {φ φ':Phi} {hp hp':Hp} {w w':World} (e:Evo φ hp w φ' hp' w') {id:Nat} {o:Ob} (h:Orel φ (okb φ hp) w id o)
  (hb:∀ p b,φ id = some p→p.S b→w'.heap[b]? = w.heap[b]?):Orel φ' (okb φ' hp') w' id o:=by
 cases o with
 | box t cs =>
   obtain ⟨b,vs,h1,h2,h3⟩:=h
   exact ⟨b,vs,e.ph _ _ h1,(hb _ b h1 rfl).trans h2,Yo (fun _ _ hh=>e.C hh) h3⟩
 | row t ty l =>
   rcases h with ⟨h1,h2⟩ | ⟨b,cap,arr,h1,h2,h3,h4,h5⟩
   ·exact .inl ⟨e.ph _ _ h1,h2⟩
   ·refine .inr ⟨b,cap,arr,e.ph _ _ h1,(hb _ b h1 rfl).trans h2,h3,h4,fun j x hx=>?_⟩
    obtain ⟨vs,hk,hv⟩:=h5 j x hx
    exact ⟨vs,e.K _ _ _ hk,hv⟩
 | rowf t ty l q cs =>
   obtain ⟨b,cap,arr,h1,h2,h3,h4,h5,h6,h7,vs,h8,h9⟩:=h
   refine ⟨b,cap,arr,e.ph _ _ h1,(hb _ b h1 rfl).trans h2,h3,h4,fun j x hne hx=>?_,h6,h7,vs,Yo (fun _ _ hh=>e.C hh) h8,h9⟩
   obtain ⟨vs,hk,hv⟩:=h5 j x hne hx
   exact ⟨vs,e.K _ _ _ hk,hv⟩
 | map k v l =>
   obtain ⟨b,es,clock,h1,h2,h3⟩:=h
   exact ⟨b,es,clock,e.ph _ _ h1,(hb _ b h1 rfl).trans h2,Yo (fun _ _ hh=>⟨e.K _ _ _ hh.1,e.K _ _ _ hh.2⟩) h3⟩
 | mapc l =>
   obtain ⟨b,es,clock,h1,h2,h3⟩:=h
   exact ⟨b,es,clock,e.ph _ _ h1,(hb _ b h1 rfl).trans h2,Yo (fun _ _ hh=>⟨e.C hh.1,e.C hh.2⟩) h3⟩
 | amb =>
   obtain ⟨S,w0,h1,h0,h2⟩:=h
   exact ⟨S,w0,e.ph _ _ h1,h0,fun b hS=>⟨Nat.lt_of_lt_of_le (h2 b hS).1 e.size,(hb _ b h1 hS).trans (h2 b hS).2⟩⟩
theorem okb_del {φ:Phi} {hp:Hp} {id b:Nat} (h:okb φ hp b):okb φ (delA hp id) b:=fun i o p h1 h2 h3=>by
 rw [Xx] at h1
 split at h1
 ·cases h1
 ·exact h i o p h1 h2 h3
theorem evo_del (φ:Phi) (hp:Hp) (w:World) (id:Nat):Evo φ hp w φ (delA hp id) w :=
 ⟨rfl,rfl,rfl,Nat.le_refl _,fun _ _ h=>h,fun i o p b h1 h2 h3=>.inr fun hb=>okb_del hb i o p h1 h2 h3,fun _ _ _=>rfl⟩
theorem HRel.del {φ:Phi} {hp:Hp} {nx:Nat} {w:World} (h:HRel φ hp nx w) (id:Nat):HRel φ (delA hp id) nx w where
 ob:=fun i o ho=>by
  rw [Xx] at ho
  split at ho
  ·cases ho
  ·exact (h.ob i o ho).evo (evo_del φ hp w id) (fun _ _ _ _=>rfl)
 fr:=h.fr
 dj:=fun i j o o' p q b h1 h2=>by
  rw [Xx] at h1 h2
  split at h1
  ·cases h1
  ·split at h2
   ·cases h2
   ·exact h.dj i j o o' p q b h1 h2
def delAll (hp:Hp):List Nat→Hp
 | []=>hp
 | i :: r=>delAll (delA hp i) r
theorem Yw (φ:Phi) (w:World):∀ (ids:List Nat) (hp:Hp),Evo φ hp w φ (delAll hp ids) w
 | [],hp=>Evo.refl _ _ _
 | i :: r,hp=>(evo_del φ hp w i).trans (Yw φ w r (delA hp i))
theorem HRel.delAll {φ:Phi} {nx:Nat} {w:World}:∀ (ids:List Nat) {hp:Hp} (_:HRel φ hp nx w),HRel φ (VM.delAll hp ids) nx w
 | [],_,h=>h
 | i :: r,_,h=>HRel.delAll r (h.del i)
theorem Z0:∀ (ids:List Nat) (hp:Hp) (i:Nat),lookA (delAll hp ids) i = if i ∈ ids then none else lookA hp i
 | [],hp,i=>by simp [delAll]
 | k :: r,hp,i=>by
   simp only [delAll,Z0 r,Xx,List.mem_cons]
   by_cases h1:i ∈ r <;> by_cases h2:i = k <;> simp [h1,h2]
def phiSet (φ:Phi) (f:Nat) (p:Place):Phi:=fun i=>if i = f then some p else φ i
theorem Xq {φ:Phi} {hp:Hp} {nx:Nat} {w w':World} (h:HRel φ hp nx w) {f:Nat} (hf:nx≤f) (o:Ob) (p:Place) (hb:Go.RowKit.Below w.heap.size w w')
  (hpl:∀ b,p.S b→w.heap.size≤b):Evo φ hp w (phiSet φ f p) ((f,o) :: hp) w':=by
 refine Evo.below hb (fun id q hq=>?_) (fun id o' q b h1 h2 h3=>?_)
 ·unfold phiSet
  split
  ·rename_i e; subst e; rw [h.fr id hf] at hq; cases hq
  ·exact hq
 ·unfold phiSet at h2
  simp only [lookA,ifb] at h1
  split at h2
  ·cases h2; exact .inl (hpl b h3)
  ·rename_i hne
   rw [if_neg (fun e=>hne e.symm)] at h1
   exact .inr fun hk=>hk id o' q h1 h2 h3
theorem HRel.new {φ:Phi} {hp:Hp} {nx:Nat} {w w':World} (h:HRel φ hp nx w) {f:Nat} (hf:nx≤f) (o:Ob) (p:Place) (hb:Go.RowKit.Below w.heap.size w w')
  (hpl:∀ b,p.S b→w.heap.size≤b) (ho:Orel (phiSet φ f p) (okb (phiSet φ f p) ((f,o) :: hp)) w' f o):HRel (phiSet φ f p) ((f,o) :: hp) (f + 1) w' where
 ob:=fun id o' h1=>by
  simp only [lookA,ifb] at h1
  split at h1
  ·rename_i e; subst e; cases h1; exact ho
  ·refine (h.ob id o' h1).evo (Xq h hf o p hb hpl) (fun q b hq hS=>?_)
   obtain ⟨q',hq',hl⟩:=(h.ob id o' h1).has
   rw [hq] at hq'; cases hq'
   exact hb.block b (hl b hS)
 fr:=fun id hl=>by
  unfold phiSet
  rw [if_neg (by omega)]
  exact h.fr id (by omega)
 dj:=fun i j o1 o2 p1 p2 b h1 h2 hne h3 h4 h5 h6=>by
  simp only [lookA,ifb] at h1 h2
  unfold phiSet at h3 h4
  by_cases hi:i = f
  ·subst hi
   rw [if_pos rfl] at h3; cases h3
   have hj:¬ i = j:=hne
   rw [if_neg hj] at h2
   rw [if_neg (fun e=>hj e.symm)] at h4
   obtain ⟨q',hq',hl⟩:=(h.ob j o2 h2).has
   rw [h4] at hq'; cases hq'
   have:=hl b h6; have:=hpl b h5; omega
  ·rw [if_neg (fun e=>hi e.symm)] at h1
   rw [if_neg hi] at h3
   by_cases hj:j = f
   ·subst hj
    rw [if_pos rfl] at h4; cases h4
    obtain ⟨q',hq',hl⟩:=(h.ob i o1 h1).has
    rw [h3] at hq'; cases hq'
    have:=hl b h5; have:=hpl b h6; omega
   ·rw [if_neg (fun e=>hj e.symm)] at h2
    rw [if_neg hj] at h4
    exact h.dj i j o1 o2 p1 p2 b h1 h2 hne h3 h4 h5 h6
structure Turned (w w':World) (g:Nat):Prop where
 os:w'.os = w.os
 tape:w'.tape = w.tape
 output:w'.output = w.output
 size:w'.heap.size = w.heap.size
 bl:∀ k,k ≠ g→w'.heap[k]? = w.heap[k]?
theorem evo_turn {φ:Phi} {hp:Hp} {nx:Nat} {w w':World} (h:HRel φ hp nx w) {g id:Nat} {o:Ob} {p:Place} (ho:lookA hp id = some o) (hpl:φ id = some p) (hS:p.S g) (ht:Turned w w' g)
  (kill:List Nat) (o':Ob) {p':Place} {f:Nat} (hf:nx≤f) (hp':∀ b,p'.S b→b = g):Evo φ hp w (phiSet φ f p') ((f,o') :: delAll hp (id :: kill)) w' where
 os:=ht.os
 tape:=ht.tape
 output:=ht.output
 size:=Nat.le_of_eq ht.size.symm
 ph:=fun i q hq=>by
  unfold phiSet
  split
  ·rename_i e; subst e; rw [h.fr i hf] at hq; cases hq
  ·exact hq
 ow:=fun i o1 q b h1 h2 h3=>by
  simp only [lookA,ifb] at h1
  unfold phiSet at h2
  split at h1
  ·rename_i e; subst e
   rw [if_pos rfl] at h2; cases h2
   rw [hp' b h3]
   exact .inr fun hk=>hk id o p ho hpl hS
  ·rename_i hne
   rw [if_neg (fun e=>hne e.symm)] at h2
   rw [Z0] at h1
   split at h1
   ·cases h1
   ·exact .inr fun hk=>hk i o1 q h1 h2 h3
 bl:=fun b _ hb=>ht.bl b fun e=>by subst e; exact hb id o p ho hpl hS
theorem HRel.turn {φ:Phi} {hp:Hp} {nx:Nat} {w w':World} (h:HRel φ hp nx w) {g id:Nat} {o:Ob} {p:Place} (ho:lookA hp id = some o) (hpl:φ id = some p) (hS:p.S g) (ht:Turned w w' g)
  (kill:List Nat) (o':Ob) {p':Place} {f:Nat} (hf:nx≤f) (hp':∀ b,p'.S b→b = g)
  (hn:Orel (phiSet φ f p') (okb (phiSet φ f p') ((f,o') :: VM.delAll hp (id :: kill))) w' f o'):HRel (phiSet φ f p') ((f,o') :: VM.delAll hp (id :: kill)) (f + 1) w' where
 ob:=fun i o1 h1=>by
  simp only [lookA,ifb] at h1
  split at h1
  ·rename_i e; subst e; cases h1; exact hn
  ·rw [Z0] at h1
   split at h1
   ·cases h1
   ·rename_i hm
    refine (h.ob i o1 h1).evo (evo_turn h ho hpl hS ht kill o' hf hp') (fun q b hq hb=>ht.bl b fun e=>?_)
    subst e
    exact h.dj i id o1 o q p b h1 ho (fun e=>hm (by simp [e])) hq hpl hb hS
 fr:=fun i hl=>by
  unfold phiSet
  rw [if_neg (by omega)]
  exact h.fr i (by omega)
 dj:=fun i j o1 o2 p1 p2 b h1 h2 hne h3 h4 h5 h6=>by
  simp only [lookA,ifb] at h1 h2
  unfold phiSet at h3 h4
  by_cases hi:i = f
  ·subst hi
   rw [if_pos rfl] at h3; cases h3
   have hj:¬ i = j:=hne
   rw [if_neg hj,Z0] at h2
   rw [if_neg (fun e=>hj e.symm)] at h4
   split at h2
   ·cases h2
   ·rename_i hm
    rw [hp' b h5] at h6
    exact h.dj j id o2 o p2 p g h2 ho (fun e=>hm (by simp [e])) h4 hpl h6 hS
  ·rw [if_neg (fun e=>hi e.symm),Z0] at h1
   rw [if_neg hi] at h3
   split at h1
   ·cases h1
   ·rename_i hm
    by_cases hj:j = f
    ·subst hj
     rw [if_pos rfl] at h4; cases h4
     rw [hp' b h6] at h5
     exact h.dj i id o1 o p1 p g h1 ho (fun e=>hm (by simp [e])) h3 hpl h5 hS
    ·rw [if_neg (fun e=>hj e.symm),Z0] at h2
     rw [if_neg hj] at h4
     split at h2
     ·cases h2
     ·exact h.dj i j o1 o2 p1 p2 b h1 h2 hne h3 h4 h5 h6
theorem Xh {hp:Hp} {id i:Nat} {o o' o1:Ob} {kill:List Nat} (ho:lookA hp id = some o) (h:lookA (setA (VM.delAll hp kill) id o') i = some o1):(i = id∧o1 = o')∨(i ≠ id∧i ∉ kill∧lookA hp i = some o1):=by
 rw [Xa] at h
 split at h
 ·rename_i e; cases h; exact .inl ⟨e,rfl⟩
 ·rename_i hne
  rw [Z0] at h
  split at h
  ·cases h
  ·rename_i hm; exact .inr ⟨hne,hm,h⟩
theorem Y6 {φ:Phi} {hp:Hp} {w w':World} {g id:Nat} {o:Ob} {p:Place} (ho:lookA hp id = some o) (hpl:φ id = some p) (hS:p.S g) (ht:Turned w w' g)
  (kill:List Nat) (o':Ob):Evo φ hp w φ (setA (VM.delAll hp kill) id o') w' where
 os:=ht.os
 tape:=ht.tape
 output:=ht.output
 size:=Nat.le_of_eq ht.size.symm
 ph:=fun i q hq=>hq
 ow:=fun i o1 q b h1 h2 h3=>by
  rcases Xh ho h1 with ⟨rfl,rfl⟩ | ⟨_,_,h4⟩
  ·exact .inr fun hk=>hk i o q ho h2 h3
  ·exact .inr fun hk=>hk i o1 q h4 h2 h3
 bl:=fun b _ hb=>ht.bl b fun e=>by subst e; exact hb id o p ho hpl hS
theorem HRel.upd {φ:Phi} {hp:Hp} {nx:Nat} {w w':World} (h:HRel φ hp nx w) {g id:Nat} {o:Ob} {p:Place} (ho:lookA hp id = some o) (hpl:φ id = some p) (hS:p.S g) (ht:Turned w w' g)
  (kill:List Nat) (o':Ob) (hn:Orel φ (okb φ (setA (VM.delAll hp kill) id o')) w' id o'):HRel φ (setA (VM.delAll hp kill) id o') nx w' where
 ob:=fun i o1 h1=>by
  rcases Xh ho h1 with ⟨rfl,rfl⟩ | ⟨hne,_,h4⟩
  ·exact hn
  ·refine (h.ob i o1 h4).evo (Y6 ho hpl hS ht kill o') (fun q b hq hb=>ht.bl b fun e=>?_)
   subst e
   exact h.dj i id o1 o q p b h4 ho hne hq hpl hb hS
 fr:=h.fr
 dj:=fun i j o1 o2 p1 p2 b h1 h2 hne h3 h4 h5=>by
  rcases Xh ho h1 with ⟨rfl,rfl⟩ | ⟨_,_,k1⟩ <;> rcases Xh ho h2 with ⟨rfl,rfl⟩ | ⟨_,_,k2⟩
  ·exact absurd rfl hne
  ·exact h.dj i j o o2 p1 p2 b ho k2 hne h3 h4 h5
  ·exact h.dj i j o1 o p1 p2 b k1 ho hne h3 h4 h5
  ·exact h.dj i j o1 o2 p1 p2 b k1 k2 hne h3 h4 h5
def Good (φ:Phi) (hp:Hp) (w:World) (f:Nat) (x:V) (news:List Ob) (kill:List Nat) (run:Result Value):Prop :=
 ∃ v w' φ' hp',run = .ok v w'∧hp' = (news.zipIdx.map fun p=>(f + p.2,p.1)) ++ delAll hp kill∧HRel φ' hp' (f + news.length) w'∧Evo φ hp w φ' hp' w'∧Vrel φ' (okb φ' hp') w' x v∧∀ id,id < f→φ' id = φ id
theorem Zf {φ:Phi} {hp:Hp} {w:World} {f:Nat} {x:V} {v:Value} {run:Result Value} (h:HRel φ hp f w) (hr:run = .ok v w) (hv:Vrel φ (okb φ hp) w x v) :
  Good φ hp w f x [] [] run:=⟨v,w,φ,hp,hr,rfl,h,Evo.refl _ _ _,hv,fun _ _=>rfl⟩
theorem good_turn {φ:Phi} {hp:Hp} {w w':World} {f:Nat} {x:V} {v:Value} {run:Result Value} (h:HRel φ hp f w) {g id:Nat} {o:Ob} {p:Place} (ho:lookA hp id = some o) (hpl:φ id = some p) (hS:p.S g) (ht:Turned w w' g)
  (kill:List Nat) (o':Ob) {p':Place} (hp':∀ b,p'.S b→b = g) (hr:run = .ok v w')
  (hn:Orel (phiSet φ f p') (okb (phiSet φ f p') ((f,o') :: delAll hp (id :: kill))) w' f o') (hv:Vrel (phiSet φ f p') (okb (phiSet φ f p') ((f,o') :: delAll hp (id :: kill))) w' x v) :
  Good φ hp w f x [o'] (id :: kill) run :=
 ⟨v,w',_,_,hr,rfl,h.turn ho hpl hS ht kill o' (Nat.le_refl _) hp' hn,evo_turn h ho hpl hS ht kill o' (Nat.le_refl _) hp',hv,fun id hid=>by unfold phiSet; rw [if_neg (by omega)]⟩
def FRok (φ:Phi) (hp:Hp) (w:World) (f:Nat):FR→Result Value→Prop
 | .v x,run=>Good φ hp w f x [] [] run
 | .b c,run=>Good φ hp w f (.c (.bool c)) [] [] run
 | .amb,run=>∃ c,Good φ hp w f (.c (.bool c)) [] [] run
 | .br c r r',run=>(c = true→FRok φ hp w f r run)∧(c = false→FRok φ hp w f r' run)
 | .o p r,run=>p→FRok φ hp w f r run
 | .new x news kill,run=>Good φ hp w f x news kill run
 | .upd id o kill,run=>∃ v w',run = .ok v w'∧HRel φ (setA (delAll hp kill) id o) f w'∧Evo φ hp w φ (setA (delAll hp kill) id o) w'
 | .bad,_=>True
end Go.VM
namespace Go.VM
open Go
section
variable {P:Program} {E:Ev} {φ:Phi} {ok:Nat→Prop} {w:World}
theorem run_info {t:TypeId} {x:TypeInfo} (h:P.info? t = some x) (w:World):(typeInfo t).run P w = .ok x w:=by
 simp [typeInfo,h]
theorem YB {t:TypeId} {i:TI} (h:TIok P t i) (w:World):(sizeOf t).run P w = .ok i.size w:=by
 obtain ⟨x,hx,h1,_⟩:=h.info
 simp [sizeOf,run_info hx,h1]
theorem Yi {t:TypeId} {d:TypeDesc} (h:P.underlying t = some d) (w:World):(underlying t).run P w = .ok d w:=run_underlying h w
theorem run_isAgg {t:TypeId} {i:TI} (h:TIok P t i) (w:World):(isAgg t).run P w = .ok i.kd.isAgg w:=by
 have hu:=h.und
 unfold isAgg
 cases hk:i.kd <;> simp only [hk] at hu <;>
  first
   | (simp [Yi hu,Kd.isAgg]; done)
   | (obtain ⟨a,h1,_⟩:=hu; simp [Yi h1,Kd.isAgg]; done)
   | (obtain ⟨a,b,c,h1⟩:=hu; simp [Yi h1,Kd.isAgg]; done)
theorem XG {t:TypeId} {i:TI} (h:TIok P t i) (w:World):∃ z,(zeroValue t).run P w = .ok z w∧z.cells.toList = i.zero.map Z.val:=by
 obtain ⟨x,hx,_,_,h3⟩:=h.info
 cases hz:x.zero with
 | none=>simp [hz] at h3
 | some z =>
   refine ⟨z,?_,?_⟩
   ·simp [zeroValue,run_info hx,hz]
   ·simpa [hz] using h3
theorem Xg {t:TypeId} {i:TI} (h:TIok P t i) (a:Addr) (vs:List Value) (hl:vs.length = i.size) (hc:∀ j v,vs[j]? = some v→w.cell? (a.add j) = some v) :
  ∃ v,(loadVar t a).run P w = .ok v w∧(if i.kd.isAgg then v = .agg vs.toArray else vs = [v]):=by
 by_cases ha:i.kd.isAgg = true
 ·refine ⟨.agg vs.toArray,?_,by simp [ha]⟩
  have:=run_loadCells_list (P:=P) w a vs hc
  rw [hl] at this
  simp [loadVar,run_isAgg h,ha,YB h,this]
 ·have ha':i.kd.isAgg = false:=by simpa using ha
  have h1:i.size = 1:=h.one ha'
  match vs,hl with
  | [v],_ =>
    refine ⟨v,?_,by simp [ha']⟩
    have:=hc 0 v rfl
    have ha0:a.add 0 = a:=by simp [Addr.add]
    rw [ha0] at this
    simp [loadVar,run_isAgg h,ha',this]
  | [],hl=>simp [h1] at hl
  | _ :: _ :: _,hl=>simp [h1] at hl
theorem mkV_ok {hp:Hp} {f:Nat} (hh:HRel φ hp f w) {b:Bool} {cs:List C} {vs:List Value} (hl:L2 (Crel φ (okb φ hp) w) cs vs) {v:Value} {run:Result Value} (hr:run = .ok v w)
  (hv:if b then v = .agg vs.toArray else vs = [v]):FRok φ hp w f (mkV b cs) run:=by
 unfold mkV
 cases b
 ·simp only [Bool.false_eq_true,if_false] at hv ⊢
  subst hv
  match cs,hl with
  | [x],hl=>exact Zf hh hr hl.1
 ·simp only [if_true] at hv ⊢
  exact Zf hh hr ⟨vs,hv,hl⟩
theorem Yu (b o j:Nat):(⟨b,o,none⟩:Addr).add j = ⟨b,o + j,none⟩:=by unfold Addr.add; split <;> simp_all
theorem add_add (a:Addr) (m n:Nat):(a.add m).add n = a.add (m + n):=by
 unfold Addr.add
 by_cases h0:m = 0
 ·subst h0; simp
 ·by_cases h1:n = 0
  ·subst h1; simp
  ·simp [h0,h1,Nat.add_assoc]
theorem Xd {b o:Nat} {arr:Array Value} {t:TypeId} {fz:Nat × Nat} (h:w.heap[b]? = some (.cells arr t fz)):w.cell? ⟨b,o,none⟩ = arr[o]?:=by
 simp [World.cell?,h]
theorem YU {φ:Phi} {ok:Nat→Prop} {w:World}:∀ (t:Ty) (x:t.D) (vs:List Value),K ok w t x vs→L2 (Crel φ ok w) (expl t x) vs
 | .int _,_,_,h=>by simp only [K] at h; subst h; exact ⟨rfl,trivial⟩
 | .bool,_,_,h=>by simp only [K] at h; subst h; exact ⟨rfl,trivial⟩
 | .str,_,_,h=>by simp only [K] at h; subst h; exact ⟨rfl,trivial⟩
 | .sl e,l,vs,h=>by
   have h':=h
   obtain ⟨A,c,rfl,_⟩:=h'
   exact ⟨h,trivial⟩
 | .pair a b,x,vs,h=>by
   obtain ⟨c1,c2,rfl,h1,h2⟩:=h
   exact YA (YU a _ _ h1) (YU b _ _ h2)
 | .wrap a,x,vs,h=>YU a x vs h
variable {hp:Hp} {f:Nat}
theorem YM {α:Type} {l:List α} {a n i:Nat} {x:α} (h:((l.drop a).take n)[i]? = some x):l[a + i]? = some x:=by
 rw [List.getElem?_take] at h
 split at h
 ·rwa [List.getElem?_drop] at h
 ·cases h
theorem load_ok (hE:∀ t i,E t = some i→TIok P t i) (hh:HRel φ hp f w) (t:TypeId) (a:V) (v:Value) (hv:Vrel φ (okb φ hp) w a v) :
  FRok φ hp w f (fload Lv.std E (lookA hp) t a) ((Instr.loadAt t v).run P w):=by
 unfold fload
 cases hi:E t with
 | none=>exact trivial
 | some i =>
   have hI:=hE t i hi
   cases a with
   | ipt cs =>
     simp only
     split
     ·rename_i hle
      have hle':i.size≤cs.length:=Nat.le_of_ble_eq_true hle
      obtain ⟨ad,vs,rfl,hl,hc⟩:=hv
      have hlen:=YW hl
      obtain ⟨u,hr,hu⟩:=Xg (P:=P) (w:=w) hI ad (vs.take i.size) (by rw [List.length_take]; omega) (fun j x hx=>by
       have:vs[j]? = some x:=by
        rw [List.getElem?_take] at hx
        split at hx
        ·exact hx
        ·cases hx
       exact (hc j x this).2)
      exact mkV_ok hh (Xr i.size hl) (v:=u) (by simp [Instr.loadAt,Instr.sureAddr,hr]) hu
     ·exact trivial
   | c x =>
     cases x with
     | ptr id off =>
       simp only
       cases ho:lookA hp id with
       | none=>exact trivial
       | some o =>
         cases o with
         | box t' cs =>
           simp only
           split
           ·rename_i hle
            have hle':off + i.size≤cs.length:=Nat.le_of_ble_eq_true hle
            obtain ⟨b,sz,cap,nn,h1,rfl⟩:=hv
            obtain ⟨b',vs,h2,h3,h4⟩:=hh.ob id _ ho
            rw [h1] at h2; cases h2
            have hlen:=YW h4
            obtain ⟨u,hr,hu⟩:=Xg (P:=P) (w:=w) hI ⟨b,off,none⟩ ((vs.drop off).take i.size) (by rw [List.length_take,List.length_drop]; omega) (fun j x hx=>by
             rw [Yu,Xd h3]
             have:=YM hx
             simpa using this)
            exact mkV_ok hh (Xr i.size (Xs off h4)) (v:=u) (by simp [Instr.loadAt,Instr.sureAddr,hr]) hu
           ·exact trivial
         | _=>exact trivial
     | elp id j off =>
       simp only
       cases ho:lookA hp id with
       | none=>exact trivial
       | some o =>
         cases o with
         | box t' cs=>exact trivial
         | rowf t' e l q cs =>
           simp only
           split
           ·rename_i hle
            have hle':off + i.size≤e.n:=Nat.le_of_ble_eq_true hle
            intro hq
            subst hq
            obtain ⟨b,sz,cap,nn,h1,rfl⟩:=hv
            obtain ⟨b',cap',arr,h2,h3,h4,h5,h6,h7,h8,vs,h9,h10⟩:=hh.ob id _ ho
            rw [h1] at h2; cases h2
            have hlen:=YW h9
            obtain ⟨u,hr,hu⟩:=Xg (P:=P) (w:=w) hI ⟨b,j * e.n + off,none⟩ ((vs.drop off).take i.size) (by rw [List.length_take,List.length_drop]; omega) (fun q y hy=>by
             rw [Yu,Xd h3]
             have:=h10 _ _ (YM hy)
             rw [show j * e.n + off + q = j * e.n + (off + q) by omega]; exact this)
            exact mkV_ok hh (Xr i.size (Xs off h9)) (v:=u) (by simp [Instr.loadAt,Instr.sureAddr,hr]) hu
           ·exact trivial
         | map k' v' l=>exact trivial
         | mapc l=>exact trivial
         | amb=>exact trivial
         | row t' e l =>
           simp only
           split
           ·rename_i hle
            have hle':off + i.size≤e.n:=Nat.le_of_ble_eq_true hle
            intro hlt
            have hlt':j < List.length (α:=e.D) l:=hlt
            obtain ⟨b,sz,cap,nn,h1,rfl⟩:=hv
            rcases hh.ob id _ ho with ⟨h2,h3⟩ | ⟨b',cap',arr,h2,h3,h4,h5,h6⟩
            ·rw [h1] at h2; cases h2
            ·rw [h1] at h2; cases h2
             obtain ⟨x,hx⟩:∃ x,l[j]? = some x:=⟨_,List.getElem?_eq_getElem hlt'⟩
             obtain ⟨vs,hk,hvs⟩:=h6 j x hx
             have hlen:=Xz e x vs hk
             have hg:Lv.std.get e l j = x:=by show (l[j]?).getD e.dflt = x; rw [hx]; rfl
             rw [hg]
             obtain ⟨u,hr,hu⟩:=Xg (P:=P) (w:=w) hI ⟨b,j * e.n + off,none⟩ ((vs.drop off).take i.size) (by rw [List.length_take,List.length_drop]; omega) (fun q y hy=>by
              rw [Yu,Xd h3]
              have:=hvs _ _ (YM hy)
              rw [show j * e.n + off + q = j * e.n + (off + q) by omega]; exact this)
             exact mkV_ok hh (Xr i.size (Xs off (YU e x vs hk))) (v:=u) (by simp [Instr.loadAt,Instr.sureAddr,hr]) hu
           ·exact trivial
     | _=>exact trivial
   | _=>exact trivial
end
end Go.VM
namespace Go.VM
open Go
section
variable {P:Program} {E:Ev} {φ:Phi} {w:World} {hp:Hp} {f:Nat}
theorem fieldOf_ok (hE:∀ t i,E t = some i→TIok P t i) {s:TypeId} {k off:Nat} {t:TypeId} (h:fieldOf E s k = some (off,t)) :
  ∃ (a:Array Field) (g:Field),P.underlying s = some (.struct a)∧a[k]? = some g∧g.offset = off∧g.type = t:=by
 unfold fieldOf at h
 cases hi:E s with
 | none=>rw [hi] at h; cases h
 | some i =>
   rw [hi] at h
   simp only at h
   cases hk:i.kd <;> rw [hk] at h <;> simp only at h <;> try cases h
   have hu:=(hE s i hi).und
   rw [hk] at hu
   obtain ⟨a,h1,h2,_⟩:=hu
   rw [← h2,List.getElem?_map] at h
   cases hg:a.toList[k]? with
   | none=>rw [hg] at h; cases h
   | some g =>
     rw [hg] at h
     simp only [Option.map_some,Option.some.injEq,Prod.mk.injEq] at h
     exact ⟨a,g,h1,by rw [← Array.getElem?_toList]; exact hg,h.1,h.2⟩
theorem YP (hE:∀ t i,E t = some i→TIok P t i) {t:TypeId} (h:0 < szOf E t):∃ i,E t = some i∧szOf E t = i.size∧TIok P t i:=by
 unfold szOf at h ⊢
 cases hi:E t with
 | none=>rw [hi] at h; simp at h
 | some i=>exact ⟨i,rfl,rfl,hE t i hi⟩
theorem fieldAddr_ok (hE:∀ t i,E t = some i→TIok P t i) (hh:HRel φ hp f w) (s:TypeId) (a:V) (k:Nat) (v:Value) (hv:Vrel φ (okb φ hp) w a v) :
  FRok φ hp w f (ffieldAddr E s a k) ((Instr.fieldAt s v k).run P w):=by
 unfold ffieldAddr
 cases hf:fieldOf E s k with
 | none=>exact trivial
 | some p =>
   obtain ⟨off,t⟩:=p
   simp only
   split
   ·rename_i hb
    have hb':0 < szOf E t:=by
     have:=hb
     simp only [Nat.blt] at this
     exact Nat.le_of_ble_eq_true this
    obtain ⟨i,hi,hsz,hI⟩:=YP hE hb'
    obtain ⟨fa,g,h1,h2,h3,h4⟩:=fieldOf_ok hE hf
    have hrun:∀ ad:Addr,(Instr.fieldAt s (.pointer (some ad)) k).run P w = .ok (.pointer (some (ad.add off))) w:=fun ad=>by
     have hne:¬ i.size = 0:=by have:=hI.ne; omega
     have hsz:(sizeOf g.type).run P w = .ok i.size w:=by rw [h4]; exact YB hI w
     simp [Instr.fieldAt,Yi h1,h2,Instr.sureAddr,fieldPlace,hsz,hne,h3]
    cases a with
    | c x =>
      cases x with
      | ptr id o =>
        obtain ⟨b,sz,cap,nn,h5,rfl⟩:=hv
        exact Zf hh (hrun _) ⟨b,sz,cap,nn,h5,by rw [Yu]⟩
      | elp id j o =>
        obtain ⟨b,sz,cap,nn,h5,rfl⟩:=hv
        exact Zf hh (hrun _) ⟨b,sz,cap,nn,h5,by rw [Yu]; rw [Nat.add_assoc]⟩
      | _=>exact trivial
    | ipt cs =>
      obtain ⟨ad,vs,rfl,hl,hc⟩:=hv
      refine Zf hh (hrun _) ⟨_,vs.drop off,rfl,Xs off hl,fun i u hu=>?_⟩
      rw [List.getElem?_drop] at hu
      obtain ⟨hok,hcell⟩:=hc _ _ hu
      refine ⟨by rw [Xc]; exact hok,?_⟩
      rw [add_add]; exact hcell
    | _=>exact trivial
   ·exact trivial
theorem run_part {t:TypeId} {i:TI} (hI:TIok P t i) (vs:List Value) (off:Nat) (hl:off + i.size≤vs.length) :
  ∃ v,(part t vs.toArray off).run P w = .ok v w∧(if i.kd.isAgg then v = .agg ((vs.drop off).take i.size).toArray else (vs.drop off).take i.size = [v]):=by
 by_cases ha:i.kd.isAgg = true
 ·refine ⟨_,?_,by simp [ha]; rfl⟩
  simp only [part,Sem.run_bind,run_isAgg hI,ha,Result.andThen_ok,if_true,YB hI,Sem.run_pure]
  congr 2
  apply Array.ext'
  simp [Nat.add_sub_cancel_left]
 ·have ha':i.kd.isAgg = false:=by simpa using ha
  have h1:=hI.one ha'
  have hlt:off < vs.length:=by omega
  refine ⟨vs[off],?_,?_⟩
  ·simp [part,run_isAgg hI,ha',hlt]
  ·simp only [ha',Bool.false_eq_true,if_false,h1]
   rw [List.drop_eq_getElem_cons hlt]; rfl
theorem field_ok (hE:∀ t i,E t = some i→TIok P t i) (hh:HRel φ hp f w) (s:TypeId) (a:V) (k:Nat) (v:Value) (hv:Vrel φ (okb φ hp) w a v) :
  FRok φ hp w f (ffield E s a k) ((Instr.field s v k).run P w):=by
 unfold ffield
 cases hf:fieldOf E s k with
 | none=>exact trivial
 | some p =>
   obtain ⟨off,t⟩:=p
   simp only
   cases hi:E t with
   | none=>exact trivial
   | some i =>
     simp only
     cases a with
     | agg cs =>
       simp only
       split
       ·rename_i hle
        have hle':=Nat.le_of_ble_eq_true hle
        have hI:=hE t i hi
        obtain ⟨fa,g,h1,h2,h3,h4⟩:=fieldOf_ok hE hf
        obtain ⟨vs,rfl,hl⟩:=hv
        have hlen:=YW hl
        obtain ⟨u,hr,hu⟩:=run_part (P:=P) (w:=w) hI vs off (by omega)
        refine mkV_ok hh (Xr i.size (Xs off hl)) (v:=u) ?_ hu
        simp [Instr.field,Yi h1,h2,asAgg,h3,h4,hr]
       ·exact trivial
     | _=>exact trivial
theorem Xu (hE:∀ t i,E t = some i→TIok P t i) {t et:TypeId} (h:elemOf E t = some et):P.underlying t = some (.slice et):=by
 unfold elemOf at h
 cases hi:E t with
 | none=>rw [hi] at h; cases h
 | some i =>
   rw [hi] at h
   simp only at h
   cases hk:i.kd <;> rw [hk] at h <;> simp only at h <;> try cases h
   have hu:=(hE t i hi).und
   rw [hk] at hu
   exact hu
theorem Yt {a b:Nat} (h:Nat.beq a b = true):a = b:=Nat.eq_of_beq_eq_true h
theorem arrOf_ok (hE:∀ t i,E t = some i→TIok P t i) {t et:TypeId} {m:Nat} (h:arrOf E t = some (m,et)):P.underlying t = some (.array m et):=by
 unfold arrOf at h
 cases hi:E t with
 | none=>rw [hi] at h; cases h
 | some i =>
   rw [hi] at h
   simp only at h
   cases hk:i.kd <;> rw [hk] at h <;> simp only at h <;> try cases h
   have hu:=(hE t i hi).und
   rw [hk] at hu
   exact hu
theorem farr_ok (hh:HRel φ hp f w) {id off sz:Nat} {n:Int} {b s2 cap nn:Nat} (hφ:φ id = some (.at b s2 cap nn)) {run:Result Value} (hr:run = .ok (.pointer (some ⟨b,off + n.toNat * sz,none⟩)) w):∀ (r j:Nat),FRok φ hp w f (farr Lv.std n id off sz j r) run
 | 0,j=>trivial
 | r + 1,j=>by
   refine ⟨fun hc=>?_,fun _=>farr_ok hh hφ hr r (j + 1)⟩
   have hj:n = (j:Int):=by
    have:(n == Int.ofNat j) = true:=hc
    simpa using this
   subst hj
   exact Zf hh hr ⟨b,s2,cap,nn,hφ,rfl⟩
theorem indexArr_ok (hE:∀ t i,E t = some i→TIok P t i) (hh:HRel φ hp f w) (t:TypeId) (x i:V) (vx vi:Value) (hx:Vrel φ (okb φ hp) w x vx) (hi:Vrel φ (okb φ hp) w i vi) :
  FRok φ hp w f (findexArr Lv.std E t x i) ((Instr.indexAt t vx vi).run P w):=by
 unfold findexArr
 split
 ·rename_i m et he
  have hu:=arrOf_ok hE he
  split
  ·rename_i id off k n
   split
   ·rename_i hb
    intro hin
    obtain ⟨h0,h1⟩:0≤n∧n < (m:Int):=hin
    obtain rfl:vi = .int k n:=hi
    obtain ⟨b,s2,cap,nn,hφ,rfl⟩:=hx
    obtain ⟨ii,hii,hszi,hI⟩:=YP hE (Nat.le_of_ble_eq_true hb)
    refine farr_ok hh hφ ?_ m 0
    have hs:(sizeOf et).run P w = .ok (szOf E et) w:=by rw [YB hI,← hszi]
    simp [Instr.indexAt,asIntOf,Yi hu,h0,h1,hs,Yu,Instr.sureAddr]
   ·exact trivial
  ·exact trivial
 ·exact trivial
theorem indexAddr_ok (hE:∀ t i,E t = some i→TIok P t i) (hh:HRel φ hp f w) (t:TypeId) (x i:V) (vx vi:Value) (hx:Vrel φ (okb φ hp) w x vx) (hi:Vrel φ (okb φ hp) w i vi) :
  FRok φ hp w f (findexAddr Lv.std E (lookA hp) t x i) ((Instr.indexAt t vx vi).run P w):=by
 unfold findexAddr
 cases he:elemOf E t with
 | none=>exact indexArr_ok hE hh t x i vx vi hx hi
 | some et =>
   have hu:=Xu hE he
   simp only
   split
   ·rename_i id len k n
    cases ho:lookA hp id with
    | none=>exact trivial
    | some o =>
      cases o with
      | box t' cs=>exact trivial
      | rowf t' e l q cs =>
        simp only
        split
        ·rename_i hb
         have hsz:=Yt hb
         intro hin
         obtain ⟨h0,h1⟩:0≤n∧n < (len:Int):=hin
         obtain rfl:vi = .int k n:=hi
         obtain ⟨ii,hii,hszi,hI⟩:=YP hE (by rw [← hsz]; exact e.n_pos)
         rcases hx with ⟨h2,h3,A,rfl⟩ | ⟨b,sz,cap,nn,h2,h3,rfl⟩
         ·omega
         ·obtain ⟨b',cap',arr,h4,h5,_⟩:=hh.ob id _ ho
          rw [h2] at h4; cases h4
          refine Zf hh (v:=.pointer (some ⟨b,n.toNat * e.n,none⟩)) ?_ ⟨b,e.n,cap,_,h2,rfl⟩
          have hs:(sizeOf et).run P w = .ok e.n w:=by rw [YB hI,← hszi,← hsz]
          simp [Instr.indexAt,asIntOf,Yi hu,h0,h1,hs,Yu]
        ·exact trivial
      | map k' v' l=>exact trivial
      | mapc l=>exact trivial
      | amb=>exact trivial
      | row t' e l =>
        simp only
        split
        ·rename_i hb
         have hsz:=Yt hb
         intro hin
         obtain ⟨h0,h1⟩:0≤n∧n < (len:Int):=hin
         obtain rfl:vi = .int k n:=hi
         obtain ⟨ii,hii,hszi,hI⟩:=YP hE (by rw [← hsz]; exact e.n_pos)
         rcases hx with ⟨h2,h3,A,rfl⟩ | ⟨b,sz,cap,nn,h2,h3,rfl⟩
         ·omega
         ·rcases hh.ob id _ ho with ⟨h4,_⟩ | ⟨b',cap',arr,h4,h5,_⟩
          ·rw [h2] at h4; cases h4
          ·rw [h2] at h4; cases h4
           refine Zf hh (v:=.pointer (some ⟨b,n.toNat * e.n,none⟩)) ?_ ⟨b,e.n,cap,_,h2,rfl⟩
           have hs:(sizeOf et).run P w = .ok e.n w:=by rw [YB hI,← hszi,← hsz]
           simp [Instr.indexAt,asIntOf,Yi hu,h0,h1,hs,Yu]
        ·exact trivial
   ·rename_i id off len k n
    cases ho:lookA hp id with
    | none=>exact trivial
    | some o =>
      cases o with
      | row t' e l =>
        simp only
        split
        ·rename_i hb
         have hsz:=Yt hb
         intro hin
         obtain ⟨h0,h1⟩:0≤n∧n < (len:Int):=hin
         obtain rfl:vi = .int k n:=hi
         obtain ⟨ii,hii,hszi,hI⟩:=YP hE (by rw [← hsz]; exact e.n_pos)
         rcases hx with ⟨h2,_⟩ | ⟨b,sz,cap,nn,h2,h3,rfl⟩
         ·omega
         ·rcases hh.ob id _ ho with ⟨h4,_⟩ | ⟨b',cap',arr,h4,h5,_⟩
          ·rw [h2] at h4; cases h4
          ·rw [h2] at h4; cases h4
           refine Zf hh (v:=.pointer (some ⟨b,(off + n.toNat) * e.n,none⟩)) ?_ ⟨b,e.n,cap,_,h2,rfl⟩
           have hs:(sizeOf et).run P w = .ok e.n w:=by rw [YB hI,← hszi,← hsz]
           have hadd:(⟨b,off * e.n,none⟩:Addr).add (n.toNat * e.n) = ⟨b,(off + n.toNat) * e.n,none⟩:=by
            rw [Nat.add_mul]; unfold Addr.add; split <;> simp_all
           simp [Instr.indexAt,asIntOf,Yi hu,h0,h1,hs,hadd]
        ·exact trivial
      | _=>exact trivial
   ·rename_i e l k n
    split
    ·rename_i hb
     have hsz:=Yt hb
     intro hin
     obtain ⟨h0,h1⟩:0≤n∧n < ((List.length (α:=e.D) l:Nat):Int):=hin
     obtain rfl:vi = .int k n:=hi
     obtain ⟨ii,hii,hszi,hI⟩:=YP hE (by rw [← hsz]; exact e.n_pos)
     obtain ⟨A,c,hc1,hc2,hc3⟩:=hx
     obtain rfl:vx = .slice A (List.length (α:=e.D) l) c:=by simpa using hc1
     obtain ⟨ad,rfl,hok,hj⟩:=hc3 (by omega)
     have hlt:n.toNat < List.length (α:=e.D) l:=by omega
     obtain ⟨y,hy⟩:∃ y,l[n.toNat]? = some y:=⟨_,List.getElem?_eq_getElem hlt⟩
     obtain ⟨vs,hk,hvs⟩:=hj _ _ hy
     have hg:Lv.std.get e l (Lv.std.toN n) = y:=by show (l[n.toNat]?).getD e.dflt = y; rw [hy]; rfl
     rw [hg]
     refine Zf hh (v:=.pointer (some (ad.add (n.toNat * e.n)))) ?_ ⟨_,vs,rfl,YU e y vs hk,fun i u hu=>?_⟩
     ·have hs:(sizeOf et).run P w = .ok e.n w:=by rw [YB hI,← hszi,← hsz]
      simp [Instr.indexAt,asIntOf,Yi hu,h0,h1,hs]
     ·refine ⟨by rw [Xc]; exact hok,?_⟩
      rw [add_add]; exact hvs i u hu
    ·exact trivial
   ·exact trivial
theorem index_ok (hE:∀ t i,E t = some i→TIok P t i) (hh:HRel φ hp f w) (t:TypeId) (x i:V) (vx vi:Value) (hx:Vrel φ (okb φ hp) w x vx) (hi:Vrel φ (okb φ hp) w i vi) :
  FRok φ hp w f (findex Lv.std E t x i) ((Instr.index t vx vi).run P w):=by
 unfold findex
 split
 ·rename_i q s k n hq
  cases hk:q.kd <;> simp only <;> try exact trivial
  have hu:=(hE t q hq).und
  rw [hk] at hu
  simp only at hu
  intro hin
  obtain ⟨h0,h1⟩:0≤n∧n < (s.size:Int):=hin
  obtain rfl:vi = .int k n:=hi
  obtain rfl:vx = .string s:=hx
  have hlt:n.toNat < s.size:=by omega
  have hb:s[n.toNat]? = some s[n.toNat]:=by
   simp [getElem?_pos,hlt]
  refine Zf hh (v:=.int .u8 (s[n.toNat]).toNat) ?_ ?_
  ·simp [Instr.index,asIntOf,Yi hu,h0,hb]
  ·show Value.int .u8 _ = .int .u8 (byteAt s n)
   simp [byteAt,hlt]
 ·exact trivial
end
end Go.VM
