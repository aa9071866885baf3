/- A condition generator over the model's code, proved sound: what a function's body must come to is told as conditions on plain data. Conditions: none of ours. -/
import Derived.Test.YtljepnnnjfalcaaGreatC2
set_option autoImplicit false
set_option linter.all false
namespace Go.VM
open Go Go.Lib
variable {B:Nat × Bool}
def posOf (r:Nat):List Nat→Nat→Option Nat
 | [],_=>none
 | x :: l,i=>if Nat.beq x r then some i else posOf r l (i + 1)
def renId (n:Nat) (R:List Nat) (id:Nat):Option Nat:=match posOf id R n with
 | some j=>some j
 | none=>if Nat.blt id n then some id else none
def renIds (n:Nat) (R:List Nat):List Nat→Option (List Nat)
 | []=>some []
 | id :: l=>match renId n R id,renIds n R l with
   | some j,some m=>some (j :: m)
   | _,_=>none
def renC (n:Nat) (R:List Nat):C→Option C
 | .own id l=>match renId n R id with
   | some j=>some (.own j l)
   | none=>none
 | .ptr id o=>match renId n R id with
   | some j=>some (.ptr j o)
   | none=>none
 | .elp id i o=>match renId n R id with
   | some j=>some (.elp j i o)
   | none=>none
 | .map id=>match renId n R id with
   | some j=>some (.map j)
   | none=>none
 | .fn f caps=>match renIds n R caps with
   | some l=>some (.fn f l)
   | none=>none
 | .selfp id=>match renId n R id with
   | some j=>some (.selfp j)
   | none=>none
 | .owa id o l=>match renId n R id with
   | some j=>some (.owa j o l)
   | none=>none
 | .bool b=>some (.sym b)
 | c=>some c
def renCs (n:Nat) (R:List Nat):List C→Option (List C)
 | []=>some []
 | c :: l=>match renC n R c,renCs n R l with
   | some j,some m=>some (j :: m)
   | _,_=>none
def renV (n:Nat) (R:List Nat):V→Option V
 | .c c=>match renC n R c with
   | some c=>some (.c c)
   | none=>none
 | .agg l=>match renCs n R l with
   | some l=>some (.agg l)
   | none=>none
 | .ipt l=>match renCs n R l with
   | some l=>some (.ipt l)
   | none=>none
 | .tup _=>none
def renPs (n:Nat) (R:List Nat):List (C × C)→Option (List (C × C))
 | []=>some []
 | (a,b) :: l=>match renC n R b,renPs n R l with
   | some j,some m=>some ((a,j) :: m)
   | _,_=>none
def keyC:C→Bool
 | .int _ _ | .str _=>true
 | _=>false
def renO (n:Nat) (R:List Nat):Ob→Option Ob
 | .box t cs=>match renCs n R cs with
   | some cs=>some (.box t cs)
   | none=>none
 | .rowf t e l j cs=>match renCs n R cs with
   | some cs=>some (.rowf t e l j cs)
   | none=>none
 | .mapc l=>if l.all (fun p=>keyC p.1) then match renPs n R l with
   | some l=>some (.mapc l)
   | none=>none
   else none
 | o=>some o
section
variable {φ φ':Phi} {ok ok':Nat→Prop} {w:World} {n:Nat} {R:List Nat}
def phiRen (φ:Phi) (n:Nat) (R:List Nat):Phi:=fun id=>if id < n then φ id else match R[id - n]? with
 | some r=>φ r
 | none=>none
theorem posOf_ok (r:Nat):∀ (l:List Nat) (i j:Nat),posOf r l i = some j→i≤j∧l[j - i]? = some r
 | [],_,_,h=>by cases h
 | x :: l,i,j,h=>by
   unfold posOf at h
   split at h
   ·rename_i e
    cases h
    have:=Yt e
    subst this
    exact ⟨Nat.le_refl _,by simp⟩
   ·obtain ⟨h1,h2⟩:=posOf_ok r l (i + 1) j h
    refine ⟨by omega,?_⟩
    rw [show j - i = (j - (i + 1)) + 1 by omega,List.getElem?_cons_succ]
    exact h2
theorem Yz {id j:Nat} (h:renId n R id = some j):phiRen φ n R j = φ id:=by
 unfold renId at h
 unfold phiRen
 split at h
 ·rename_i k hk
  cases h
  obtain ⟨h1,h2⟩:=posOf_ok id R n j hk
  rw [if_neg (by omega),h2]
 ·split at h
  ·rename_i hlt
   cases h
   have:id < n:=Nat.le_of_ble_eq_true hlt
   rw [if_pos this]
  ·cases h
variable (hok:∀ b,ok b→ok' b)
include hok
theorem renK (t:Ty) (x:t.D) (vs:List Value) (h:K ok w t x vs):K ok' w t x vs:=YI (fun b hb _=>⟨rfl,hok b hb⟩) t x vs h
theorem renIds_ok:∀ (l m:List Nat) (vs:List Value),renIds n R l = some m→L2 (fun id u=>isPtr φ id 0 u) l vs→L2 (fun id u=>isPtr (phiRen φ n R) id 0 u) m vs
 | [],m,[],h,_=>by cases h; exact trivial
 | id :: l,m,v :: vs,h,hl=>by
   unfold renIds at h
   split at h
   ·rename_i j m' h1 h2
    cases h
    obtain ⟨b,sz,cap,nn,g1,g2⟩:=hl.1
    exact ⟨⟨b,sz,cap,nn,by rw [Yz h1]; exact g1,g2⟩,renIds_ok l m' vs h2 hl.2⟩
   ·cases h
 | [],_,_ :: _,_,hl | _ :: _,_,[],_,hl=>hl.elim
theorem renC_ok {c c':C} {v:Value} (h:renC n R c = some c') (hv:Crel φ ok w c v):Crel (phiRen φ n R) ok' w c' v:=by
 cases c <;> simp only [renC] at h
 case own id l =>
  split at h
  ·rename_i j hj
   cases h
   rcases hv with ⟨h1,h2⟩ | ⟨b,sz,cap,nn,h1,h2⟩
   ·exact .inl ⟨by rw [Yz hj]; exact h1,h2⟩
   ·exact .inr ⟨b,sz,cap,nn,by rw [Yz hj]; exact h1,h2⟩
  ·cases h
 case ptr id o =>
  split at h
  ·rename_i j hj
   cases h
   obtain ⟨b,sz,cap,nn,h1,h2⟩:=hv
   exact ⟨b,sz,cap,nn,by rw [Yz hj]; exact h1,h2⟩
  ·cases h
 case owa id o l =>
  split at h
  ·rename_i j hj
   cases h
   rcases hv with h1 | ⟨b,sz,cap,nn,h1,h2⟩
   ·exact .inl h1
   ·exact .inr ⟨b,sz,cap,nn,by rw [Yz hj]; exact h1,h2⟩
  ·cases h
 case selfp id =>
  split at h
  ·rename_i j hj
   cases h
   rcases hv with h1 | ⟨b,sz,cap,nn,h1,h2⟩
   ·exact .inl h1
   ·exact .inr ⟨b,sz,cap,nn,by rw [Yz hj]; exact h1,h2⟩
  ·cases h
 case elp id i o =>
  split at h
  ·rename_i j hj
   cases h
   obtain ⟨b,sz,cap,nn,h1,h2⟩:=hv
   exact ⟨b,sz,cap,nn,by rw [Yz hj]; exact h1,h2⟩
  ·cases h
 case map id =>
  split at h
  ·rename_i j hj
   cases h
   obtain ⟨b,sz,cap,nn,h1,h2⟩:=hv
   exact ⟨b,sz,cap,nn,by rw [Yz hj]; exact h1,h2⟩
  ·cases h
 case fn f caps =>
  split at h
  ·rename_i l hl
   cases h
   obtain ⟨vs,h1,h2⟩:=hv
   exact ⟨vs,h1,renIds_ok hok caps l vs hl h2⟩
  ·cases h
 case bool b=>cases h; exact hv
 case sl e l=>cases h; exact renK hok (.sl e) l _ hv
 all_goals (cases h; exact hv)
theorem renCs_ok:∀ (l m:List C) (vs:List Value),renCs n R l = some m→L2 (Crel φ ok w) l vs→L2 (Crel (phiRen φ n R) ok' w) m vs
 | [],m,[],h,_=>by cases h; exact trivial
 | c :: l,m,v :: vs,h,hl=>by
   unfold renCs at h
   split at h
   ·rename_i j m' h1 h2
    cases h
    exact ⟨renC_ok hok h1 hl.1,renCs_ok l m' vs h2 hl.2⟩
   ·cases h
 | [],_,_ :: _,_,hl | _ :: _,_,[],_,hl=>hl.elim
theorem renCs_len:∀ (l m:List C),renCs n R l = some m→m.length = l.length
 | [],m,h=>by cases h; rfl
 | c :: l,m,h=>by
   unfold renCs at h
   split at h
   ·rename_i j m' h1 h2
    cases h
    simp [renCs_len l m' h2]
   ·cases h
theorem renV_ok {x x':V} {v:Value} (h:renV n R x = some x') (hv:Vrel φ ok w x v):Vrel (phiRen φ n R) ok' w x' v:=by
 cases x <;> simp only [renV] at h
 case c c =>
  split at h
  ·rename_i c' hc
   cases h
   exact renC_ok hok hc hv
  ·cases h
 case agg l =>
  split at h
  ·rename_i l' hl
   cases h
   obtain ⟨vs,h1,h2⟩:=hv
   exact ⟨vs,h1,renCs_ok hok l l' vs hl h2⟩
  ·cases h
 case ipt l =>
  split at h
  ·rename_i l' hl
   cases h
   obtain ⟨ad,vs,h1,h2,h3⟩:=hv
   exact ⟨ad,vs,h1,renCs_ok hok l l' vs hl h2,fun i u hu=>⟨hok _ (h3 i u hu).1,(h3 i u hu).2⟩⟩
  ·cases h
 case tup=>cases h
theorem renPs_ok:∀ (l m:List (C × C)) (es:List MapEntry),renPs n R l = some m→l.all (fun p=>keyC p.1) = true→L2 (fun (x:C × C) (e:MapEntry)=>Crel φ ok w x.1 e.key∧Crel φ ok w x.2 e.val) l es →
  L2 (fun (x:C × C) (e:MapEntry)=>Crel (phiRen φ n R) ok' w x.1 e.key∧Crel (phiRen φ n R) ok' w x.2 e.val) m es
 | [],m,[],h,_,_=>by cases h; exact trivial
 | (a,b) :: l,m,v :: vs,h,hk,hl=>by
   simp only [List.all_cons,Bool.and_eq_true] at hk
   unfold renPs at h
   split at h
   ·rename_i j m' h1 h2
    cases h
    refine ⟨⟨?_,renC_ok hok h1 hl.1.2⟩,renPs_ok l m' vs h2 hk.2 hl.2⟩
    have h3:=hl.1.1
    have h4:=hk.1
    cases a <;> simp only [keyC,Bool.false_eq_true] at h4 <;> exact h3
   ·cases h
 | [],_,_ :: _,_,_,hl | _ :: _,_,[],_,_,hl=>hl.elim
theorem renO_ok {id j:Nat} (hj:renId n R id = some j) {o o':Ob} (h:renO n R o = some o') (hv:Orel φ ok w id o):Orel (phiRen φ n R) ok' w j o':=by
 have hφ:=Yz (φ:=φ) hj
 cases o <;> simp only [renO] at h
 case box t cs =>
  split at h
  ·rename_i l' hl
   cases h
   obtain ⟨b,vs,h1,h2,h3⟩:=hv
   exact ⟨b,vs,by rw [hφ]; exact h1,h2,renCs_ok hok cs l' vs hl h3⟩
  ·cases h
 case row t e l =>
  cases h
  rcases hv with ⟨h1,h2⟩ | ⟨b,cap,arr,h1,h2,h3,h4,h5⟩
  ·exact .inl ⟨by rw [hφ]; exact h1,h2⟩
  ·refine .inr ⟨b,cap,arr,by rw [hφ]; exact h1,h2,h3,h4,fun q x hx=>?_⟩
   obtain ⟨vs,q1,q2⟩:=h5 q x hx
   exact ⟨vs,renK hok _ _ _ q1,q2⟩
 case rowf t e l q cs =>
  split at h
  ·rename_i l' hl
   cases h
   obtain ⟨b,cap,arr,h1,h2,h3,h4,h5,h6,h7,vs,h8,h9⟩:=hv
   refine ⟨b,cap,arr,by rw [hφ]; exact h1,h2,h3,h4,fun q' x hne hx=>?_,h6,by rw [renCs_len hok cs l' hl]; exact h7,vs,renCs_ok hok cs l' vs hl h8,h9⟩
   obtain ⟨vs,q1,q2⟩:=h5 q' x hne hx
   exact ⟨vs,renK hok _ _ _ q1,q2⟩
  ·cases h
 case map k v l =>
  cases h
  obtain ⟨b,es,clock,h1,h2,h3⟩:=hv
  exact ⟨b,es,clock,by rw [hφ]; exact h1,h2,Yo (fun _ _ hh=>⟨renK hok _ _ _ hh.1,renK hok _ _ _ hh.2⟩) h3⟩
 case mapc l =>
  split at h
  ·rename_i hk
   split at h
   ·rename_i l' hl
    cases h
    obtain ⟨b,es,clock,h1,h2,h3⟩:=hv
    exact ⟨b,es,clock,by rw [hφ]; exact h1,h2,renPs_ok hok l l' es.toList hl hk h3⟩
   ·cases h
  ·cases h
 case amb =>
  cases h
  obtain ⟨S,w0,h1,h2⟩:=hv
  exact ⟨S,w0,by rw [hφ]; exact h1,h2⟩
end
def normSl (n:Nat) (R:List Nat) (sl:List (Nat × V)):List Nat→Option (List (Nat × V))
 | []=>some []
 | j :: js=>match lookA sl j with
   | some v=>match renV n R v,normSl n R sl js with
     | some v,some l=>some ((j,v) :: l)
     | _,_=>none
   | none=>none
def insId (x:Nat × Ob):Hp→Hp
 | []=>[x]
 | y :: l=>if Nat.ble x.1 y.1 then x :: y :: l else y :: insId x l
def normHp (n:Nat) (R:List Nat) (hp:Hp):Hp→Hp
 | []=>[]
 | (id,_) :: l=>match renId n R id,lookA hp id with
   | some j,some o=>match renO n R o with
     | some o=>insId (j,o) (normHp n R hp l)
     | none=>normHp n R hp l
   | _,_=>normHp n R hp l
def norm (n:Nat) (js R:List Nat) (s:St):Option St:=match normSl n R s.sl js with
 | some sl=>some { n:=s.n,sl:=sl,hp:=normHp n R s.hp s.hp,nx:=n + R.length }
 | none=>none
theorem mem_insId (x y:Nat × Ob):∀ l:Hp,y ∈ insId x l→y = x∨y ∈ l
 | [],h=>by simp [insId] at h; exact .inl h
 | z :: l,h=>by
   unfold insId at h
   split at h
   ·simpa using h
   ·rcases List.mem_cons.1 h with h | h
    ·exact .inr (by simp [h])
    ·rcases mem_insId x y l h with h | h
     ·exact .inl h
     ·exact .inr (by simp [h])
theorem XQ (n:Nat) (R:List Nat) (hp:Hp) (y:Nat × Ob):∀ l:Hp,y ∈ normHp n R hp l→∃ id o,lookA hp id = some o∧renId n R id = some y.1∧renO n R o = some y.2
 | [],h=>by cases h
 | (id,o) :: l,h=>by
   unfold normHp at h
   split at h
   ·rename_i j o1 h1 h2
    split at h
    ·rename_i o2 h3
     rcases mem_insId _ _ _ h with rfl | h
     ·exact ⟨id,o1,h2,h1,h3⟩
     ·exact XQ n R hp y l h
    ·exact XQ n R hp y l h
   ·exact XQ n R hp y l h
theorem look_mem {α:Type} {x:α} {i:Nat}:∀ l:List (Nat × α),lookA l i = some x→(i,x) ∈ l
 | [],h=>by cases h
 | (k,v) :: l,h=>by
   simp only [lookA,ifb] at h
   split at h
   ·rename_i e; subst e; cases h; simp
   ·simp [look_mem l h]
theorem look_normSl (n:Nat) (R:List Nat) (sl:List (Nat × V)):∀ (js:List Nat) (out:List (Nat × V)),normSl n R sl js = some out→∀ j v,lookA out j = some v→∃ v0,lookA sl j = some v0∧renV n R v0 = some v
 | [],out,h,j,v,hv=>by cases h; cases hv
 | i :: js,out,h,j,v,hv=>by
   unfold normSl at h
   split at h
   ·rename_i v0 h0
    split at h
    ·rename_i v1 l h1 h2
     cases h
     simp only [lookA,ifb] at hv
     split at hv
     ·rename_i e; subst e; cases hv; exact ⟨v0,h0,h1⟩
     ·exact look_normSl n R sl js l h2 j v hv
    ·cases h
   ·cases h
theorem XO {φ:Phi} {s s':St} {a:Act} {w:World} {n:Nat} {js R:List Nat} (h:norm n js R s = some s') (hr:Rel B φ s a w) :
  Rel B (phiRen φ n R) s' a w∧s'.n = s.n∧(∀ φ0 hp0 w0,(∀ id,n≤id→φ0 id = none)→Evo φ0 hp0 w0 φ s.hp w→Evo φ0 hp0 w0 (phiRen φ n R) s'.hp w)∧∀ b,okb φ s.hp b→okb (phiRen φ n R) s'.hp b:=by
 unfold norm at h
 split at h
 ·rename_i sl hsl
  cases h
  have hob:∀ j o',lookA (normHp n R s.hp s.hp) j = some o'→∃ id o,lookA s.hp id = some o∧renId n R id = some j∧renO n R o = some o':=fun j o' hj=>XQ n R s.hp (j,o') s.hp (look_mem _ hj)
  have hok:∀ b,okb φ s.hp b→okb (phiRen φ n R) (normHp n R s.hp s.hp) b:=fun b hb j o' p h1 h2 h3=>by
   obtain ⟨id,o,g1,g2,g3⟩:=hob j o' h1
   rw [Yz g2] at h2
   exact hb id o p g1 h2 h3
  refine ⟨⟨hr.sz,hr.bs,hr.df.mono hok,fun j v hv=>?_,fun j o' hj=>?_,fun id hid=>?_,fun i j o o' p q b h1 h2 hne h3 h4=>?_⟩,rfl,fun φ0 hp0 w0 hfr ev=>?_,hok⟩
  ·obtain ⟨v0,g1,g2⟩:=look_normSl n R s.sl js sl hsl j v hv
   exact renV_ok hok g2 (hr.sl j v0 g1)
  ·obtain ⟨id,o,g1,g2,g3⟩:=hob j o' hj
   exact renO_ok hok g2 g3 (hr.ob id o g1)
  ·show phiRen φ n R id = none
   unfold phiRen
   have hid':n + R.length≤id:=hid
   rw [if_neg (by omega),List.getElem?_eq_none (by omega)]
  ·obtain ⟨i',o1,g1,g2,g3⟩:=hob i o h1
   obtain ⟨j',o2,k1,k2,k3⟩:=hob j o' h2
   rw [Yz g2] at h3
   rw [Yz k2] at h4
   refine hr.dj i' j' o1 o2 p q b g1 k1 (fun e=>hne ?_) h3 h4
   subst e
   rw [g2] at k2; cases k2; rfl
  ·refine ⟨ev.os,ev.tape,ev.output,ev.size,fun id p hp=>?_,fun j o' p b h1 h2 h3=>?_,ev.bl⟩
   ·have hlt:id < n:=by
     rcases Nat.lt_or_ge id n with h | h
     ·exact h
     ·rw [hfr id h] at hp; cases hp
    unfold phiRen
    rw [if_pos hlt]
    exact ev.ph id p hp
   ·obtain ⟨id,o,g1,g2,g3⟩:=hob j o' h1
    rw [Yz g2] at h2
    exact ev.ow id o p b g1 h2 h3
 ·cases h
end Go.VM
namespace Go.VM
open Go Go.Lib
@[reducible] def Ds:List Ty→Type
  | []=>Unit
  | t :: ts=>t.D × Ds ts
structure Spec where
 ins:List Ty
 outs:List Ty
 pre:Ds ins→Prop
 fn:Ds ins→Ds outs
def KV (ok:Nat→Prop) (w:World) (t:Ty) (x:t.D) (v:Value):Prop:=if t.agg then ∃ cs:List Value,v = .agg cs.toArray∧K ok w t x cs else K ok w t x [v]
def KVs (ok:Nat→Prop) (w:World):(ts:List Ty)→Ds ts→List Value→Prop
 | [],_,vs=>vs = []
 | t :: ts,x,v :: vs=>KV ok w t x.1 v∧KVs ok w ts x.2 vs
 | _ :: _,_,[]=>False
def KR (ok:Nat→Prop) (w:World):(ts:List Ty)→Ds ts→Value→Prop
 | [t],x,v=>KV ok w t x.1 v
 | ts,x,v=>∃ vs:List Value,v = .tuple vs.toArray∧KVs ok w ts x vs
def Has (P:Program) (g:FuncId):Prop:=∃ fn,P.funcs[g]? = some fn∧(fn.name == "runtime.NumGoroutine") = false∧fn.body.isNone = false
def SpecOk (P:Program) (g:FuncId) (sp:Spec):Prop:=Has P g∧∀ (ok:Nat→Prop) (w:World) (vs:List Value) (x:Ds sp.ins),GlOk ok w→KVs ok w sp.ins x vs→sp.pre x →
 Calls P g vs.toArray w fun e w'=>∃ v,e = .returned v∧Go.RowKit.Below w.heap.size w w'∧KR (fun b=>ok b∨w.heap.size≤b) w' sp.outs (sp.fn x) v
def isAggV:V→Bool
 | .agg _=>true
 | _=>false
def viewV (L:Lv) (h:H) (t:Ty) (v:V):Option (t.D × List Nat):=if knownV v && (isAggV v == t.agg) then match view L h t v.cells with
    | some (x,[],ids)=>some (x,ids)
    | _=>none
 else none
def viewAll (L:Lv) (h:H):(ts:List Ty)→List V→Option (Ds ts × List Nat)
 | [],[]=>some ((),[])
 | t :: ts,v :: vs=>match viewV L h t v,viewAll L h ts vs with
   | some (x,i),some (xs,j)=>some ((x,xs),i ++ j)
   | _,_=>none
 | _,_=>none
def unTup:List (Bool × List C)→Option (List V)
 | []=>some []
 | (true,l) :: r=>(unTup r).map (.agg l :: ·)
 | (false,[c]) :: r=>(unTup r).map (.c c :: ·)
 | _=>none
def viewR (L:Lv) (h:H):(ts:List Ty)→V→Option (Ds ts × List Nat)
 | [t],v=>match viewV L h t v with
   | some (x,i)=>some ((x,()),i)
   | none=>none
 | ts,.tup l=>match unTup l with
   | some vs=>viewAll L h ts vs
   | none=>none
 | _,_=>none
def outV (t:Ty) (x:t.D):V:=if t.agg then .agg (expl t x) else match expl t x with
 | [c]=>.c c
 | _=>.c .un
def outVs:(ts:List Ty)→Ds ts→List V
 | [],_=>[]
 | t :: ts,x=>outV t x.1 :: outVs ts x.2
def outT:(ts:List Ty)→Ds ts→List (Bool × List C)
 | [],_=>[]
 | t :: ts,x=>(t.agg,expl t x.1) :: outT ts x.2
def outR:(ts:List Ty)→Ds ts→V
 | [t],x=>outV t x.1
 | ts,x=>.tup (outT ts x)
def Ty.flat:Ty→Bool
 | .sl _=>false
 | .pair a b=>a.flat && b.flat
 | .wrap a=>a.flat
 | _=>true
def memN (x:Nat):List Nat→Bool
 | []=>false
 | y :: l=>match Nat.beq y x with
   | true=>true
   | false=>memN x l
theorem Ys (x:Nat):∀ l:List Nat,memN x l = true↔x ∈ l
 | []=>by simp [memN]
 | y :: l=>by
   unfold memN
   cases h:Nat.beq y x with
   | true=>have:=Nat.eq_of_beq_eq_true h; subst this; simp
   | false =>
     have hne:¬ x = y:=fun e=>by rw [e,Nat.beq_refl] at h; cases h
     simp [hne,Ys x l]
def hasAmb (h:H) (ids:List Nat):Bool:=match h 0 with
 | some .amb=>!memN 0 ids
 | _=>false
def specVC (L:Lv) (sp:Spec) (as:List V) (hp:Hp) (nx:Nat) (k:V→Hp→Nat→VC):VC:=match viewAll L (lookA hp) sp.ins as with
 | some (x,ids)=>match hasAmb (lookA hp) ids with
   | true=>.obl (sp.pre x) (k (outR sp.outs (sp.fn x)) (if sp.outs.all Ty.flat then hp else delAll hp ids) nx)
   | false=>.bad
 | none=>.bad
section
variable {P:Program} {E:Ev} {φ:Phi} {w:World} {hp:Hp} {f:Nat}
theorem viewV_ok (hh:HRel φ hp f w) {t:Ty} {v:V} {x:t.D} {ids:List Nat} {u:Value} (h:viewV Lv.std (lookA hp) t v = some (x,ids)) (hv:Vrel φ (okb φ hp) w v u):KV (okb φ (delAll hp ids)) w t x u:=by
 unfold viewV at h
 split at h
 ·rename_i hc
  simp only [Bool.and_eq_true,beq_iff_eq] at hc
  split at h
  ·rename_i x' ids' hvw
   cases h
   obtain ⟨v1,v2,e,h1,h2⟩:=Xn hh t _ _ _ _ _ hvw (XK hv hc.1)
   have:v2 = []:=by
    cases v2 with
    | nil=>rfl
    | cons _ _=>exact h2.elim
   subst this
   rw [List.append_nil] at e
   unfold KV
   rw [← hc.2]
   cases v with
   | c c =>
     simp only [isAggV,Bool.false_eq_true,if_false]
     have h3:u.oneCell' = true:=crel_one hv hc.1
     rw [one_cells h3] at e
     rw [show [u] = v1 from e]; exact h1
   | agg l =>
     simp only [isAggV,if_true]
     obtain ⟨us,rfl,_⟩:=hv
     exact ⟨us,rfl,by rw [show us = v1 from e]; exact h1⟩
   | tup l=>exact absurd hc.1 (by simp [knownV])
   | ipt l=>exact absurd hc.1 (by simp [knownV])
  ·cases h
 ·cases h
theorem KV_mono {ok ok':Nat→Prop} {w w':World} (h:∀ b,ok b→b < w.heap.size→w'.heap[b]? = w.heap[b]?∧ok' b) {t:Ty} {x:t.D} {v:Value} (hk:KV ok w t x v):KV ok' w' t x v:=by
 unfold KV at *
 split
 ·rename_i e
  rw [if_pos e] at hk
  obtain ⟨cs,h1,h2⟩:=hk
  exact ⟨cs,h1,YI h t x cs h2⟩
 ·rename_i e
  rw [if_neg e] at hk
  exact YI h t x _ hk
theorem YX {ok ok':Nat→Prop} {w w':World} (h:∀ b,ok b→b < w.heap.size→w'.heap[b]? = w.heap[b]?∧ok' b):∀ (ts:List Ty) (x:Ds ts) (vs:List Value),KVs ok w ts x vs→KVs ok' w' ts x vs
 | [],_,_,hk=>hk
 | t :: ts,x,v :: vs,hk=>⟨KV_mono h hk.1,YX h ts x.2 vs hk.2⟩
 | _ :: _,_,[],hk=>hk
theorem ok_append (i j:List Nat) {b:Nat} (h:okb φ (delAll hp j) b):okb φ (delAll hp (i ++ j)) b:=fun id o p h1 h2 h3=>by
 rw [Z0] at h1
 split at h1
 ·cases h1
 ·rename_i hm
  refine h id o p ?_ h2 h3
  rw [Z0,if_neg (fun hm'=>hm (by simp [hm']))]; exact h1
theorem ok_append' (i j:List Nat) {b:Nat} (h:okb φ (delAll hp i) b):okb φ (delAll hp (i ++ j)) b:=fun id o p h1 h2 h3=>by
 rw [Z0] at h1
 split at h1
 ·cases h1
 ·rename_i hm
  refine h id o p ?_ h2 h3
  rw [Z0,if_neg (fun hm'=>hm (by simp [hm']))]; exact h1
theorem YG (hh:HRel φ hp f w):∀ (ts:List Ty) (vs:List V) (us:List Value) (x:Ds ts) (ids:List Nat),viewAll Lv.std (lookA hp) ts vs = some (x,ids)→L2 (Vrel φ (okb φ hp) w) vs us→KVs (okb φ (delAll hp ids)) w ts x us
 | [],[],[],x,ids,h,_=>rfl
 | t :: ts,v :: vs,u :: us,x,ids,h,hl=>by
   unfold viewAll at h
   split at h
   ·rename_i x1 i x2 j h1 h2
    cases h
    exact ⟨KV_mono (fun b hb _=>⟨rfl,ok_append' i j hb⟩) (viewV_ok hh h1 hl.1),YX (fun b hb _=>⟨rfl,ok_append i j hb⟩) ts x2 us (YG hh ts vs us x2 j h2 hl.2)⟩
   ·cases h
 | [],_ :: _,_,x,ids,h,_=>by cases h
 | _ :: _,[],_,x,ids,h,_=>by cases h
 | [],[],_ :: _,_,_,_,hl | _ :: _,_ :: _,[],_,_,_,hl=>hl.elim
theorem unTup_ok:∀ (l:List (Bool × List C)) (us:List Value) (vs:List V),unTup l = some vs→L2 (tupRel (Crel φ (okb φ hp) w)) l us→L2 (Vrel φ (okb φ hp) w) vs us
 | [],[],vs,h,_=>by cases h; exact trivial
 | (b,cs) :: l,u :: us,vs,h,hl=>by
   unfold unTup at h
   split at h
   ·rename_i heq; cases heq
   ·rename_i l' r heq
    cases heq
    cases hr:unTup l with
    | none=>rw [hr] at h; cases h
    | some vs' =>
      rw [hr] at h; cases h
      exact ⟨hl.1,unTup_ok l us vs' hr hl.2⟩
   ·rename_i c r heq
    cases heq
    cases hr:unTup l with
    | none=>rw [hr] at h; cases h
    | some vs' =>
      rw [hr] at h; cases h
      obtain ⟨c',e,hc⟩:=hl.1
      cases e
      exact ⟨hc,unTup_ok l us vs' hr hl.2⟩
   ·cases h
 | [],_ :: _,_,_,hl | _ :: _,[],_,_,hl=>hl.elim
theorem viewR_ok (hh:HRel φ hp f w) (ts:List Ty) (v:V) (u:Value) (x:Ds ts) (ids:List Nat) (h:viewR Lv.std (lookA hp) ts v = some (x,ids)) (hv:Vrel φ (okb φ hp) w v u):KR (okb φ (delAll hp ids)) w ts x u:=by
 unfold viewR at h
 split at h
 ·rename_i t
  split at h
  ·rename_i y i hy
   cases h
   exact viewV_ok hh hy hv
  ·cases h
 ·rename_i ts' l hne
  split at h
  ·rename_i vs hvs
   obtain ⟨us,rfl,hl⟩:=hv
   have:=YG hh _ vs us x ids h (unTup_ok l us vs hvs hl)
   unfold KR
   split
   ·exact absurd rfl (hne _)
   ·exact ⟨us,rfl,this⟩
  ·cases h
 ·cases h
theorem outV_ok {ok:Nat→Prop} {t:Ty} {x:t.D} {v:Value} (h:KV ok w t x v):Vrel φ ok w (outV t x) v:=by
 unfold KV at h
 unfold outV
 split
 ·rename_i e
  rw [if_pos e] at h
  obtain ⟨cs,rfl,hk⟩:=h
  exact ⟨cs,rfl,YU t x cs hk⟩
 ·rename_i e
  rw [if_neg e] at h
  have hx:=YU (φ:=φ) t x _ h
  split
  ·rename_i c hc
   rw [hc] at hx
   exact hx.1
  ·exact trivial
theorem Xw {ok:Nat→Prop}:∀ (ts:List Ty) (x:Ds ts) (vs:List Value),KVs ok w ts x vs→L2 (Vrel φ ok w) (outVs ts x) vs
 | [],_,[],_=>trivial
 | t :: ts,x,v :: vs,h=>⟨outV_ok h.1,Xw ts x.2 vs h.2⟩
 | [],_,_ :: _,h=>by cases h
 | _ :: _,_,[],h=>h.elim
theorem outT_ok {ok:Nat→Prop}:∀ (ts:List Ty) (x:Ds ts) (vs:List Value),KVs ok w ts x vs→L2 (tupRel (Crel φ ok w)) (outT ts x) vs
 | [],_,[],_=>trivial
 | t :: ts,x,v :: vs,h=>by
   refine ⟨?_,outT_ok ts x.2 vs h.2⟩
   have h1:=h.1
   unfold KV at h1
   unfold tupRel
   simp only
   split
   ·rename_i e
    rw [if_pos e] at h1
    obtain ⟨cs,h2,hk⟩:=h1
    exact ⟨cs,h2,YU t x.1 cs hk⟩
   ·rename_i e
    rw [if_neg e] at h1
    have hx:=YU (φ:=φ) t x.1 _ h1
    match hxp:expl t x.1,hx with
    | [c],hx=>exact ⟨c,rfl,hx.1⟩
    | [],hx=>exact hx.elim
    | _ :: _ :: _,hx=>exact hx.2.elim
 | [],_,_ :: _,h=>by cases h
 | _ :: _,_,[],h=>h.elim
theorem XM {ok:Nat→Prop}:∀ (ts:List Ty) (x:Ds ts) (v:Value),KR ok w ts x v→Vrel φ ok w (outR ts x) v
 | [],x,v,h=>by obtain ⟨vs,rfl,h⟩:=h; exact ⟨vs,rfl,outT_ok _ _ vs h⟩
 | [t],x,v,h=>outV_ok h
 | t :: t' :: ts,x,v,h=>by obtain ⟨vs,rfl,h⟩:=h; exact ⟨vs,rfl,outT_ok _ _ vs h⟩
theorem flat_K {ok ok':Nat→Prop} {w w':World}:∀ (t:Ty) (x:t.D) (cs:List Value),t.flat = true→K ok w t x cs→K ok' w' t x cs
 | .int _,_,_,_,h | .bool,_,_,_,h | .str,_,_,_,h=>h
 | .sl _,_,_,hf,_=>by cases hf
 | .pair a b,x,cs,hf,h=>by
   simp only [Ty.flat,Bool.and_eq_true] at hf
   obtain ⟨c1,c2,e,h1,h2⟩:=h
   exact ⟨c1,c2,e,flat_K a _ _ hf.1 h1,flat_K b _ _ hf.2 h2⟩
 | .wrap a,x,cs,hf,h=>flat_K a x cs hf h
theorem flat_KV {ok ok':Nat→Prop} {w w':World} {t:Ty} {x:t.D} {v:Value} (hf:t.flat = true) (h:KV ok w t x v):KV ok' w' t x v:=by
 unfold KV at *
 split
 ·rename_i e
  rw [if_pos e] at h
  obtain ⟨cs,h1,h2⟩:=h
  exact ⟨cs,h1,flat_K t x cs hf h2⟩
 ·rename_i e
  rw [if_neg e] at h
  exact flat_K t x _ hf h
theorem flat_KVs {ok ok':Nat→Prop} {w w':World}:∀ (ts:List Ty) (x:Ds ts) (vs:List Value),ts.all Ty.flat = true→KVs ok w ts x vs→KVs ok' w' ts x vs
 | [],_,_,_,h=>h
 | t :: ts,x,v :: vs,hf,h=>by
   simp only [List.all_cons,Bool.and_eq_true] at hf
   exact ⟨flat_KV hf.1 h.1,flat_KVs ts x.2 vs hf.2 h.2⟩
 | _ :: _,_,[],_,h=>h
theorem flat_KR {ok ok':Nat→Prop} {w w':World}:∀ (ts:List Ty) (x:Ds ts) (v:Value),ts.all Ty.flat = true→KR ok w ts x v→KR ok' w' ts x v
 | [],x,v,hf,h=>by obtain ⟨vs,h1,h2⟩:=h; exact ⟨vs,h1,flat_KVs _ _ vs hf h2⟩
 | [t],x,v,hf,h=>by
   simp only [List.all_cons,Bool.and_eq_true] at hf
   exact flat_KV hf.1 h
 | t :: t' :: ts,x,v,hf,h=>by obtain ⟨vs,h1,h2⟩:=h; exact ⟨vs,h1,flat_KVs _ _ vs hf h2⟩
theorem KR_mono {ok ok':Nat→Prop} {w w':World} (h:∀ b,ok b→b < w.heap.size→w'.heap[b]? = w.heap[b]?∧ok' b):∀ (ts:List Ty) (x:Ds ts) (v:Value),KR ok w ts x v→KR ok' w' ts x v
 | [],x,v,hk=>by obtain ⟨vs,h1,h2⟩:=hk; exact ⟨vs,h1,YX h _ _ vs h2⟩
 | [t],x,v,hk=>KV_mono h hk
 | t :: t' :: ts,x,v,hk=>by obtain ⟨vs,h1,h2⟩:=hk; exact ⟨vs,h1,YX h _ _ vs h2⟩
theorem Xf {nx:Nat} {w':World} (hh:HRel φ hp nx w) (hb:Go.RowKit.Below w.heap.size w w'):HRel φ hp nx w'∧Evo φ hp w φ hp w':=by
 have ev:Evo φ hp w φ hp w':=⟨hb.os,hb.tape,hb.output,hb.size,fun _ _ h=>h,fun id o p b h1 h2 h3=>.inr fun h=>h id o p h1 h2 h3,fun b hb' _=>hb.block b hb'⟩
 refine ⟨⟨fun id o ho=>(hh.ob id o ho).evo ev fun p b hp' hS=>?_,hh.fr,hh.dj⟩,ev⟩
 obtain ⟨q,hq,hl⟩:=(hh.ob id o ho).has
 rw [hp'] at hq; cases hq
 exact hb.block b (hl b hS)
theorem Y1 {nx:Nat} (hh:HRel φ hp nx w) {ids:List Nat} (h:hasAmb (lookA hp) ids = true):GlOk (okb φ (delAll hp ids)) w:=by
 unfold hasAmb at h
 split at h
 ·rename_i ho
  have hob:∃ S w0,φ 0 = some (.set S w0)∧Gl w0 S∧∀ b,S b→b < w.heap.size∧w.heap[b]? = w0.heap[b]?:=hh.ob 0 _ ho
  obtain ⟨S,w0,h1,h23,h4⟩:=hob
  obtain ⟨h2,h3⟩:=h23
  have hn:0 ∉ ids:=fun hm=>by
   rw [(Ys 0 ids).2 hm] at h; cases h
  refine ⟨?_,fun b hb hk=>hk 0 .amb _ ?_ h1 (h3 b hb)⟩
  ·exact Xb (fun b hb=>(h4 b (h3 b hb)).2) (glN_le fun b hb=>(h4 b (h3 b hb)).1) h2
  ·rw [Z0,if_neg hn]; exact ho
 ·cases h
theorem spec_sound {g:FuncId} {sp:Spec} (hs:SpecOk P g sp) {as:List V} {k:V→Hp→Nat→VC} {nx:Nat} {vs:List Value} (h:(specVC Lv.std sp as hp nx k).holds) (hh:HRel φ hp nx w) (hv:L2 (Vrel φ (okb φ hp) w) as vs) :
  Has P g∧Calls P g vs.toArray w fun e w'=>∃ v,e = .returned v∧∃ φ' hp' nx' x,(k x hp' nx').holds∧HRel φ' hp' nx' w'∧Evo φ hp w φ' hp' w'∧Vrel φ' (okb φ' hp') w' x v:=by
 refine ⟨hs.1,?_⟩
 unfold specVC at h
 split at h
 ·rename_i x ids hvw
  split at h
  rotate_left
  ·exact h.elim
  rename_i hA
  obtain ⟨h1,h2⟩:=h
  have hK:=YG hh sp.ins as vs x ids hvw hv
  refine (hs.2 _ w vs x (Y1 hh hA) hK h1).mono fun e w' he=>?_
  obtain ⟨v,rfl,hb,hR⟩:=he
  refine ⟨v,rfl,?_⟩
  split at h2
  ·rename_i hf
   obtain ⟨q1,q2⟩:=Xf hh hb
   exact ⟨φ,hp,nx,_,h2,q1,q2,XM _ _ _ (flat_KR _ _ _ hf hR)⟩
  ·obtain ⟨q1,q2⟩:=Xf (hh.delAll ids) hb
   refine ⟨φ,_,nx,_,h2,q1,(Yw φ w ids hp).trans q2,XM _ _ _ (KR_mono (fun b hb' hl=>⟨rfl,?_⟩) _ _ _ hR)⟩
   rcases hb' with hb' | hb'
   ·exact hb'
   ·intro id o p k1 k2 k3
    obtain ⟨q,hq,hl'⟩:=((hh.delAll ids).ob id o k1).has
    rw [k2] at hq; cases hq
    have:=hl' b k3
    omega
 ·exact h.elim
end
end Go.VM
namespace Go.VM
open Go Go.Lib
theorem map_ev {α:Type} {ev ev':Operand→V} (l:List (α × Operand)) (h:∀ x ∈ l.map (·.2),ev x = ev' x):(l.map fun p=>(p.1,ev p.2)) = l.map fun p=>(p.1,ev' p.2):=by
 induction l with
 | nil=>rfl
 | cons p r ih =>
   simp only [List.map_cons,List.mem_cons,forall_eq_or_imp] at h ⊢
   rw [h.1,ih h.2]
theorem map_ev1 {ev ev':Operand→V} (l:List Operand) (h:∀ x ∈ l,ev x = ev' x):l.map ev = l.map ev':=List.map_congr_left h
theorem opFR_ev (L:Lv) (E:Ev) (h:H) (f:Nat) {ev ev':Operand→V} (op:Op) (hx:∀ x ∈ op.operands.toList,ev x = ev' x):opFR L E h f ev op = opFR L E h f ev' op:=by
 cases op <;> simp only [Op.operands] at hx <;> simp only [opFR]
 case build t ps=>rw [map_ev ps.toList (fun x hm=>hx x (by simpa using hm))]
 case buildSlice t n ps=>rw [map_ev ps.toList (fun x hm=>hx x (by simpa using hm))]
 case makeFunc fn first caps=>rw [map_ev1 first.toList (fun x hm=>hx x (by simp at hm ⊢; exact .inl hm)),map_ev1 caps.toList (fun x hm=>hx x (by simp at hm ⊢; exact .inr hm))]
 case makeMap t r=>cases r <;> rfl
 case slice t x lo hi mx =>
  have h0:ev x = ev' x:=hx x (by simp)
  cases lo <;> cases hi <;> cases mx <;> simp only [opFR,Option.map] <;> first
   | rfl
   | (rw [h0]; done)
   | (rename_i a; rw [h0,hx a (by simp)]; done)
   | (rename_i a b; rw [h0,hx a (by simp),hx b (by simp)]; done)
 case call c =>
  obtain ⟨callee,as,ts⟩:=c
  cases callee with
  | builtin b =>
    simp only [opFR]
    rw [map_ev1 as.toList (fun x hm=>hx x (by simp [Call.operands] at hm ⊢; exact hm))]
  | value _=>rfl
  | invoke _ _=>rfl
 all_goals first
  | rfl
  | (rw [hx _ (by simp)]; done)
  | (rename_i a b; rw [hx a (by simp),hx b (by simp)]; done)
  | (rename_i a b _; rw [hx a (by simp),hx b (by simp)]; done)
  | (rename_i a b c; rw [hx a (by simp),hx b (by simp),hx c (by simp)]; done)
  | (rename_i a b c _; rw [hx a (by simp),hx b (by simp),hx c (by simp)]; done)
  | skip
def HLe (h h':H):Prop:=∀ id o,h id = some o→h' id = some o
theorem vRow_mono {L:Lv} {e:Ty} {vw vw':List C→Option (e.D × List C × List Nat)} (hv:∀ cs r,vw cs = some r→vw' cs = some r) {id n:Nat} {o:Option Ob} {r:List e.D × List Nat} (h:vRow L e vw id n o = some r):vRow L e vw' id n o = some r:=by
 unfold vRow at *
 split at h
 ·exact h
 ·split at h
  ·rename_i q
   simp only [q,dif_pos]
   split at h
   ·rename_i hq
    rw [hv _ _ hq]; exact h
   ·cases h
  ·cases h
 ·cases h
theorem YO (L:Lv) {h h':H} (hl:HLe h h'):∀ (t:Ty) (cs:List C) (r:t.D × List C × List Nat),view L h t cs = some r→view L h' t cs = some r
 | .int _,_,_,hr | .bool,_,_,hr | .str,_,_,hr=>hr
 | .sl e,cs,r,hr=>by
   simp only [view] at hr ⊢
   unfold vSl at hr ⊢
   split at hr
   ·exact hr
   ·exact hr
   ·rename_i id n rest
    cases ho:h id with
    | none=>rw [ho] at hr; simp [vRow] at hr
    | some o =>
      rw [ho] at hr
      simp only [hl id o ho]
      split at hr
      ·rename_i l ids hq
       rw [vRow_mono (fun cs r=>YO L hl e cs r) hq]
       exact hr
      ·cases hr
   ·cases hr
 | .pair a b,cs,r,hr=>by
   simp only [view] at hr ⊢
   split at hr
   ·rename_i x r1 i h1
    rw [YO L hl a cs _ h1]
    simp only
    split at hr
    ·rename_i y r2 j h2
     rw [YO L hl b _ _ h2]
     exact hr
    ·cases hr
   ·cases hr
 | .wrap a,cs,r,hr=>by
   simp only [view] at hr ⊢
   exact YO L hl a cs r hr
theorem litC_mono (L:Lv) {h h':H} (hl:HLe h h') (e:Ty):∀ (ps:List (Nat × V)) (k:Nat) (r:List e.D × List Nat),litC L h e k ps = some r→litC L h' e k ps = some r
 | [],_,_,hr=>hr
 | (i,v) :: ps,k,r,hr=>by
   unfold litC at hr ⊢
   split at hr
   ·rename_i hc
    rw [if_pos hc]
    split at hr
    ·rename_i x ids hv
     rw [YO L hl _ _ _ hv]
     simp only
     split at hr
     ·rename_i l ids' h2
      rw [litC_mono L hl e ps (k + 1) _ h2]
      exact hr
     ·cases hr
    ·cases hr
   ·cases hr
theorem fsrc_mono (L:Lv) {h h':H} (hl:HLe h h') (e:Ty) (v:V) (r:List e.D) (hr:fsrc L h e v = some r):fsrc L h' e v = some r:=by
 unfold fsrc at hr ⊢
 split at hr
 ·exact hr
 ·exact hr
 ·rename_i id n
  cases ho:h id with
  | none=>rw [ho] at hr; cases hr
  | some o=>rw [ho] at hr; simp only [hl id o ho]; exact hr
 ·exact hr
 ·cases hr
theorem fbase_mono (L:Lv) {h h':H} (hl:HLe h h') (et:TypeId) (e:Ty) (v:V) (r:List e.D × List Nat) (hr:fbase L h et e v = some r):fbase L h' et e v = some r:=by
 unfold fbase at hr ⊢
 split at hr
 ·exact hr
 ·rename_i id n
  cases ho:h id with
  | none=>rw [ho] at hr; cases hr
  | some o=>rw [ho] at hr; simp only [hl id o ho]; exact hr
 ·cases hr
theorem fappend_mono (L:Lv) (E:Ev) {h h':H} (hl:HLe h h') (f:Nat) (t tx:TypeId) (x y:V):fappend L E h f t tx x y = .bad∨fappend L E h' f t tx x y = fappend L E h f t tx x y:=by
 unfold fappend
 cases elemOf E t with
 | none=>exact .inl rfl
 | some et =>
   simp only
   cases E et with
   | none=>exact .inl rfl
   | some i =>
     simp only
     split
     ·cases hb:fbase L h et i.ty x with
      | none=>exact .inl rfl
      | some b =>
        cases hs:fsrc L h i.ty y with
        | none=>exact .inl rfl
        | some s =>
          right
          rw [fbase_mono L hl _ _ _ _ hb,fsrc_mono L hl _ _ _ hs]
     ·exact .inl rfl
theorem fbuildSlice_mono (L:Lv) (E:Ev) {h h':H} (hl:HLe h h') (f:Nat) (t:TypeId) (n:Nat) (ps:List (Nat × V)):fbuildSlice L E h f t n ps = .bad∨fbuildSlice L E h' f t n ps = fbuildSlice L E h f t n ps:=by
 unfold fbuildSlice
 cases elemOf E t with
 | none=>exact .inl rfl
 | some et =>
   simp only
   cases E et with
   | none=>exact .inl rfl
   | some i =>
     simp only
     split
     ·cases hb:litC L h i.ty 0 ps with
      | none=>exact .inl rfl
      | some b=>right; rw [litC_mono L hl _ _ _ _ hb]
     ·exact .inl rfl
theorem fload_mono (L:Lv) (E:Ev) {h h':H} (hl:HLe h h') (t:TypeId) (a:V):fload L E h t a = .bad∨fload L E h' t a = fload L E h t a:=by
 unfold fload
 cases E t with
 | none=>exact .inl rfl
 | some i =>
   simp only
   split
   ·rename_i id off
    cases ho:h id with
    | none=>exact .inl rfl
    | some o=>right; rw [hl id o ho]
   ·rename_i id j off
    cases ho:h id with
    | none=>exact .inl rfl
    | some o=>right; rw [hl id o ho]
   ·exact .inr rfl
   ·exact .inl rfl
theorem findexAddr_mono (L:Lv) (E:Ev) {h h':H} (hl:HLe h h') (t:TypeId) (x i:V):findexAddr L E h t x i = .bad∨findexAddr L E h' t x i = findexAddr L E h t x i:=by
 unfold findexAddr
 cases elemOf E t with
 | none=>exact .inr rfl
 | some et =>
   simp only
   split
   ·rename_i id len k n
    cases ho:h id with
    | none=>exact .inl rfl
    | some o=>right; rw [hl id o ho]
   ·rename_i id off len k n
    cases ho:h id with
    | none=>exact .inl rfl
    | some o=>right; rw [hl id o ho]
   ·exact .inr rfl
   ·exact .inl rfl
theorem fclear_mono (L:Lv) (E:Ev) {h h':H} (hl:HLe h h') (t:TypeId) (x:V):fclear L E h t x = .bad∨fclear L E h' t x = fclear L E h t x:=by
 unfold fclear
 cases elemOf E t with
 | none=>exact .inr rfl
 | some et =>
   simp only
   split
   ·rename_i i id off len hi
    cases ho:h id with
    | none=>exact .inl rfl
    | some o=>right; rw [hl id o ho]
   ·exact .inl rfl
theorem fslice_mono (L:Lv) (E:Ev) {h h':H} (hl:HLe h h') (t:TypeId) (x:V) (lo hi:Option V):fslice L E h t x lo hi = .bad∨fslice L E h' t x lo hi = fslice L E h t x lo hi:=by
 unfold fslice
 cases E t with
 | none=>exact .inl rfl
 | some q =>
   simp only
   split
   ·exact .inr rfl
   ·exact .inr rfl
   ·rename_i et id len hk
    cases ho:h id with
    | none=>exact .inl rfl
    | some o=>right; rw [hl id o ho]
   ·exact .inl rfl
theorem fconvert_mono (L:Lv) (E:Ev) {h h':H} (hl:HLe h h') (s d:TypeId) (x:V):fconvert L E h s d x = .bad∨fconvert L E h' s d x = fconvert L E h s d x:=by
 unfold fconvert
 split
 ·exact .inr rfl
 ·exact .inr rfl
 ·exact .inr rfl
 ·split
  ·split
   ·rename_i id len _ _ _ _ _ 
    split
    ·rename_i l ho
     right; rw [hl _ _ ho]
    ·exact .inl rfl
   ·exact .inl rfl
  ·exact .inl rfl
 ·exact .inl rfl
theorem fstore_mono (L:Lv) (E:Ev) {h h':H} (hl:HLe h h') (t:TypeId) (a x:V):fstore L E h t a x = .bad∨fstore L E h' t a x = fstore L E h t a x:=by
 unfold fstore
 cases E t with
 | none=>exact .inl rfl
 | some i =>
   simp only
   split
   ·split
    ·rename_i id off
     cases ho:h id with
     | none=>exact .inl rfl
     | some o=>right; rw [hl id o ho]
    ·rename_i id j off
     cases ho:h id with
     | none=>exact .inl rfl
     | some o =>
       rw [hl id o ho]
       cases o with
       | row tt e l =>
         simp only
         split
         ·split
          ·exact .inr rfl
          ·cases hv:view L h e (putL (expl e (L.get e l j)) off x.cells) with
           | none=>exact .inl rfl
           | some r=>right; rw [YO L hl _ _ _ hv]
         ·exact .inl rfl
       | _=>exact .inr rfl
    ·exact .inl rfl
   ·exact .inl rfl
theorem flookup_mono (L:Lv) (E:Ev) {h h':H} (hl:HLe h h') (t:TypeId) (x i:V) (ok:Bool):flookup L E h t x i ok = .bad∨flookup L E h' t x i ok = flookup L E h t x i ok:=by
 unfold flookup
 split
 ·split
  ·rename_i ie id ix _
   cases ho:h id with
   | none=>exact .inl rfl
   | some o =>
     rw [hl id o ho]
     cases o with
     | map k v l =>
       simp only
       split
       ·cases hv:view L h k [ix] with
        | none=>exact .inl rfl
        | some r=>right; rw [YO L hl _ _ _ hv]
       ·exact .inl rfl
     | _=>exact .inr rfl
  ·exact .inl rfl
 ·exact .inl rfl
theorem fmapUpdate_mono (L:Lv) (E:Ev) {h h':H} (hl:HLe h h') (t:TypeId) (m i x:V):fmapUpdate L E h t m i x = .bad∨fmapUpdate L E h' t m i x = fmapUpdate L E h t m i x:=by
 unfold fmapUpdate
 split
 ·split
  ·rename_i id ix xx
   cases ho:h id with
   | none=>exact .inl rfl
   | some o =>
     rw [hl id o ho]
     cases o with
     | map k v l =>
       simp only
       split
       ·cases hv:view L h k [ix] with
        | none=>exact .inl rfl
        | some r =>
          cases hv2:view L h v [xx] with
          | none =>
            left
            obtain ⟨a,b,c⟩:=r
            cases b <;> cases c <;> rfl
          | some r2=>right; rw [YO L hl _ _ _ hv,YO L hl _ _ _ hv2]
       ·exact .inl rfl
     | _=>exact .inr rfl
  ·exact .inl rfl
 ·exact .inl rfl
theorem fclip_mono (E:Ev) {h h':H} (hl:HLe h h') (f:Nat) (t:TypeId) (x hi mx:V):fclip E h f t x hi mx = .bad∨fclip E h' f t x hi mx = fclip E h f t x hi mx:=by
 unfold fclip
 split
 ·split
  ·split
   ·exact .inr rfl
   ·rename_i id len
    cases ho:h id with
    | none=>exact .inl rfl
    | some o=>right; rw [hl id o ho]
   ·exact .inr rfl
   ·exact .inl rfl
  ·exact .inl rfl
 ·exact .inl rfl
theorem opFR_mono (L:Lv) (E:Ev) {h h':H} (hl:HLe h h') (f:Nat) (ev:Operand→V) (op:Op):opFR L E h f ev op = .bad∨opFR L E h' f ev op = opFR L E h f ev op:=by
 cases op <;> simp only [opFR]
 case load t a=>exact fload_mono L E hl _ _
 case store t a x=>exact fstore_mono L E hl _ _ _
 case buildSlice t n ps=>exact fbuildSlice_mono L E hl _ _ _ _
 case convert s d x=>exact fconvert_mono L E hl _ _ _
 case slice t x lo hi mx =>
  cases mx with
  | none=>exact fslice_mono L E hl _ _ _ _
  | some m =>
    cases lo with
    | none =>
      cases hi with
      | none=>exact .inl rfl
      | some b=>exact fclip_mono E hl _ _ _ _ _
    | some _=>cases hi <;> exact .inl rfl
 case indexAddr t x i=>exact findexAddr_mono L E hl _ _ _
 case lookup t x i ok=>exact flookup_mono L E hl _ _ _ _
 case mapUpdate t m k x=>exact fmapUpdate_mono L E hl _ _ _ _
 case insert t m k x=>exact fmapUpdate_mono L E hl _ _ _ _
 case call c =>
  obtain ⟨callee,as,ts⟩:=c
  cases callee with
  | builtin b =>
    simp only [fbuiltin]
    split
    ·exact .inr rfl
    ·exact fappend_mono L E hl _ _ _ _ _
    ·exact .inr rfl
    ·exact .inr rfl
    ·exact fclear_mono L E hl _ _
    ·exact .inl rfl
  | value _=>first | exact .inr trivial | exact .inr rfl
  | invoke _ _=>first | exact .inr trivial | exact .inr rfl
 case makeMap t r=>cases r <;> first | exact .inr trivial | exact .inr rfl
 all_goals first
  | exact .inr trivial
  | exact .inr rfl
theorem viewV_mono (L:Lv) {h h':H} (hl:HLe h h') (t:Ty) (v:V) (r:t.D × List Nat) (hr:viewV L h t v = some r):viewV L h' t v = some r:=by
 unfold viewV at hr ⊢
 split at hr
 ·rename_i hc
  rw [if_pos hc]
  split at hr
  ·rename_i x ids hv
   rw [YO L hl _ _ _ hv]
   exact hr
  ·cases hr
 ·cases hr
theorem YT (L:Lv) {h h':H} (hl:HLe h h'):∀ (ts:List Ty) (vs:List V) (r:Ds ts × List Nat),viewAll L h ts vs = some r→viewAll L h' ts vs = some r
 | [],[],_,hr=>hr
 | t :: ts,v :: vs,r,hr=>by
   unfold viewAll at hr ⊢
   split at hr
   ·rename_i x i y j h1 h2
    rw [viewV_mono L hl _ _ _ h1,YT L hl ts vs _ h2]
    exact hr
   ·cases hr
 | [],_ :: _,_,hr=>by cases hr
 | _ :: _,[],_,hr=>by cases hr
end Go.VM
namespace Go.VM
open Go Go.Lib
structure Leaf where
 x:V
 nw:Option Ob
 kill:List Nat
 up:Option (Nat × Ob)
def FRl:FR→Leaf→Prop
 | .v x,l=>∃ x',RB x x'∧l = ⟨x',none,[],none⟩
 | .b c,l=>l = ⟨.c (.bool c),none,[],none⟩
 | .br c t f,l=>(c = true→FRl t l)∧(c = false→FRl f l)
 | .o p r,l=>p∧FRl r l
 | .new x [] kill,l=>l = ⟨x,none,kill,none⟩
 | .new x [o] kill,l=>l = ⟨x,some o,kill,none⟩
 | .upd id o kill,l=>l = ⟨.c .un,none,kill,some (id,o)⟩
 | _,_=>False
def isAlloc:Op→Bool
 | .alloc _=>true
 | _=>false
def Leaf.hp (l:Leaf) (f:Nat) (hp:Hp):Hp:=match l.up with
 | some (id,o)=>setA (delAll hp l.kill) id o
 | none=>match l.nw with
   | some o=>(f,o) :: delAll hp l.kill
   | none=>delAll hp l.kill
def Leaf.tch (l:Leaf) (f id:Nat):Option (Option Ob):=match l.up with
 | some (i,o)=>if id = i then some (some o) else if id ∈ l.kill then some none else none
 | none=>match l.nw with
   | some o=>if id = f then some (some o) else if id ∈ l.kill then some none else none
   | none=>if id ∈ l.kill then some none else none
def Leaf.ids (l:Leaf) (f:Nat):List Nat:=match l.up with
 | some (i,_)=>i :: l.kill
 | none=>match l.nw with
   | some _=>f :: l.kill
   | none=>l.kill
def Leaf.nx (l:Leaf) (f:Nat):Nat:=match l.nw with
 | some _=>f + 1
 | none=>f
def Leaf.st (l:Leaf) (s:St) (dst:Option Nat):St:={ s with hp:=l.hp s.nx s.hp,nx:=l.nx s.nx }.put dst l.x
theorem Leaf.look_hp (l:Leaf) (f:Nat) (hp:Hp) (id:Nat):lookA (l.hp f hp) id = match l.tch f id with | some r=>r | none=>lookA hp id:=by
 unfold Leaf.hp Leaf.tch
 cases l.up with
 | some p =>
   obtain ⟨i,o⟩:=p
   simp only [Xa,Z0]
   by_cases h1:id = i
   ·simp [h1]
   ·by_cases h2:id ∈ l.kill <;> simp [h1,h2]
 | none =>
   cases l.nw with
   | some o =>
     simp only [lookA,ifb,Z0]
     by_cases h1:id = f
     ·simp [h1]
     ·have h1':¬ f = id:=fun e=>h1 e.symm
      by_cases h2:id ∈ l.kill <;> simp [h1,h1',h2]
   | none =>
     simp only [Z0]
     by_cases h2:id ∈ l.kill <;> simp [h2]
theorem Leaf.tch_none (l:Leaf) (f id:Nat) (h:id ∉ l.ids f):l.tch f id = none:=by
 unfold Leaf.ids at h
 unfold Leaf.tch
 cases hu:l.up with
 | some p =>
   obtain ⟨i,o⟩:=p
   rw [hu] at h
   simp only [List.mem_cons,not_or] at h
   simp [h.1,h.2]
 | none =>
   rw [hu] at h
   cases hn:l.nw with
   | some o =>
     rw [hn] at h
     simp only [List.mem_cons,not_or] at h
     simp [h.1,h.2]
   | none=>rw [hn] at h; simp only at h; simp [h]
def runD (s:St) (dst:Option Nat) (k:St→List Nat→Bool→VC):FR→VC
 | .v x=>splitB x fun x=>k (s.put dst x) [] false
 | .b c=>.br c (k (s.put dst (.c (.bool true))) [] false) (k (s.put dst (.c (.bool false))) [] false)
 | .br c t f=>.br c (runD s dst k t) (runD s dst k f)
 | .o p r=>.obl p (runD s dst k r)
 | .new x [] kill=>k ({ s with hp:=delAll s.hp kill }.put dst x) kill false
 | .new x [o] kill=>k ({ s with hp:=(s.nx,o) :: delAll s.hp kill,nx:=s.nx + 1 }.put dst x) (s.nx :: kill) true
 | .upd id o kill=>k ({ s with hp:=setA (delAll s.hp kill) id o }.put dst (.c .un)) (id :: kill) false
 | _=>.bad
theorem XI {s:St} {dst:Option Nat} {k:St→List Nat→Bool→VC}:∀ r:FR,(runD s dst k r).holds→∃ l,FRl r l∧(k (l.st s dst) (l.ids s.nx) l.nw.isSome).holds
 | .v x,h=>by
   obtain ⟨x',h1,h2⟩:=splitB_ok h
   exact ⟨⟨x',none,[],none⟩,⟨x',h1,rfl⟩,h2⟩
 | .b c,h=>by
   refine ⟨⟨.c (.bool c),none,[],none⟩,rfl,?_⟩
   cases c
   ·exact h.2 rfl
   ·exact h.1 rfl
 | .br c t f,h=>by
   cases c
   ·obtain ⟨l,h1,h2⟩:=XI f (h.2 rfl)
    exact ⟨l,⟨fun e=>(by cases e),fun _=>h1⟩,h2⟩
   ·obtain ⟨l,h1,h2⟩:=XI t (h.1 rfl)
    exact ⟨l,⟨fun _=>h1,fun e=>by cases e⟩,h2⟩
 | .o p r,h=>by
   obtain ⟨l,h1,h2⟩:=XI r h.2
   exact ⟨l,⟨h.1,h1⟩,h2⟩
 | .new x [] kill,h=>⟨⟨x,none,kill,none⟩,rfl,h⟩
 | .new x [o] kill,h=>⟨⟨x,some o,kill,none⟩,rfl,h⟩
 | .new x (_ :: _ :: _) kill,h=>h.elim
 | .upd id o kill,h=>⟨⟨.c .un,none,kill,some (id,o)⟩,rfl,h⟩
 | .amb,h=>h.elim
 | .bad,h=>h.elim
section
variable {P:Program} {E:Ev} {φ:Phi} {w:World} {hp:Hp} {f:Nat}
def LeafOk (φ:Phi) (hp:Hp) (w:World) (f nx:Nat) (l:Leaf) (v:Value) (w':World):Prop :=
 ∃ φ' hp',(∀ id,lookA hp' id = lookA (l.hp f hp) id)∧HRel φ' hp' nx w'∧Evo φ hp w φ' hp' w'∧Vrel φ' (okb φ' hp') w' l.x v∧∀ id,(φ' id ≠ none→φ id ≠ none∨(l.nw.isSome = true∧id = f))
theorem ph_of {φ':Phi} {m:Nat} (h1:∀ id,id < f→φ' id = φ id) (h2:∀ id,f + m≤id→φ' id = none) (hm:m≤1):∀ id,φ' id ≠ none→φ id ≠ none∨(m = 1∧id = f):=fun id h=>by
 by_cases hl:id < f
 ·left; rw [← h1 id hl]; exact h
 ·by_cases hg:f + m≤id
  ·exact absurd (h2 id hg) h
  ·right; omega
theorem fr_leaf:∀ (r:FR) {run:Result Value} {l:Leaf},FRl r l→FRok φ hp w f r run→∃ v w',run = .ok v w'∧LeafOk φ hp w f (l.nx f) l v w'
 | .v x,run,l,h,hf=>by
   obtain ⟨x',hx,rfl⟩:=h
   have hf:=hf.rb hx
   obtain ⟨v,w',φ',hp',h1,rfl,h3,h4,h5,h6⟩:=hf
   exact ⟨v,w',h1,φ',_,fun id=>rfl,h3,h4,h5,fun id hid=>(ph_of (m:=0) h6 h3.fr (by omega) id hid).imp_right fun h=>by omega⟩
 | .b c,run,l,h,hf=>by
   cases h
   obtain ⟨v,w',φ',hp',h1,rfl,h3,h4,h5,h6⟩:=hf
   exact ⟨v,w',h1,φ',_,fun id=>rfl,h3,h4,h5,fun id hid=>(ph_of (m:=0) h6 h3.fr (by omega) id hid).imp_right fun h=>by omega⟩
 | .br c t e,run,l,h,hf=>by
   cases c
   ·exact fr_leaf e (h.2 rfl) (hf.2 rfl)
   ·exact fr_leaf t (h.1 rfl) (hf.1 rfl)
 | .o p r,run,l,h,hf=>fr_leaf r h.2 (hf h.1)
 | .new x [] kill,run,l,h,hf=>by
   cases h
   obtain ⟨v,w',φ',hp',h1,rfl,h3,h4,h5,h6⟩:=hf
   exact ⟨v,w',h1,φ',_,fun id=>rfl,h3,h4,h5,fun id hid=>(ph_of (m:=0) h6 h3.fr (by omega) id hid).imp_right fun h=>by omega⟩
 | .new x [o] kill,run,l,h,hf=>by
   cases h
   obtain ⟨v,w',φ',hp',h1,rfl,h3,h4,h5,h6⟩:=hf
   exact ⟨v,w',h1,φ',_,fun id=>rfl,h3,h4,h5,fun id hid=>(ph_of (m:=1) h6 h3.fr (by omega) id hid).imp_right fun h=>⟨rfl,h.2⟩⟩
 | .new x (_ :: _ :: _) kill,run,l,h,hf=>h.elim
 | .upd id o kill,run,l,h,hf=>by
   cases h
   obtain ⟨v,w',h1,h2,h3⟩:=hf
   exact ⟨v,w',h1,φ,_,fun id=>rfl,h2,h3,trivial,fun id hid=>.inl hid⟩
 | .amb,run,l,h,hf=>h.elim
 | .bad,run,l,h,hf=>h.elim
theorem evo_new' {nx:Nat} {w':World} (h:HRel φ hp nx w) (hf:φ f = none) (o:Ob) (p:Place) (hb:Go.RowKit.Below w.heap.size w w')
  (hpl:∀ b,p.S b→w.heap.size≤b):Evo φ hp w (phiSet φ f p) ((f,o) :: hp) w':=by
 refine Evo.below hb (fun id q hq=>?_) (fun id o' q b h1 h2 h3=>?_)
 ·unfold phiSet
  split
  ·rename_i e; subst e; rw [hf] at hq; cases hq
  ·exact hq
 ·unfold phiSet at h2
  simp only [lookA,ifb] at h1
  split at h2
  ·cases h2; exact .inl (hpl b h3)
  ·rename_i hne
   rw [if_neg (fun e=>hne e.symm)] at h1
   exact .inr fun hk=>hk id o' q h1 h2 h3
theorem HRel.new' {nx:Nat} {w':World} (h:HRel φ hp nx w) (hf:φ f = none) (hlt:f < nx) (o:Ob) (p:Place) (hb:Go.RowKit.Below w.heap.size w w')
  (hpl:∀ b,p.S b→w.heap.size≤b) (ho:Orel (phiSet φ f p) (okb (phiSet φ f p) ((f,o) :: hp)) w' f o):HRel (phiSet φ f p) ((f,o) :: hp) nx w' where
 ob:=fun id o' h1=>by
  simp only [lookA,ifb] at h1
  split at h1
  ·rename_i e; subst e; cases h1; exact ho
  ·refine (h.ob id o' h1).evo (evo_new' h hf o p hb hpl) (fun q b hq hS=>?_)
   obtain ⟨q',hq',hl⟩:=(h.ob id o' h1).has
   rw [hq] at hq'; cases hq'
   exact hb.block b (hl b hS)
 fr:=fun id hl=>by
  unfold phiSet
  rw [if_neg (by omega)]
  exact h.fr id (by omega)
 dj:=fun i j o1 o2 p1 p2 b h1 h2 hne h3 h4 h5 h6=>by
  simp only [lookA,ifb] at h1 h2
  unfold phiSet at h3 h4
  by_cases hi:i = f
  ·subst hi
   rw [if_pos rfl] at h3; cases h3
   have hj:¬ i = j:=hne
   rw [if_neg hj] at h2
   rw [if_neg (fun e=>hj e.symm)] at h4
   obtain ⟨q',hq',hl⟩:=(h.ob j o2 h2).has
   rw [h4] at hq'; cases hq'
   have:=hl b h6; have:=hpl b h5; omega
  ·rw [if_neg (fun e=>hi e.symm)] at h1
   rw [if_neg hi] at h3
   by_cases hj:j = f
   ·subst hj
    rw [if_pos rfl] at h4; cases h4
    obtain ⟨q',hq',hl⟩:=(h.ob i o1 h1).has
    rw [h3] at hq'; cases hq'
    have:=hl b h5; have:=hpl b h6; omega
   ·rw [if_neg (fun e=>hj e.symm)] at h2
    rw [if_neg hj] at h4
    exact h.dj i j o1 o2 p1 p2 b h1 h2 hne h3 h4 h5 h6
theorem alloc_any (hE:∀ t i,E t = some i→TIok P t i) {nx:Nat} (hh:HRel φ hp nx w) (hf:φ f = none) (hlt:f < nx) (t:TypeId) (ov:Value) {l:Leaf} (h:FRl (falloc E f t) l) :
  ∃ v w',(Instr.alloc t true ov).run P w = .ok v w'∧LeafOk φ hp w f nx l v w':=by
 unfold falloc at h
 cases hi:E t with
 | none=>rw [hi] at h; exact h.elim
 | some i =>
   rw [hi] at h
   cases h
   obtain ⟨z,hz,hzc⟩:=XG (hE t i hi) w
   refine ⟨.pointer (some ⟨w.heap.size,0,none⟩),w.alloc (.cells z.cells t (0,0)),by simp [Instr.alloc,hz,run_newVar],phiSet φ f (.at w.heap.size 1 0 0),(f,.box t (i.zero.map (Z.cAt f))) :: hp,fun id=>rfl,?_,?_,?_,fun id hid=>?_⟩
   ·refine hh.new' hf hlt _ _ (YV _ _) (fun b hb=>by cases hb; exact Nat.le_refl _) ?_
    refine ⟨w.heap.size,i.zero.map Z.val,Zw _ _ _,?_,L2_map (fun z=>Z_relAt _ z) _⟩
    rw [Y5,← hzc]
   ·exact evo_new' hh hf _ _ (YV _ _) (fun b hb=>by cases hb; exact Nat.le_refl _)
   ·exact ⟨_,_,_,_,Zw _ _ _,rfl⟩
   ·by_cases e:id = f
    ·exact .inr ⟨rfl,e⟩
    ·left
     unfold phiSet at hid
     rw [if_neg e] at hid; exact hid
theorem clip_new (E:Ev) (h:H) (f:Nat) (t:TypeId) (x hi mx:V) {l:Leaf} (hl:FRl (fclip E h f t x hi mx) l):l.nw ≠ none:=by
 unfold fclip at hl
 repeat' split at hl
 all_goals first
  | exact hl.elim
  | (cases hl; simp)
theorem append_new (L:Lv) (E:Ev) (h:H) (f:Nat) (t tx:TypeId) (x y:V) {l:Leaf} (hl:FRl (fappend L E h f t tx x y) l):l.nw ≠ none:=by
 unfold fappend at hl
 repeat' split at hl
 all_goals first
  | exact hl.elim
  | (obtain ⟨_,hl⟩:=hl; cases hl; simp)
theorem opFR_num (L:Lv) (E:Ev) (h:H) (f f':Nat) (ev:Operand→V) (op:Op) {l:Leaf} (hl:FRl (opFR L E h f ev op) l) (hn:l.nw = none):FRl (opFR L E h f' ev op) l:=by
 cases op <;> simp only [opFR] at hl ⊢ <;> try exact hl
 case alloc t =>
  exfalso
  unfold falloc at hl
  split at hl
  ·cases hl; cases hn
  ·exact hl
 case box t x =>
  exfalso
  unfold fbox at hl
  split at hl
  ·cases hl; cases hn
  ·exact hl
 case buildSlice t n ps =>
  exfalso
  unfold fbuildSlice at hl
  repeat' split at hl
  all_goals first
   | exact hl
   | (cases hl; cases hn)
 case makeMap t r =>
  cases r with
  | some _=>exact hl
  | none =>
    exfalso
    simp only [opFR] at hl
    unfold fmakeMap at hl
    repeat' split at hl
    all_goals first
     | exact hl
     | (cases hl; cases hn)
 case makeSlice t x y =>
  exfalso
  unfold fmakeSlice at hl
  repeat' split at hl
  all_goals first
   | exact hl
   | (obtain ⟨_,hl⟩:=hl; cases hl; cases hn)
 case slice t x lo hi mx =>
  cases mx with
  | none=>exact hl
  | some m =>
    cases lo with
    | none =>
      cases hi with
      | none=>exact hl
      | some b=>exact absurd hn (clip_new E h f t _ _ _ hl)
    | some _=>cases hi <;> exact hl
 case call c =>
  obtain ⟨callee,as,ts⟩:=c
  cases callee with
  | builtin b =>
    simp only [opFR,fbuiltin] at hl ⊢
    split at hl
    ·exact hl
    ·exact absurd hn (append_new L E h f _ _ _ _ hl)
    ·exact hl
    ·exact hl
    ·exact hl
    ·exact hl.elim
  | value _=>exact hl
  | invoke _ _=>exact hl
end
end Go.VM
namespace Go.VM
open Go Go.Lib
structure XOp where
 fr:Lv→H→Nat→List V→FR
structure It where
 ins:List Ty
 el:List Ty
 pre:Ds ins→Prop
 fn:Ds ins→List (Ds el)
structure XOk (P:Program) (g:FuncId) (x:XOp):Prop where
 has:Has P g
 mono:∀ (L:Lv) (h h':H) (f:Nat) (as:List V),HLe h h'→x.fr L h f as = .bad∨x.fr L h' f as = x.fr L h f as
 num:∀ (L:Lv) (h:H) (f f':Nat) (as:List V) (l:Leaf),FRl (x.fr L h f as) l→l.nw = none→FRl (x.fr L h f' as) l
 run:∀ (φ:Phi) (hp:Hp) (f:Nat) (w:World) (as:List V) (vs:List Value) (l:Leaf),HRel φ hp f w→L2 (Vrel φ (okb φ hp) w) as vs→FRl (x.fr Lv.std (lookA hp) f as) l →
  Calls P g vs.toArray w fun e w'=>∃ v,e = .returned v∧LeafOk φ hp w f (l.nx f) l v w'
theorem HRel.le {φ:Phi} {hp:Hp} {nx nx':Nat} {w:World} (h:HRel φ hp nx w) (hl:nx≤nx'):HRel φ hp nx' w:=⟨h.ob,fun id hid=>h.fr id (Nat.le_trans hl hid),h.dj⟩
theorem okb_congr {φ:Phi} {hp hp':Hp} (h:∀ id,lookA hp' id = lookA hp id) {b:Nat}:okb φ hp' b↔okb φ hp b :=
 ⟨fun hb id o p h1=>hb id o p (by rw [h]; exact h1),fun hb id o p h1=>hb id o p (by rw [← h]; exact h1)⟩
theorem HRel.congr {φ:Phi} {hp hp':Hp} {nx:Nat} {w:World} (h:∀ id,lookA hp' id = lookA hp id) (hr:HRel φ hp nx w):HRel φ hp' nx w∧Evo φ hp w φ hp' w:=by
 have ev:Evo φ hp w φ hp' w:=⟨rfl,rfl,rfl,Nat.le_refl _,fun _ _ h=>h,fun id o p b h1 h2 h3=>.inr fun hb=>hb id o p (by rw [← h]; exact h1) h2 h3,fun _ _ _=>rfl⟩
 exact ⟨⟨fun id o ho=>(hr.ob id o (by rw [← h]; exact ho)).evo ev fun _ _ _ _=>rfl,hr.fr,fun i j o o' p q b h1 h2=>hr.dj i j o o' p q b (by rw [← h]; exact h1) (by rw [← h]; exact h2)⟩,ev⟩
theorem Y2 {h h':H} (hl:HLe h h') {ids:List Nat} (ha:hasAmb h ids = true):hasAmb h' ids = true:=by
 unfold hasAmb at ha ⊢
 split at ha
 ·rename_i ho
  rw [hl 0 _ ho]; exact ha
 ·cases ha
def Spec.x (sp:Spec):XOp where
 fr:=fun L h f as=>match viewAll L h sp.ins as with
  | some (x,ids)=>match hasAmb h ids with
    | true=>.o (sp.pre x) (match sp.outs.all Ty.flat with
      | true=>.v (outR sp.outs (sp.fn x))
      | false=>.new (outR sp.outs (sp.fn x)) [] ids)
    | false=>.bad
  | none=>.bad
theorem spec_x {P:Program} {g:FuncId} {sp:Spec} (hs:SpecOk P g sp):XOk P g sp.x where
 has:=hs.1
 mono:=fun L h h' f as hl=>by
  unfold Spec.x
  simp only
  cases hv:viewAll L h sp.ins as with
  | none=>exact .inl rfl
  | some r =>
    rw [YT L hl _ _ _ hv]
    simp only
    cases ha:hasAmb h r.2 with
    | false=>exact .inl rfl
    | true=>right; rw [Y2 hl ha]
 num:=fun L h f f' as l hl _=>hl
 run:=fun φ hp f w as vs l hh hv hl=>by
  unfold Spec.x at hl
  simp only at hl
  split at hl
  ·rename_i x ids hvw
   split at hl
   rotate_left
   ·exact hl.elim
   rename_i hA
   obtain ⟨hpre,hl⟩:=hl
   have hK:=YG hh sp.ins as vs x ids hvw hv
   refine (hs.2 _ w vs x (Y1 hh hA) hK hpre).mono fun en w' he=>?_
   obtain ⟨v,rfl,hb,hR⟩:=he
   refine ⟨v,rfl,?_⟩
   split at hl
   ·rename_i hf
    obtain ⟨x',hx,rfl⟩:=hl
    obtain ⟨q1,q2⟩:=Xf hh hb
    exact ⟨φ,hp,fun id=>rfl,q1,q2,hx.rel (XM _ _ _ (flat_KR _ _ _ hf hR)),fun id hid=>.inl hid⟩
   ·rename_i hf
    cases hl
    obtain ⟨q1,q2⟩:=Xf (hh.delAll ids) hb
    refine ⟨φ,_,fun id=>rfl,q1,(Yw φ w ids hp).trans q2,XM _ _ _ (KR_mono (fun b hb' hl=>⟨rfl,?_⟩) _ _ _ hR),fun id hid=>.inl hid⟩
    rcases hb' with hb' | hb'
    ·exact hb'
    ·intro id o p k1 k2 k3
     obtain ⟨q,hq,hl'⟩:=((hh.delAll ids).ob id o k1).has
     rw [k2] at hq; cases hq
     have:=hl' b k3
     omega
  ·exact hl.elim
def runX (hp:Hp) (nx:Nat) (k:V→Hp→Nat→VC):FR→VC
 | .v x=>k x hp nx
 | .b c=>.br c (k (.c (.bool true)) hp nx) (k (.c (.bool false)) hp nx)
 | .br c t f=>.br c (runX hp nx k t) (runX hp nx k f)
 | .o p r=>.obl p (runX hp nx k r)
 | .new x [] kill=>k x (delAll hp kill) nx
 | .new x [o] kill=>k x ((nx,o) :: delAll hp kill) (nx + 1)
 | .upd id o kill=>k (.c .un) (setA (delAll hp kill) id o) nx
 | _=>.bad
theorem runX_leaf {hp:Hp} {nx:Nat} {k:V→Hp→Nat→VC}:∀ r:FR,(runX hp nx k r).holds→∃ l,FRl r l∧(k l.x (l.hp nx hp) (l.nx nx)).holds
 | .v x,h=>⟨⟨x,none,[],none⟩,⟨x,.inl rfl,rfl⟩,h⟩
 | .b c,h=>by
   refine ⟨⟨.c (.bool c),none,[],none⟩,rfl,?_⟩
   cases c
   ·exact h.2 rfl
   ·exact h.1 rfl
 | .br c t f,h=>by
   cases c
   ·obtain ⟨l,h1,h2⟩:=runX_leaf f (h.2 rfl)
    exact ⟨l,⟨fun e=>(by cases e),fun _=>h1⟩,h2⟩
   ·obtain ⟨l,h1,h2⟩:=runX_leaf t (h.1 rfl)
    exact ⟨l,⟨fun _=>h1,fun e=>by cases e⟩,h2⟩
 | .o p r,h=>by
   obtain ⟨l,h1,h2⟩:=runX_leaf r h.2
   exact ⟨l,⟨h.1,h1⟩,h2⟩
 | .new x [] kill,h=>⟨⟨x,none,kill,none⟩,rfl,h⟩
 | .new x [o] kill,h=>⟨⟨x,some o,kill,none⟩,rfl,h⟩
 | .new x (_ :: _ :: _) kill,h=>h.elim
 | .upd id o kill,h=>⟨⟨.c .un,none,kill,some (id,o)⟩,rfl,h⟩
 | .amb,h=>h.elim
 | .bad,h=>h.elim
theorem x_sound {P:Program} {g:FuncId} {x:XOp} (hx:XOk P g x) {φ:Phi} {hp:Hp} {nx:Nat} {w:World} {as:List V} {vs:List Value} {k:V→Hp→Nat→VC} (h:(runX hp nx k (x.fr Lv.std (lookA hp) nx as)).holds) (hh:HRel φ hp nx w) (hv:L2 (Vrel φ (okb φ hp) w) as vs) :
  Has P g∧Calls P g vs.toArray w fun e w'=>∃ v,e = .returned v∧∃ φ' hp' nx' y,(k y hp' nx').holds∧HRel φ' hp' nx' w'∧Evo φ hp w φ' hp' w'∧Vrel φ' (okb φ' hp') w' y v:=by
 obtain ⟨l,h1,h2⟩:=runX_leaf _ h
 refine ⟨hx.has,(hx.run φ hp nx w as vs l hh hv h1).mono fun e w' he=>?_⟩
 obtain ⟨v,rfl,φ',hp',l1,l2,l3,l4,l5⟩:=he
 obtain ⟨q1,q2⟩:=l2.congr (fun id=>(l1 id).symm)
 exact ⟨v,rfl,φ',_,_,l.x,h2,q1,l3.trans q2,q2.V l4⟩
end Go.VM
namespace Go.VM
open Go Go.Lib
variable {B:Nat × Bool}
def idsC:C→List Nat
 | .own id _=>[id]
 | .ptr id _=>[id]
 | .elp id _ _=>[id]
 | .fn _ caps=>caps
 | .map id=>[id]
 | .selfp id=>[id]
 | .owa id _ _=>[id]
 | _=>[]
def idsCs:List C→List Nat
 | []=>[]
 | c :: l=>idsC c ++ idsCs l
def idsT:List (Bool × List C)→List Nat
 | []=>[]
 | p :: l=>idsCs p.2 ++ idsT l
def idsV:V→List Nat
 | .c x=>idsC x
 | .agg l=>idsCs l
 | .tup l=>idsT l
 | .ipt l=>idsCs l
def idsP:List (C × C)→List Nat
 | []=>[]
 | p :: l=>idsC p.2 ++ idsP l
def idsO:Option Ob→List Nat
 | some (.box _ cs)=>idsCs cs
 | some (.rowf _ _ _ _ cs)=>idsCs cs
 | some (.mapc l)=>idsP l
 | _=>[]
def idsPk:List (C × C)→List Nat
 | []=>[]
 | p :: l=>idsC p.1 ++ idsC p.2 ++ idsPk l
def idsOk:Option Ob→List Nat
 | some (.mapc l)=>idsPk l
 | o=>idsO o
def Place.own:Place→Prop
 | .set _ _=>False
 | _=>True
section
variable {φ φ':Phi} {ok ok':Nat→Prop} {w:World} {Q:Nat→Prop}
theorem isPtr_sub (h:∀ id p,Q id→p.own→φ id = some p→φ' id = some p) {id off:Nat} {v:Value} (hq:Q id) (hp:isPtr φ id off v):isPtr φ' id off v:=by
 obtain ⟨b,sz,cap,n,h1,h2⟩:=hp; exact ⟨b,sz,cap,n,h _ _ hq trivial h1,h2⟩
theorem caps_sub (h:∀ id p,Q id→p.own→φ id = some p→φ' id = some p):∀ (caps:List Nat) (vs:List Value),(∀ id ∈ caps,Q id)→L2 (fun id u=>isPtr φ id 0 u) caps vs→L2 (fun id u=>isPtr φ' id 0 u) caps vs
 | [],[],_,_=>trivial
 | c :: l,v :: vs,hq,h1=>⟨isPtr_sub h (hq c (by simp)) h1.1,caps_sub h l vs (fun id hid=>hq id (by simp [hid])) h1.2⟩
 | [],_ :: _,_,h1 | _ :: _,[],_,h1=>h1.elim
theorem K_ok (hk:∀ b,ok b→ok' b) (t:Ty) (x:t.D) (cs:List Value) (h:K ok w t x cs):K ok' w t x cs:=YI (fun b hb _=>⟨rfl,hk b hb⟩) t x cs h
theorem Crel_sub (h:∀ id p,Q id→p.own→φ id = some p→φ' id = some p) (hk:∀ b,ok b→ok' b) {x:C} {v:Value} (hq:∀ id ∈ idsC x,Q id) (hc:Crel φ ok w x v):Crel φ' ok' w x v:=by
 cases x with
 | sl e l=>exact K_ok hk _ _ _ hc
 | own id len =>
   have:=hq id (by simp [idsC])
   rcases hc with ⟨h1,h2,h3⟩ | ⟨b,sz,cap,n,h1,h2⟩
   ·exact .inl ⟨h _ _ this trivial h1,h2,h3⟩
   ·exact .inr ⟨b,sz,cap,n,h _ _ this trivial h1,h2⟩
 | ptr id off=>exact isPtr_sub h (hq id (by simp [idsC])) hc
 | selfp id=>exact hc.imp (fun h=>h) (fun hc=>isPtr_sub h (hq id (by simp [idsC])) hc)
 | owa id off len =>
   rcases hc with h1 | ⟨b,sz,cap,n,h1,h2⟩
   ·exact .inl h1
   ·exact .inr ⟨b,sz,cap,n,h _ _ (hq id (by simp [idsC])) trivial h1,h2⟩
 | elp id i off=>obtain ⟨b,sz,cap,n,h1,h2⟩:=hc; exact ⟨b,sz,cap,n,h _ _ (hq id (by simp [idsC])) trivial h1,h2⟩
 | fn f caps=>obtain ⟨vs,h1,h2⟩:=hc; exact ⟨vs,h1,caps_sub h caps vs (fun id hid=>hq id (by simpa [idsC] using hid)) h2⟩
 | map id=>obtain ⟨b,sz,cap,n,h1,h2⟩:=hc; exact ⟨b,sz,cap,n,h _ _ (hq id (by simp [idsC])) trivial h1,h2⟩
 | _=>exact hc
theorem Cs_sub (h:∀ id p,Q id→p.own→φ id = some p→φ' id = some p) (hk:∀ b,ok b→ok' b):∀ (cs:List C) (vs:List Value),(∀ id ∈ idsCs cs,Q id)→L2 (Crel φ ok w) cs vs→L2 (Crel φ' ok' w) cs vs
 | [],[],_,_=>trivial
 | c :: l,v :: vs,hq,h1=>⟨Crel_sub h hk (fun id hid=>hq id (by simp [idsCs,hid])) h1.1,Cs_sub h hk l vs (fun id hid=>hq id (by simp [idsCs,hid])) h1.2⟩
 | [],_ :: _,_,h1 | _ :: _,[],_,h1=>h1.elim
theorem Ts_sub (h:∀ id p,Q id→p.own→φ id = some p→φ' id = some p) (hk:∀ b,ok b→ok' b):∀ (cs:List (Bool × List C)) (vs:List Value),(∀ id ∈ idsT cs,Q id)→L2 (tupRel (Crel φ ok w)) cs vs→L2 (tupRel (Crel φ' ok' w)) cs vs
 | [],[],_,_=>trivial
 | y :: l,u :: vs,hq,h1=>by
   refine ⟨?_,Ts_sub h hk l vs (fun id hid=>hq id (by simp [idsT,hid])) h1.2⟩
   have hh:=h1.1
   unfold tupRel at hh ⊢
   split at hh
   ·rename_i hy
    rw [if_pos hy]
    obtain ⟨us,e,hh⟩:=hh
    exact ⟨us,e,Cs_sub h hk _ _ (fun id hid=>hq id (by simp [idsT,hid])) hh⟩
   ·rename_i hy
    rw [if_neg hy]
    obtain ⟨c,e,hh⟩:=hh
    exact ⟨c,e,Crel_sub h hk (fun id hid=>hq id (by simp [idsT,e,idsCs,hid])) hh⟩
 | [],_ :: _,_,h1 | _ :: _,[],_,h1=>h1.elim
theorem Vrel_sub (h:∀ id p,Q id→p.own→φ id = some p→φ' id = some p) (hk:∀ b,ok b→ok' b) {x:V} {v:Value} (hq:∀ id ∈ idsV x,Q id) (hc:Vrel φ ok w x v):Vrel φ' ok' w x v:=by
 cases x with
 | c x=>exact Crel_sub h hk hq hc
 | agg l=>obtain ⟨vs,h1,h2⟩:=hc; exact ⟨vs,h1,Cs_sub h hk _ _ hq h2⟩
 | tup l=>obtain ⟨vs,h1,h2⟩:=hc; exact ⟨vs,h1,Ts_sub h hk _ _ hq h2⟩
 | ipt l =>
   obtain ⟨ad,vs,h1,h2,h3⟩:=hc
   exact ⟨ad,vs,h1,Cs_sub h hk _ _ hq h2,fun i u hu=>⟨hk _ (h3 i u hu).1,(h3 i u hu).2⟩⟩
theorem Ps_sub (h:∀ id p,Q id→p.own→φ id = some p→φ' id = some p) (hk:∀ b,ok b→ok' b):∀ (l:List (C × C)) (es:List MapEntry),(∀ id ∈ idsPk l,Q id)→L2 (fun (x:C × C) (e:MapEntry)=>Crel φ ok w x.1 e.key∧Crel φ ok w x.2 e.val) l es →
  L2 (fun (x:C × C) (e:MapEntry)=>Crel φ' ok' w x.1 e.key∧Crel φ' ok' w x.2 e.val) l es
 | [],[],_,_=>trivial
 | c :: l,v :: vs,hq,h1=>⟨⟨Crel_sub h hk (fun id hid=>hq id (by simp [idsPk,hid])) h1.1.1,Crel_sub h hk (fun id hid=>hq id (by simp [idsPk,hid])) h1.1.2⟩,Ps_sub h hk l vs (fun id hid=>hq id (by simp [idsPk,hid])) h1.2⟩
 | [],_ :: _,_,h1 | _ :: _,[],_,h1=>h1.elim
theorem Orel_sub (h:∀ id p,Q id→p.own→φ id = some p→φ' id = some p) (hk:∀ b,ok b→ok' b) {id:Nat} {o:Ob} (hid:∀ p,φ id = some p→φ' id = some p) (hq:∀ j ∈ idsOk (some o),Q j) (ho:Orel φ ok w id o):Orel φ' ok' w id o:=by
 cases o with
 | box t cs =>
   obtain ⟨b,vs,h1,h2,h3⟩:=ho
   exact ⟨b,vs,hid _ h1,h2,Cs_sub h hk _ _ hq h3⟩
 | row t ty l =>
   rcases ho with ⟨h1,h2⟩ | ⟨b,cap,arr,h1,h2,h3,h4,h5⟩
   ·exact .inl ⟨hid _ h1,h2⟩
   ·refine .inr ⟨b,cap,arr,hid _ h1,h2,h3,h4,fun j x hx=>?_⟩
    obtain ⟨vs,hk',hv⟩:=h5 j x hx
    exact ⟨vs,K_ok hk _ _ _ hk',hv⟩
 | rowf t ty l q cs =>
   obtain ⟨b,cap,arr,h1,h2,h3,h4,h5,h6,h7,vs,h8,h9⟩:=ho
   refine ⟨b,cap,arr,hid _ h1,h2,h3,h4,fun j x hne hx=>?_,h6,h7,vs,Cs_sub h hk _ _ hq h8,h9⟩
   obtain ⟨vs,hk',hv⟩:=h5 j x hne hx
   exact ⟨vs,K_ok hk _ _ _ hk',hv⟩
 | map k v l =>
   obtain ⟨b,es,clock,h1,h2,h3⟩:=ho
   exact ⟨b,es,clock,hid _ h1,h2,Yo (fun _ _ hh=>⟨K_ok hk _ _ _ hh.1,K_ok hk _ _ _ hh.2⟩) h3⟩
 | mapc l =>
   obtain ⟨b,es,clock,h1,h2,h3⟩:=ho
   exact ⟨b,es,clock,hid _ h1,h2,Ps_sub h hk _ _ hq h3⟩
 | amb =>
   obtain ⟨S,w0,h1,h0,h2⟩:=ho
   exact ⟨S,w0,hid _ h1,h0,h2⟩
end
theorem FRl.up_none {l:Leaf} (hn:l.nw.isSome = true):∀ r:FR,FRl r l→l.up = none
 | .v x,h=>by obtain ⟨x',_,h⟩:=h; rw [h]
 | .b c,h=>by rw [show l = _ from h]
 | .br true t f,h=>FRl.up_none hn t (h.1 rfl)
 | .br false t f,h=>FRl.up_none hn f (h.2 rfl)
 | .o p r,h=>FRl.up_none hn r h.2
 | .new x [] kill,h=>by rw [show l = _ from h]
 | .new x [o] kill,h=>by rw [show l = _ from h]
 | .new x (_ :: _ :: _) kill,h=>h.elim
 | .upd id o kill,h=>by rw [show l = _ from h] at hn; cases hn
 | .amb,h=>h.elim
 | .bad,h=>h.elim
def keepA (p:Nat→Bool):Hp→Hp
 | []=>[]
 | (k,o) :: r=>if p k = true then (k,o) :: keepA p r else keepA p r
theorem look_keep (p:Nat→Bool) (id:Nat):∀ hp:Hp,lookA (keepA p hp) id = if p id = true then lookA hp id else none
 | []=>by simp [keepA,lookA]
 | (k,o) :: r=>by
   simp only [keepA]
   by_cases hk:p k = true
   ·rw [if_pos hk]
    simp only [lookA,ifb,look_keep p id r]
    by_cases e:k = id
    ·subst e; simp [hk]
    ·simp [e]
   ·rw [if_neg hk,look_keep p id r]
    simp only [lookA,ifb]
    by_cases e:k = id
    ·subst e; simp [hk]
    ·simp [e]
theorem hide {φ:Phi} {hp:Hp} {N f:Nat} {w:World} (U:List Nat) (hh:HRel φ hp N w) (hz:lookA hp 0 = some .amb) (h0:0 ∈ U) (hlt:∀ id ∈ U,id < f) (hf:φ f = none) (hfN:f < N)
  (hcl:∀ id o,id ∈ U→lookA hp id = some o→∀ j ∈ idsOk (some o),j ∈ U) :
  ∃ φh hph,HRel φh hph f w∧(∀ id ∈ U,lookA hph id = lookA hp id)∧(∀ x v,(∀ j ∈ idsV x,j ∈ U)→Vrel φ (okb φ hp) w x v→Vrel φh (okb φh hph) w x v) ∧
    ∀ l v w',l.nw.isSome = true→l.up = none→0 ∉ l.kill→LeafOk φh hph w f (l.nx f) l v w'→LeafOk φ hp w f N l v w':=by
 classical
 obtain ⟨S0,w0,z1,z2,z3⟩:∃ S w0,φ 0 = some (.set S w0)∧Gl w0 S∧∀ b,S b→b < w.heap.size∧w.heap[b]? = w0.heap[b]?:=hh.ob 0 _ hz
 let Sh:Nat→Prop:=fun b=>∃ id o p,lookA hp id = some o∧φ id = some p∧p.S b∧(id = 0∨id ∉ U)
 let φh:Phi:=fun id=>if id = 0 then some (.set Sh w) else if id ∈ U then φ id else none
 let hph:Hp:=keepA (fun id=>decide (id ∈ U)) hp
 have f0:0 < f:=hlt 0 h0
 have e0:φh 0 = some (.set Sh w):=if_pos rfl
 have eU:∀ id,id ≠ 0→id ∈ U→φh id = φ id:=fun id h1 h2=>by show (if _ then _ else if _ then _ else _) = _; rw [if_neg h1,if_pos h2]
 have eN:∀ id,id ≠ 0→id ∉ U→φh id = none:=fun id h1 h2=>by show (if _ then _ else if _ then _ else _) = _; rw [if_neg h1,if_neg h2]
 have lk:∀ id ∈ U,lookA hph id = lookA hp id:=fun id hid=>by show lookA (keepA _ hp) id = _; rw [look_keep]; simp [hid]
 have lkn:∀ id,id ∉ U→lookA hph id = none:=fun id hid=>by show lookA (keepA _ hp) id = _; rw [look_keep]; simp [hid]
 have inU:∀ id o,lookA hph id = some o→id ∈ U:=fun id o h=>by
  by_cases hu:id ∈ U
  ·exact hu
  ·rw [lkn id hu] at h; cases h
 have S0h:∀ b,S0 b→Sh b:=fun b hb=>⟨0,.amb,_,hz,z1,hb,.inl rfl⟩
 have Shlt:∀ b,Sh b→b < w.heap.size:=fun b ⟨id,o,p,h1,h2,h3,_⟩=>by
  obtain ⟨q,hq,hl⟩:=(hh.ob id o h1).has
  rw [h2] at hq; cases hq; exact hl b h3
 have ok1:∀ b,okb φ hp b→okb φh hph b:=fun b hb id o p h1 h2 h3=>by
  have hu:=inU id o h1
  rw [lk id hu] at h1
  by_cases e:id = 0
  ·subst e
   rw [e0] at h2; cases h2
   obtain ⟨id,o,p,k1,k2,k3,_⟩:=h3
   exact hb id o p k1 k2 k3
  ·rw [eU id e hu] at h2; exact hb id o p h1 h2 h3
 have ok2:∀ b,okb φh hph b→okb φ hp b:=fun b hb id o p h1 h2 h3=>by
  by_cases hu:id ∈ U∧id ≠ 0
  ·exact hb id o p (by rw [lk id hu.1]; exact h1) (by rw [eU id hu.2 hu.1]; exact h2) h3
  ·refine hb 0 .amb _ (by rw [lk 0 h0]; exact hz) e0 ⟨id,o,p,h1,h2,h3,?_⟩
   by_cases e:id = 0
   ·exact .inl e
   ·exact .inr fun h=>hu ⟨h,e⟩
 have sub1:∀ id p,id ∈ U→p.own→φ id = some p→φh id = some p:=fun id p hu hp' h=>by
  by_cases e:id = 0
  ·subst e; rw [z1] at h; cases h; exact hp'.elim
  ·rw [eU id e hu]; exact h
 have hR:HRel φh hph f w:=⟨fun id o h1=>by
   have hu:=inU id o h1
   rw [lk id hu] at h1
   by_cases e:id = 0
   ·subst e
    rw [hz] at h1; cases h1
    refine ⟨Sh,w,e0,⟨?_,fun b hb=>S0h b (z2.2 b hb)⟩,fun b hb=>⟨Shlt b hb,rfl⟩⟩
    exact Xb (w:=w0) (fun b hb=>(z3 b (z2.2 b hb)).2) (glN_le fun b hb=>(z3 b (z2.2 b hb)).1) z2.1
   ·exact Orel_sub sub1 ok1 (fun p hp'=>by rw [eU id e hu]; exact hp') (fun j hj=>hcl id o hu h1 j hj) (hh.ob id o h1),
  fun id hid=>by
   have:id ∉ U:=fun h=>by have:=hlt id h; omega
   exact eN id (by omega) this,
  fun i j o o' p q b h1 h2 hne h3 h4 h5 h6=>by
   have ui:=inU i o h1
   have uj:=inU j o' h2
   rw [lk i ui] at h1
   rw [lk j uj] at h2
   by_cases ei:i = 0
   ·subst ei
    rw [e0] at h3; cases h3
    rw [eU j (fun e=>hne e.symm) uj] at h4
    obtain ⟨id,o2,p2,k1,k2,k3,k4⟩:=h5
    have:id ≠ j:=fun e=>by
     subst e
     rcases k4 with k4 | k4
     ·exact hne k4.symm
     ·exact k4 uj
    exact hh.dj id j _ _ _ _ b k1 h2 this k2 h4 k3 h6
   ·rw [eU i ei ui] at h3
    by_cases ej:j = 0
    ·subst ej
     rw [e0] at h4; cases h4
     obtain ⟨id,o2,p2,k1,k2,k3,k4⟩:=h6
     have:i ≠ id:=fun e=>by
      subst e
      rcases k4 with k4 | k4
      ·exact ei k4
      ·exact k4 ui
     exact hh.dj i id _ _ _ _ b h1 k1 this h3 k2 h5 k3
    ·rw [eU j ej uj] at h4
     exact hh.dj i j _ _ _ _ b h1 h2 hne h3 h4 h5 h6⟩
 refine ⟨φh,hph,hR,lk,fun x v hj hv=>Vrel_sub sub1 ok1 hj hv,?_⟩
 rintro l v w' hnw hup hk0 ⟨φ1,hp1,l1,l2,l3,l4,l5⟩
 obtain ⟨ob,hob⟩:∃ ob,l.nw = some ob:=by cases h:l.nw with | none=>rw [h] at hnw; cases hnw | some ob=>exact ⟨ob,rfl⟩
 have fU:f ∉ U:=fun h=>by have:=hlt f h; omega
 have hplook:∀ hp:Hp,∀ id,lookA (l.hp f hp) id = if id = f then some ob else if id ∈ l.kill then none else lookA hp id:=fun hp id=>by
  unfold Leaf.hp
  rw [hup,hob]
  simp only [lookA,ifb,Z0]
  by_cases e:id = f
  ·subst e; simp
  ·rw [if_neg (fun h=>e h.symm),if_neg e]
 have p0:φ1 0 = some (.set Sh w):=l3.ph 0 _ e0
 have a0:lookA hp1 0 = some .amb:=by rw [l1,hplook,if_neg (by omega),if_neg hk0,lk 0 h0]; exact hz
 have pU:∀ id p,id ≠ 0→id ≠ f→φ1 id = some p→id ∈ U∧φ id = some p:=fun id p h1 h2 h3=>by
  rcases l5 id (by rw [h3]; simp) with q | q
  ·by_cases hu:id ∈ U
   ·obtain ⟨p',hp'⟩:∃ p',φh id = some p':=by cases h:φh id with | none=>exact absurd h q | some p'=>exact ⟨p',rfl⟩
    have:=l3.ph id p' hp'
    rw [h3] at this; cases this
    rw [eU id h1 hu] at hp'
    exact ⟨hu,hp'⟩
   ·exact absurd (eN id h1 hu) q
  ·exact absurd q.2 h2
 let φ2:Phi:=fun id=>if id = f then φ1 f else φ id
 have e2f:φ2 f = φ1 f:=if_pos rfl
 have e2:∀ id,id ≠ f→φ2 id = φ id:=fun id h=>if_neg h
 have sub2:∀ id p,True→p.own→φ1 id = some p→φ2 id = some p:=fun id p _ ho h=>by
  by_cases e:id = f
  ·subst e; rw [e2f]; exact h
  ·rw [e2 id e]
   by_cases e0:id = 0
   ·subst e0; rw [p0] at h; cases h; exact ho.elim
   ·exact (pU id p e0 e h).2
 have stay:∀ b,Sh b→w'.heap[b]? = w.heap[b]?:=fun b hb=>by
  obtain ⟨S,w2,q1,q2,q3⟩:∃ S w2,φ1 0 = some (.set S w2)∧Gl w2 S∧∀ b,S b→b < w'.heap.size∧w'.heap[b]? = w2.heap[b]?:=l2.ob 0 _ a0
  rw [p0] at q1; cases q1
  exact (q3 b hb).2
 have ok3:∀ b,okb φ1 hp1 b→okb φ2 (l.hp f hp) b:=fun b hb id o p h1 h2 h3=>by
  by_cases e:id = f
  ·subst e
   rw [e2f] at h2
   refine hb id o p ?_ h2 h3
   rw [l1,hplook]; rw [hplook] at h1; simpa using h1
  ·rw [hplook,if_neg e] at h1
   rw [e2 id e] at h2
   split at h1
   ·cases h1
   ·rename_i hk
    by_cases hu:id ∈ U∧id ≠ 0
    ·refine hb id o p ?_ ?_ h3
     ·rw [l1,hplook,if_neg e,if_neg hk,lk id hu.1]; exact h1
     ·exact l3.ph id p (by rw [eU id hu.2 hu.1]; exact h2)
    ·refine hb 0 .amb _ a0 p0 ⟨id,o,p,h1,h2,h3,?_⟩
     by_cases e:id = 0
     ·exact .inl e
     ·exact .inr fun h=>hu ⟨h,e⟩
 have inold:∀ id o,id ≠ f→lookA (l.hp f hp) id = some o→lookA hp id = some o∧id ∉ l.kill:=fun id o e h=>by
  rw [hplook,if_neg e] at h
  split at h
  ·cases h
  ·rename_i hk; exact ⟨h,hk⟩
 have seen:∀ id o,id ≠ 0→(id = f∨id ∈ U)→lookA (l.hp f hp) id = some o→lookA hp1 id = some o:=fun id o e0 hs h=>by
  rw [l1]
  rcases hs with rfl | hu
  ·rw [hplook]; rw [hplook] at h; simpa using h
  ·have e:id ≠ f:=fun e=>fU (e ▸ hu)
   obtain ⟨k1,k2⟩:=inold id o e h
   rw [hplook,if_neg e,if_neg k2,lk id hu]; exact k1
 have pseen:∀ id p,id ≠ 0→(id = f∨id ∈ U)→φ2 id = some p→φ1 id = some p:=fun id p e0 hs h=>by
  rcases hs with rfl | hu
  ·rw [e2f] at h; exact h
  ·have e:id ≠ f:=fun e=>fU (e ▸ hu)
   rw [e2 id e] at h
   exact l3.ph id p (by rw [eU id e0 hu]; exact h)
 have hEvo:Evo φ hp w φ2 (l.hp f hp) w':=⟨l3.os,l3.tape,l3.output,l3.size,fun id p h=>by
   by_cases e:id = f
   ·subst e; rw [hf] at h; cases h
   ·rw [e2 id e]; exact h,
  fun id o p b h1 h2 h3=>by
   by_cases hs:id ≠ 0∧(id = f∨id ∈ U)
   ·rcases l3.ow id o p b (seen id o hs.1 hs.2 h1) (pseen id p hs.1 hs.2 h2) h3 with q | q
    ·exact .inl q
    ·exact .inr fun h=>q (ok1 b h)
   ·have e:id ≠ f:=fun e=>hs ⟨by omega,.inl e⟩
    rw [e2 id e] at h2
    exact .inr fun h=>h id o p (inold id o e h1).1 h2 h3,
  fun b h1 h2=>l3.bl b h1 (ok1 b h2)⟩
 refine ⟨φ2,l.hp f hp,fun id=>rfl,⟨fun id o h1=>?_,fun id hid=>?_,fun i j o o' p q b h1 h2 hne h3 h4 h5 h6=>?_⟩,hEvo,Vrel_sub (Q:=fun _=>True) sub2 ok3 (fun _ _=>trivial) l4,fun id hid=>?_⟩
 ·by_cases hs:id ≠ 0∧(id = f∨id ∈ U)
  ·refine Orel_sub (Q:=fun _=>True) sub2 ok3 (fun p hp'=>?_) (fun _ _=>trivial) (l2.ob id o (seen id o hs.1 hs.2 h1))
   by_cases e:id = f
   ·subst e; rw [e2f]; exact hp'
   ·rw [e2 id e]; exact (pU id p hs.1 e hp').2
  ·have e:id ≠ f:=fun e=>hs ⟨by omega,.inl e⟩
   have k1:=(inold id o e h1).1
   refine (hh.ob id o k1).evo hEvo fun p b hp' hb=>stay b ⟨id,o,p,k1,hp',hb,?_⟩
   by_cases e0:id = 0
   ·exact .inl e0
   ·exact .inr fun h=>hs ⟨e0,.inr h⟩
 ·rw [e2 id (by omega)]; exact hh.fr id hid
 ·have hidden:∀ i,¬ (i ≠ 0∧(i = f∨i ∈ U))→i ≠ f∧(i = 0∨i ∉ U):=fun i h=>by
   refine ⟨fun e=>h ⟨by omega,.inl e⟩,?_⟩
   by_cases e:i = 0
   ·exact .inl e
   ·exact .inr fun hu=>h ⟨e,.inr hu⟩
  by_cases si:i ≠ 0∧(i = f∨i ∈ U) <;> by_cases sj:j ≠ 0∧(j = f∨j ∈ U)
  ·exact l2.dj i j o o' p q b (seen i o si.1 si.2 h1) (seen j o' sj.1 sj.2 h2) hne (pseen i p si.1 si.2 h3) (pseen j q sj.1 sj.2 h4) h5 h6
  ·obtain ⟨k1,k2⟩:=hidden j sj
   rw [e2 j k1] at h4
   exact l2.dj i 0 o _ p _ b (seen i o si.1 si.2 h1) a0 si.1 (pseen i p si.1 si.2 h3) p0 h5 ⟨j,o',q,(inold j o' k1 h2).1,h4,h6,k2⟩
  ·obtain ⟨k1,k2⟩:=hidden i si
   rw [e2 i k1] at h3
   exact l2.dj 0 j _ o' _ q b a0 (seen j o' sj.1 sj.2 h2) (fun e=>sj.1 e.symm) p0 (pseen j q sj.1 sj.2 h4) ⟨i,o,p,(inold i o k1 h1).1,h3,h5,k2⟩ h6
  ·obtain ⟨k1,_⟩:=hidden i si
   obtain ⟨k2,_⟩:=hidden j sj
   rw [e2 i k1] at h3
   rw [e2 j k2] at h4
   exact hh.dj i j o o' p q b (inold i o k1 h1).1 (inold j o' k2 h2).1 hne h3 h4 h5 h6
 ·by_cases e:id = f
  ·exact .inr ⟨hnw,e⟩
  ·rw [e2 id e] at hid; exact .inl hid
end Go.VM
