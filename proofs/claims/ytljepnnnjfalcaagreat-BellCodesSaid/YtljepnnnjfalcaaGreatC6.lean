/- A condition generator over the model's code, proved sound: what a function's body must come to is told as conditions on plain data. Conditions: none of ours. -/
import Derived.Test.YtljepnnnjfalcaaGreatC5
set_option autoImplicit false
set_option linter.all false
namespace Go.VM
open Go Go.Lib
variable {B:Nat × Bool}
abbrev KontI:=Ex→St→Option Nat→VC
def yldOf (s:St):Op→Option (Nat × List V)
 | .call { callee:=.value f,args:=as,argTypes:=_ }=>match s.ev f with
   | .c (.yld l)=>some (l,as.toList.map s.ev)
   | _=>none
 | _=>none
def frzV (hp:Hp):V→V
 | .c (.ptr id 0)=>match lookA hp id with
   | some (.box _ cs)=>.ipt cs
   | _=>.c (.ptr id 0)
 | v=>v
def frzL (hp:Hp):List (Nat × V)→List (Nat × V)
 | []=>[]
 | (j,v) :: l=>(j,frzV hp v) :: frzL hp l
def frzS (s:St):St:={ s with sl:=frzL s.hp s.sl,hp:=[(0,.amb)] }
theorem frzL_look (hp:Hp):∀ (l:List (Nat × V)) (j:Nat) (v:V),lookA (frzL hp l) j = some v→∃ v0,lookA l j = some v0∧v = frzV hp v0
 | [],_,_,h=>by cases h
 | (k,x) :: l,j,v,h=>by
   simp only [frzL,lookA,ifb] at h ⊢
   split at h
   ·rename_i e; rw [if_pos e]; cases h; exact ⟨x,rfl,rfl⟩
   ·rename_i e; rw [if_neg e]; exact frzL_look hp l j v h
def itYield (L:Lv) (l:Nat) (it:It) (exp:List (Ds it.el)) (l':Nat) (as:List V) (s:St) (g:Option Nat) (dst:Option Nat) (k:St→Option Nat→VC):VC:=match g with
 | none=>.bad
 | some i=>match viewAll L (lookA s.hp) it.el as with
   | none=>.bad
   | some (y,ids)=>match hasAmb (lookA s.hp) ids with
     | false=>.bad
     | true=>.obl (l' = l) (.obl (L.nth (Ds it.el) exp i y) (.all Bool fun b=>.br b (k ((frzS s).put dst (.c (.bool true))) (some (i + 1))) (k ((frzS s).put dst (.c (.bool false))) none)))
def itOps (L:Lv) (E:Ev) (call:CallG) (l:Nat) (it:It) (exp:List (Ds it.el)) (ops:Array Oper):List Oper→St→Option Nat→(St→Option Nat→VC)→VC
 | [],s,g,k=>k s g
 | o :: r,s,g,k=>guardG ops o s (match yldOf s o.op with
     | some (l',as)=>itYield L l it exp l' as s g o.dst fun s' g'=>itOps L E call l it exp ops r s' g' k
     | none=>stepOp L E call o s fun s'=>itOps L E call l it exp ops r s' g k) (itOps L E call l it exp ops r (s.put o.dst (.c .sk)) g k)
structure IAnn:Type 1 where
 js:List Nat
 ren:St→List Nat
 ad:List (Nat × Option Nat × TypeId × Ty)
 X:Type
 c:St→X→St
 ext:St→X
 I:St→Nat→X→Prop
 mu:St→X→Nat
def itLoop (an:IAnn) (body:St→Option Nat→KontI→VC) (s:St) (g:Option Nat) (k:KontI):VC:=match g with
 | none=>.bad
 | some i=>match adopts an.ad s with
   | none=>.bad
   | some s1=>match norm s1.nx an.js (an.ren s1) s1 with
     | none=>.bad
     | some n0=>.obl (n0 = an.c n0 (an.ext n0)) (.obl (an.I n0 i (an.ext n0)) (.all an.X fun x=>.all Nat fun j=>.imp (an.I n0 j x) (body (an.c n0 x) (some j) fun e s2 g2=>match e with
       | .normal=>match g2 with
         | none=>.bad
         | some j2=>match norm s1.nx an.js (an.ren s2) s2 with
           | some n2=>.ok (n2 = an.c n0 (an.ext n2)∧an.I n0 j2 (an.ext n2)∧an.mu n0 (an.ext n2) < an.mu n0 x)
           | none=>.bad
       | .exit id=>k (.exit id) s2 g2
       | .ret=>k .ret s2 g2)))
def itC (L:Lv) (E:Ev) (call:CallG) (spc:Spc) (pl:Nat→Plan) (ann:Nat→Option IAnn) (l:Nat) (it:It) (exp:List (Ds it.el)):Nat→Code→St→Option Nat→KontI→VC
 | _,.skip,s,g,k=>k .normal s g
 | _,.region id ops draw,s,g,k=>match draw with
   | true=>drawVC L E call spc ops (pl id) s fun s'=>k .normal s' g
   | false=>itOps L E call l it exp ops ops.toList s g (k .normal)
 | b,.seq x y,s,g,k=>itC L E call spc pl ann l it exp b x s g fun e s1 g1=>match e with
   | .normal=>itC L E call spc pl ann l it exp b y s1 g1 k
   | .exit id=>k (.exit id) s1 g1
   | .ret=>k .ret s1 g1
 | b,.cond c x y,s,g,k=>match s.ev c with
   | .c (.bool true)=>itC L E call spc pl ann l it exp b x s g k
   | .c (.bool false)=>itC L E call spc pl ann l it exp b y s g k
   | .c (.sym q)=>.br q (itC L E call spc pl ann l it exp b x s g k) (itC L E call spc pl ann l it exp b y s g k)
   | _=>.bad
 | _,.block id c,s,g,k=>itC L E call spc pl ann l it exp id c s g fun e s1 g1=>match e with
   | .normal=>k .normal s1 g1
   | .exit id'=>if Nat.beq id' id then k .normal s1 g1 else k (.exit id') s1 g1
   | .ret=>k .ret s1 g1
 | b,.loop c,s,g,k=>match ann b with
   | none=>.bad
   | some a=>itLoop a (itC L E call spc pl ann l it exp b c) s g k
 | _,.exit id,s,g,k=>k (.exit id) s g
 | _,.label _,s,g,k=>k .normal s g
 | _,.ret,s,g,k=>k .ret s g
 | _,_,_,_,_=>.bad
def iterVC (L:Lv) (E:Ev) (call:CallG) (spc:Spc) (code:Code) (ntmps:Nat) (pl:Nat→Plan) (ann:Nat→Option IAnn) (it:It) (l:Nat) (x:Ds it.ins):VC :=
 itC L E call spc pl ann l it (it.fn x) 0 code { n:=1 + it.ins.length + (ntmps - (1 + it.ins.length)),sl:=argSl 0 (.c (.yld l) :: capVs it.ins x),hp:=[(0,.amb)],nx:=1 } (some 0) fun e s g=>match hasAmb (lookA s.hp) [] with
  | false=>.bad
  | true=>match e with
    | .exit _=>.bad
    | _=>match g with
      | some i=>.ok (i = L.cnt (Ds it.el) (it.fn x))
      | none=>.ok True
where capVs:(ts:List Ty)→Ds ts→List V
 | [],_=>[]
 | t :: ts,x=>.ipt (expl t x.1) :: capVs ts x.2
section
variable {φ φ':Phi} {ok ok':Nat→Prop} {w w':World}
theorem ptr_move (hph:∀ id p,φ id = some p→(∀ S u,p ≠ .set S u)→φ' id = some p) {id off:Nat} {v:Value} (h:isPtr φ id off v):isPtr φ' id off v:=by
 obtain ⟨b,sz,cap,n,h1,h2⟩:=h
 exact ⟨b,sz,cap,n,hph _ _ h1 (by simp),h2⟩
theorem C_move (hph:∀ id p,φ id = some p→(∀ S u,p ≠ .set S u)→φ' id = some p) (hk:∀ b,ok b→b < w.heap.size→w'.heap[b]? = w.heap[b]?∧ok' b) {x:C} {v:Value} (h:Crel φ ok w x v):Crel φ' ok' w' x v:=by
 cases x with
 | sl e l=>exact YI hk _ _ _ h
 | own id len =>
   rcases h with ⟨h1,h2,h3⟩ | ⟨b,sz,cap,n,h1,h2⟩
   ·exact .inl ⟨hph _ _ h1 (by simp),h2,h3⟩
   ·exact .inr ⟨b,sz,cap,n,hph _ _ h1 (by simp),h2⟩
 | ptr id off=>exact ptr_move hph h
 | selfp id=>exact h.imp (fun h=>h) (fun hc=>ptr_move hph hc)
 | owa id off len =>
   rcases h with h1 | ⟨b,sz,cap,n,h1,h2⟩
   ·exact .inl h1
   ·exact .inr ⟨b,sz,cap,n,hph _ _ h1 (by simp),h2⟩
 | elp id i off=>obtain ⟨b,sz,cap,n,h1,h2⟩:=h; exact ⟨b,sz,cap,n,hph _ _ h1 (by simp),h2⟩
 | fn f caps=>obtain ⟨vs,h1,h2⟩:=h; exact ⟨vs,h1,Yo (fun _ _ hh=>ptr_move hph hh) h2⟩
 | map id=>obtain ⟨b,sz,cap,n,h1,h2⟩:=h; exact ⟨b,sz,cap,n,hph _ _ h1 (by simp),h2⟩
 | _=>exact h
theorem V_move (hph:∀ id p,φ id = some p→(∀ S u,p ≠ .set S u)→φ' id = some p) (hk:∀ b,ok b→b < w.heap.size→w'.heap[b]? = w.heap[b]?∧ok' b) {x:V} {v:Value} (h:Vrel φ ok w x v):Vrel φ' ok' w' x v:=by
 cases x with
 | c x=>exact C_move hph hk h
 | agg l=>obtain ⟨vs,h1,h2⟩:=h; exact ⟨vs,h1,Yo (fun _ _ hh=>C_move hph hk hh) h2⟩
 | tup l =>
   obtain ⟨vs,h1,h2⟩:=h
   refine ⟨vs,h1,Yo (fun y u hh=>?_) h2⟩
   unfold tupRel at hh ⊢
   split at hh
   ·rename_i hy
    rw [if_pos hy]
    obtain ⟨us,e,hh⟩:=hh
    exact ⟨us,e,Yo (fun _ _ hh=>C_move hph hk hh) hh⟩
   ·rename_i hy
    rw [if_neg hy]
    obtain ⟨c,e,hh⟩:=hh
    exact ⟨c,e,C_move hph hk hh⟩
 | ipt l =>
   obtain ⟨ad,vs,h1,h2,h3⟩:=h
   refine ⟨ad,vs,h1,Yo (fun _ _ hh=>C_move hph hk hh) h2,fun i u hu=>?_⟩
   obtain ⟨hok,hcell⟩:=h3 i u hu
   obtain ⟨q1,q2⟩:=hk _ hok (Xe hcell)
   refine ⟨q2,?_⟩
   rw [World.cell?_of_block (w:=w)]
   ·exact hcell
   ·rw [Xc]; exact q1
end
section
variable {P:Program} {E:Ev}
structure GI (JJ:(Nat→Prop)→World→Prop) (φ:Phi) (hp:Hp) (W:World) (C:Nat→Prop) (φs:Phi) (Ws:World):Prop where
 j:JJ C Ws
 p0:φs 0 = some (.set (fun b=>C b∨glB b) Ws)
 pn:∀ id,id ≠ 0→φs id = none
 lt:∀ b,C b→b < Ws.heap.size
 gl:glW Ws
 ev:Evo φs [(0,.amb)] Ws φ hp W
def GX (JJ:(Nat→Prop)→World→Prop) (φ:Phi) (hp:Hp) (W:World):Prop:=∃ C φs Ws,GI JJ φ hp W C φs Ws
theorem okAmb {φs:Phi} {C:Nat→Prop} {Ws:World} (h:φs 0 = some (.set (fun b=>C b∨glB b) Ws)) (b:Nat):okb φs [(0,.amb)] b↔¬ (C b∨glB b):=by
 constructor
 ·intro hb hC
  exact hb 0 .amb _ rfl h hC
 ·intro hC id o p h1 h2 h3
  simp only [lookA,ifb] at h1
  split at h1
  ·rename_i e; subst e
   rw [h] at h2; cases h2
   exact hC h3
  ·cases h1
theorem GX.trans {JJ:(Nat→Prop)→World→Prop} {φ φ':Phi} {hp hp':Hp} {W W':World} (h:GX JJ φ hp W) (ev:Evo φ hp W φ' hp' W'):GX JJ φ' hp' W':=by
 obtain ⟨C,φs,Ws,h⟩:=h
 exact ⟨C,φs,Ws,h.j,h.p0,h.pn,h.lt,h.gl,h.ev.trans ev⟩
theorem GI.below {JJ:(Nat→Prop)→World→Prop} {φ φs:Phi} {hp:Hp} {nx:Nat} {W Ws:World} {C:Nat→Prop} (h:GI JJ φ hp W C φs Ws) (hh:HRel φ hp nx W) (ha:lookA hp 0 = some .amb):Go.RowKit.Below Ws.heap.size Ws W∧φ 0 = some (.set (fun b=>C b∨glB b) Ws):=by
 have h0:=h.ev.ph _ _ h.p0
 obtain ⟨S,w0,g1,g2,g3⟩:=hh.ob 0 .amb ha
 rw [h0] at g1; cases g1
 refine ⟨⟨h.ev.os,h.ev.tape,h.ev.output,h.ev.size,fun b hb=>?_⟩,h0⟩
 by_cases hS:C b∨glB b
 ·exact (g3 b hS).2
 ·exact h.ev.bl b hb ((okAmb h.p0 b).2 hS)
theorem sub_heap {φ:Phi} {hp hp':Hp} {nx:Nat} {W:World} (hs:∀ id o,lookA hp' id = some o→lookA hp id = some o) (hh:HRel φ hp nx W):HRel φ hp' nx W∧Evo φ hp W φ hp' W:=by
 have ev:Evo φ hp W φ hp' W:=⟨rfl,rfl,rfl,Nat.le_refl _,fun _ _ h=>h,fun id o p b h1 h2 h3=>.inr fun hb=>hb id o p (hs id o h1) h2 h3,fun _ _ _=>rfl⟩
 exact ⟨⟨fun id o ho=>(hh.ob id o (hs id o ho)).evo ev fun _ _ _ _=>rfl,hh.fr,fun i j o o' p q b h1 h2=>hh.dj i j o o' p q b (hs i o h1) (hs j o' h2)⟩,ev⟩
theorem amb_of {hp:Hp} {ids:List Nat} (h:hasAmb (lookA hp) ids = true):lookA hp 0 = some .amb:=by
 unfold hasAmb at h; split at h
 ·assumption
 ·cases h
theorem amb_sub {hp:Hp} (h:lookA hp 0 = some .amb) (id:Nat) (o:Ob) (ho:lookA ([(0,.amb)]:Hp) id = some o):lookA hp id = some o:=by
 simp only [lookA,ifb] at ho
 split at ho
 ·rename_i e; subst e; cases ho; exact h
 ·cases ho
theorem after_round {φ:Phi} {s:St} {a:Act} {W W' Ws:World} {C C':Nat→Prop} (hr:Rel B φ s a W) (ha:lookA s.hp 0 = some .amb) (h0:φ 0 = some (.set (fun b=>C b∨glB b) Ws)) (hg:glW W) (hf:Frm C W W') (hn:Next W W' C C') {JJ:(Nat→Prop)→World→Prop} (hJ:JJ C' W') :
  ∃ φ',Rel B φ' (frzS s) a W'∧GX JJ φ' [(0,.amb)] W':=by
 obtain ⟨h1,ev⟩:=sub_heap (amb_sub ha) hr.h
 have frz:∀ {j:Nat} {v:V},lookA (frzS s).sl j = some v→Vrel φ (okb φ [(0,.amb)]) W v (a.tmps.getD j undef):=fun {j v} hj=>by
  obtain ⟨v0,q1,rfl⟩:=frzL_look s.hp s.sl j v hj
  have hv:=hr.sl j v0 q1
  unfold frzV
  split
  ·rename_i id
   split
   ·rename_i t cs ho
    obtain ⟨b,sz,cap,n,g1,g2⟩:=hv
    obtain ⟨b',vs,k1,k2,k3⟩:=hr.ob id _ ho
    rw [g1] at k1; cases k1
    refine ⟨⟨b,0,none⟩,vs,g2,Yo (fun _ _ hh=>ev.C hh) k3,fun i u hu=>⟨fun id' o p h1' h2' h3'=>?_,?_⟩⟩
    ·have e0:id' = 0:=by
      simp only [lookA,ifb] at h1'
      split at h1'
      ·rename_i e; exact e.symm
      ·cases h1'
     subst e0
     have hne:(0:Nat) ≠ id:=fun e=>by subst e; rw [ha] at ho; cases ho
     exact hr.dj 0 id _ _ p _ b ha ho hne h2' g1 h3' rfl
    ·rw [Yu,Xd k2]
     simpa using hu
   ·exact ev.V hv
  ·exact ev.V hv
 have hg':glW W':=Xb hf.gl (Nat.le_trans hg.sz hf.size) hg
 let φ':Phi:=fun id=>if id = 0 then some (.set (fun b=>C' b∨glB b) W') else φ id
 let φs:Phi:=fun id=>if id = 0 then some (.set (fun b=>C' b∨glB b) W') else none
 have p0:φ' 0 = some (.set (fun b=>C' b∨glB b) W'):=if_pos rfl
 have hlt:0 < s.nx:=hr.h.lt ha
 have hph:∀ id p,φ id = some p→(∀ S u,p ≠ .set S u)→φ' id = some p:=fun id p hp hne=>by
  show (if id = 0 then _ else φ id) = _
  rw [if_neg (fun e=>by subst e; rw [h0] at hp; cases hp; exact hne _ _ rfl)]
  exact hp
 have hk:∀ b,okb φ [(0,.amb)] b→b < W.heap.size→W'.heap[b]? = W.heap[b]?∧okb φ' [(0,.amb)] b:=fun b hb hlt=>by
  rw [okAmb h0,not_or] at hb
  rw [okAmb p0,not_or]
  exact ⟨hf.bl b hlt hb.1,fun h=>hb.1 (hn.2 b hlt h),hb.2⟩
 refine ⟨φ',⟨hr.sz,Nat.le_trans hr.bs hf.size,?_,fun j v hj=>V_move hph hk (frz hj),fun id o ho=>?_,fun id hid=>?_,fun i j o o' p q b q1 q2 hne=>?_⟩,C',φs,W',hJ,rfl,fun id hid=>if_neg hid,hn.1,hg',⟨rfl,rfl,rfl,Nat.le_refl _,fun id p hp=>?_,fun id o p b q1 q2 q3=>?_,fun _ _ _=>rfl⟩⟩
 ·obtain ⟨l,d1,d2,d4,d3⟩:=ev.D hr.df
  refine ⟨l,d1,d2,d4,fun D hD=>?_⟩
  obtain ⟨k1,k2,k3⟩:=d3 D hD
  obtain ⟨m1,m2⟩:=hk D k3 (Array.getElem?_eq_some_iff.1 k2).1
  exact ⟨k1,m1.trans k2,m2⟩
 ·change lookA ([(0,.amb)]:Hp) id = some o at ho
  simp only [lookA,ifb] at ho
  split at ho
  ·rename_i e; subst e; cases ho
   exact ⟨_,W',p0,⟨hg',fun b hb=>.inr hb⟩,fun b hb=>⟨hb.elim (hn.1 b) (XD hg'),rfl⟩⟩
  ·cases ho
 ·show (if id = 0 then _ else φ id) = _
  have:s.nx≤id:=hid
  rw [if_neg (by omega)]
  exact hr.fr id this
 ·change lookA ([(0,.amb)]:Hp) i = some o at q1
  change lookA ([(0,.amb)]:Hp) j = some o' at q2
  simp only [lookA,ifb] at q1 q2
  split at q1
  ·split at q2
   ·rename_i e1 e2; exact absurd (e1.symm.trans e2) hne
   ·cases q2
  ·cases q1
 ·change (if id = 0 then _ else none) = some p at hp
  split at hp
  ·rename_i e; subst e; cases hp; exact p0
  ·cases hp
 ·simp only [lookA,ifb] at q1
  split at q1
  ·rename_i e; subst e
   rw [p0] at q2; cases q2
   exact .inr fun hb=>(okAmb (φs:=φs) rfl b).1 hb q3
  ·cases q1
variable {it:It} {exp:List (Ds it.el)} {J Jx:List (Ds it.el)→(Nat→Prop)→World→Prop} {l:Nat}
def JG (exp:List (Ds it.el)) (J Jx:List (Ds it.el)→(Nat→Prop)→World→Prop):Option Nat→(Nat→Prop)→World→Prop
 | some i=>J (exp.take i)
 | none=>fun C W=>∃ pre,Jx pre C W
def Rounds (P:Program) (l:Nat) (exp:List (Ds it.el)) (J Jx:List (Ds it.el)→(Nat→Prop)→World→Prop):Prop:=∀ pre y rest W1 C,exp = pre ++ y :: rest→J pre C W1→YieldAt Fence.wide 0 P l (encs it.el y).toArray W1 fun e W' =>
   Frm C W1 W'∧∃ C',Next W1 W' C C'∧((e = .returned (.bool true)∧J (pre ++ [y]) C' W')∨(e = .returned (.bool false)∧Jx (pre ++ [y]) C' W'))
def EndsI (B:Nat × Bool) (exp:List (Ds it.el)) (J Jx:List (Ds it.el)→(Nat→Prop)→World→Prop) (n:Nat) (k:St→Option Nat→VC) (a':Act) (w':World):Prop :=
 ∃ φ' s' g',Rel B φ' s' a' w'∧s'.n = n∧GX (JG exp J Jx g') φ' s'.hp w'∧(k s' g').holds
theorem yield_sound (hflat:it.el.all Ty.flat = true) (hJ:Grows J) (hR:Rounds P l exp J Jx) {m:Nat} {φ:Phi} {s:St} {a:Act} {w:World} (hr:Rel B φ s a w) (o:Oper) {l':Nat} {as:List V} (ho:yldOf s o.op = some (l',as)) {g:Option Nat} (k:St→Option Nat→VC)
  (hg:GX (JG exp J Jx g) φ s.hp w) (h:(itYield Lv.std l it exp l' as s g o.dst k).holds) {next:Act→World→Prop} {Q:Exit→Act→World→Prop} (hn:∀ a' w',EndsI B exp J Jx s.n k a' w'→next a' w'):o.wpIn Fence.wide m P a w next Q:=by
 refine ⟨fun f _=>trivial,?_⟩
 unfold yldOf at ho
 split at ho
 rotate_left
 ·cases ho
 rename_i f as0 ts hop
 split at ho
 rotate_left
 ·cases ho
 rename_i l2 hf
 cases ho
 unfold itYield at h
 split at h
 ·exact h.elim
 rename_i i
 split at h
 ·exact h.elim
 rename_i y ids hv
 split at h
 ·exact h.elim
 rename_i hamb
 obtain ⟨rfl,hy,hk⟩:=h
 have ha:=amb_of hamb
 obtain ⟨C,φs,Ws,hg⟩:=hg
 obtain ⟨hbel,h0⟩:=hg.below hr.h ha
 have hfv:a.eval f = .func (.yield l') #[] #[]:=by
  have:=Xm hr f
  rw [hf] at this
  exact this
 have hKs:=YG hr.h it.el _ _ y ids hv (evs_ok hr as0.toList)
 have hargs:as0.map a.eval = (encs it.el y).toArray:=by
  have:=(KVs_flat it.el y _ hflat).1 hKs
  rw [← this]; apply Array.ext'; simp
 have hlt:i < exp.length:=(List.getElem?_eq_some_iff.1 hy).1
 have hexp:exp = exp.take i ++ y :: exp.drop (i + 1):=by
  have h1:exp[i] = y:=(List.getElem?_eq_some_iff.1 hy).2
  rw [← h1,List.getElem_cons_drop hlt,List.take_append_drop]
 have htk:exp.take (i + 1) = exp.take i ++ [y]:=by
  rw [List.take_succ,hy]; rfl
 obtain ⟨fn,tmps,asg,body,hrun,hround⟩:=hR (exp.take i) y (exp.drop (i + 1)) w C hexp (hJ _ _ _ _ hg.j hbel)
 rw [Oper.semAt_eq _ _ _ (fun c e=>by rw [hop] at e; cases e)]
 have hx:(execOp a.eval o).run P w = .ok (.round l' fn tmps asg body) w:=by
  unfold execOp
  simp only [hop,resolve,Sem.run_bind,hfv,Deferred.ofValue,Sem.run_pure,Result.andThen_ok,invoke,Array.empty_append,Array.append_empty]
  rw [hargs]
  exact hrun
 rw [hx,Oper.uponIn_round]
 refine ⟨fun h=>(by cases h),trivial,fun c cs _=>?_⟩
 obtain ⟨e,w',⟨hfr,C',hnx,hres⟩,hst⟩:=hround.2 c cs (room_wide _)
 have hgw:glW w:=Xb (fun b hb=>hbel.block b (XD hg.gl hb)) (Nat.le_trans hg.gl.sz hbel.size) hg.gl
 refine ⟨e,w',?_,hst⟩
 rcases hres with ⟨rfl,hJ'⟩ | ⟨rfl,hJ'⟩
 ·obtain ⟨φ',r1,r2⟩:=after_round (JJ:=JG exp J Jx (some (i + 1))) hr ha h0 hgw hfr hnx (by show J (exp.take (i + 1)) C' w'; rw [htk]; exact hJ')
  obtain ⟨p1,p2,p3⟩:=r1.put [(0,.amb)] s.nx r1.h (Evo.refl _ _ _) o.dst (.c (.bool true)) (.bool true) rfl
  exact hn _ _ ⟨φ',_,some (i + 1),p1,p3,by rw [p2]; exact r2,(hk true).1 rfl⟩
 ·obtain ⟨φ',r1,r2⟩:=after_round (JJ:=JG exp J Jx none) hr ha h0 hgw hfr hnx ⟨_,hJ'⟩
  obtain ⟨p1,p2,p3⟩:=r1.put [(0,.amb)] s.nx r1.h (Evo.refl _ _ _) o.dst (.c (.bool false)) (.bool false) rfl
  exact hn _ _ ⟨φ',_,none,p1,p3,by rw [p2]; exact r2,(hk false).2 rfl⟩
theorem EndsI.of {φ φ':Phi} {s s':St} {a':Act} {w w':World} {n:Nat} {g:Option Nat} {k:St→Option Nat→VC} (hg:GX (JG exp J Jx g) φ s.hp w) (r:Rel B φ' s' a' w') (ev:Evo φ s.hp w φ' s'.hp w') (hn:s'.n = n) (h:(k s' g).holds):EndsI B exp J Jx n k a' w' :=
 ⟨φ',s',g,r,hn,hg.trans ev,h⟩
theorem XN (hflat:it.el.all Ty.flat = true) (hJ:Grows J) (hR:Rounds P l exp J Jx) {call:CallG} (hE:∀ t i,E t = some i→TIok P t i) (hcall:CallOk P call) {m:Nat} (ops:Array Oper) {Q:Exit→Act→World→Prop}:∀ (os:List Oper) (ns:List Nat),ns.map (fun i=>ops[i]?) = os.map some →
  ∀ (φ:Phi) (s:St) (a:Act) (w:World) (g:Option Nat) (k:St→Option Nat→VC),(itOps Lv.std E call l it exp ops os s g k).holds→Rel B φ s a w→GX (JG exp J Jx g) φ s.hp w→(∀ a' w',EndsI B exp J Jx s.n k a' w'→Q .normal a' w')→wpOpsIn Fence.wide m P ops Q ns a w
 | [],[],_,φ,s,a,w,g,k,h,hr,hg,hQ=>hQ a w ⟨φ,s,g,hr,rfl,hg,h⟩
 | o :: os,i :: ns,hm,φ,s,a,w,g,k,h,hr,hg,hQ=>by
   simp only [List.map_cons,List.cons.injEq] at hm
   unfold itOps at h
   simp only [wpOpsIn,hm.1]
   rcases guard_sound hr ops o _ _ h with ⟨hw,h⟩ | ⟨hw,h⟩
   ·rw [if_pos hw]
    split at h
    ·rename_i l' as ho
     refine yield_sound hflat hJ hR hr o ho _ hg h fun a' w' he=>?_
     obtain ⟨φ',s',g',r1,r2,r3,r4⟩:=he
     exact XN hflat hJ hR hE hcall ops os ns hm.2 φ' s' a' w' g' k r4 r1 r3 fun a2 w2 he2=>hQ a2 w2 (by rw [r2] at he2; exact he2)
    ·refine step_sound .wide hE hcall hr o _ h fun a' w' he=>?_
     obtain ⟨φ',s',r1,r2,r3,r4⟩:=he
     exact XN hflat hJ hR hE hcall ops os ns hm.2 φ' s' a' w' g k r4 r1 (hg.trans r2) fun a2 w2 he2=>hQ a2 w2 (by rw [r3] at he2; exact he2)
   ·rw [if_neg (by rw [hw]; simp)]
    obtain ⟨r1,r2,r3⟩:=hr.put s.hp s.nx hr.h (Evo.refl _ _ _) o.dst (.c .sk) undef rfl
    exact ⟨fun f _=>trivial,XN hflat hJ hR hE hcall ops os ns hm.2 φ _ _ w g k h r1 (by rw [r2]; exact hg) fun a2 w2 he2=>hQ a2 w2 (by rw [r3] at he2; exact he2)⟩
 | [],_ :: _,hm,_,_,_,_,_,_,_,_,_,_=>by cases hm
 | _ :: _,[],hm,_,_,_,_,_,_,_,_,_,_=>by cases hm
def CodeOkI (P:Program) (B:Nat × Bool) (exp:List (Ds it.el)) (J Jx:List (Ds it.el)→(Nat→Prop)→World→Prop) (c:Code) (gen:St→Option Nat→KontI→VC):Prop:=∀ (m:Nat) (φ:Phi) (s:St) (a:Act) (w:World) (g:Option Nat) (k:KontI) (Q:Exit→Act→World→Prop),
 (gen s g k).holds→Rel B φ s a w→GX (JG exp J Jx g) φ s.hp w→(∀ x a' w',EndsI B exp J Jx s.n (k x) a' w'→Q x.to a' w')→c.wpIn Fence.wide m P Q a w
theorem GX.fresh {JJ:(Nat→Prop)→World→Prop} {φ:Phi} {hp hp':Hp} {nx:Nat} {W:World} (h:GX JJ φ hp W) (hh:HRel φ hp' nx W):0 < nx:=by
 obtain ⟨C,φs,Ws,h⟩:=h
 rcases Nat.eq_zero_or_pos nx with e | e
 ·have:=hh.fr 0 (by omega)
  rw [h.ev.ph _ _ h.p0] at this; cases this
 ·exact e
theorem itLoop_sound {c:Code} {gen:St→Option Nat→KontI→VC} (an:IAnn) (hb:CodeOkI P B exp J Jx c gen):CodeOkI P B exp J Jx (.loop c) (itLoop an gen):=by
 intro m φ s a w g k Q h hr hg hQ
 unfold itLoop at h
 split at h
 ·exact h.elim
 rename_i i
 split at h
 ·exact h.elim
 rename_i s1 hs1
 obtain ⟨φ1,r1,e1,m1⟩:=adopts_ok an.ad hs1 hr
 split at h
 ·exact h.elim
 rename_i n0 hn0
 obtain ⟨h1,h2,h3⟩:=h
 have hpos:=(hg.trans e1).fresh r1.h
 obtain ⟨r0,m0,e0,_⟩:=XO hn0 r1
 refine wp_loop_g (fun (p:an.X × Nat) a' w'=>an.I n0 p.2 p.1∧∃ φ',Rel B φ' (an.c n0 p.1) a' w'∧GX (JG exp J Jx (some p.2)) φ' (an.c n0 p.1).hp w'∧(an.c n0 p.1).n = s.n) (fun p=>an.mu n0 p.1) ⟨(an.ext n0,i),h2,phiRen φ1 s1.nx (an.ren s1),?_⟩ ?_
 ·show Rel B _ (an.c n0 (an.ext n0)) a w∧GX _ _ (an.c n0 (an.ext n0)).hp w∧(an.c n0 (an.ext n0)).n = s.n
  rw [← h1]
  obtain ⟨C,φs,Ws,q⟩:=hg.trans e1
  exact ⟨r0,⟨C,φs,Ws,q.j,q.p0,q.pn,q.lt,q.gl,e0 _ _ _ (fun id hid=>q.pn id (by omega)) q.ev⟩,m0.trans m1⟩
 ·rintro ⟨x,j⟩ a1 w1 ⟨hI,φ',r2,g2,m2⟩
  refine hb m φ' (an.c n0 x) a1 w1 _ _ _ (h3 x j hI) r2 g2 ?_
  rintro y a2 w2 he
  rw [m2] at he
  cases y with
  | normal =>
    obtain ⟨φ3,s3,g3,t1,t2,t3,t4⟩:=he
    simp only at t4
    split at t4
    ·exact t4.elim
    rename_i j2
    split at t4
    ·rename_i n2 hn2
     obtain ⟨q1,q2,q3⟩:=t4
     obtain ⟨r4,m4,e4,_⟩:=XO hn2 t1
     refine ⟨(an.ext n2,j2),⟨q2,phiRen φ3 s1.nx (an.ren s3),?_⟩,q3⟩
     show Rel B _ (an.c n0 (an.ext n2)) a2 w2∧GX _ _ (an.c n0 (an.ext n2)).hp w2∧(an.c n0 (an.ext n2)).n = s.n
     rw [← q1]
     obtain ⟨C,φs,Ws,q⟩:=t3
     exact ⟨r4,⟨C,φs,Ws,q.j,q.p0,q.pn,q.lt,q.gl,e4 _ _ _ (fun id hid=>q.pn id (by omega)) q.ev⟩,m4.trans t2⟩
    ·exact t4.elim
  | exit id=>exact hQ _ _ _ he
  | ret=>exact hQ _ _ _ he
theorem YR (hm:P.follows .mixedOrders = true) (hflat:it.el.all Ty.flat = true) (hJ:Grows J) (hR:Rounds P l exp J Jx) {call:CallG} {spc:Spc} {pl:Nat→Plan} (hE:∀ t i,E t = some i→TIok P t i) (hcall:CallOk P call) (hspc:∀ g x,spc g = some x→XOk P g x) (ann:Nat→Option IAnn) :
  ∀ (c:Code) (b:Nat),plansOk pl c = true→CodeOkI P B exp J Jx c (itC Lv.std E call spc pl ann l it exp b c)
 | .skip,b,hp,m,φ,s,a,w,g,k,Q,h,hr,hg,hQ=>wpIn_skip (hQ .normal _ _ ⟨φ,s,g,hr,rfl,hg,h⟩)
 | .region id ops draw,b,hp,m,φ,s,a,w,g,k,Q,h,hr,hg,hQ=>by
   unfold itC at h
   cases draw
   ·exact wpIn_region (XN hflat hJ hR hE hcall ops ops.toList _ (range_get ops) φ _ a w g _ h hr hg fun a' w' he=>hQ .normal _ _ he)
   ·refine drawVC_sound .wide hm hE hcall hspc (by simpa [plansOk] using hp) id φ s a w _ Q h hr fun a' w' he=>hQ .normal _ _ ?_
    obtain ⟨φ',s',r1,r2,r3,r4⟩:=he
    exact ⟨φ',s',g,r1,r3,hg.trans r2,r4⟩
 | .seq x y,b,hp,m,φ,s,a,w,g,k,Q,h,hr,hg,hQ=>by
   unfold itC at h
   refine wpIn_seq (YR hm hflat hJ hR hE hcall hspc ann x b (by simp only [plansOk,Bool.and_eq_true] at hp; exact hp.1) m φ s a w g _ _ h hr hg ?_)
   rintro z a1 w1 ⟨φ1,s1,g1,t1,t2,t3,t4⟩
   cases z with
   | normal=>exact YR hm hflat hJ hR hE hcall hspc ann y b (by simp only [plansOk,Bool.and_eq_true] at hp; exact hp.2) m φ1 s1 a1 w1 g1 k _ t4 t1 t3 fun z a2 w2 he=>hQ z a2 w2 (by rw [t2] at he; exact he)
   | exit id=>exact hQ (.exit id) _ _ ⟨φ1,s1,g1,t1,t2,t3,t4⟩
   | ret=>exact hQ .ret _ _ ⟨φ1,s1,g1,t1,t2,t3,t4⟩
 | .cond c x y,b,hp,m,φ,s,a,w,g,k,Q,h,hr,hg,hQ=>by
   unfold itC at h
   have hv:=Xm hr c
   have hx:=YR hm hflat hJ hR hE hcall hspc ann x b (by simp only [plansOk,Bool.and_eq_true] at hp; exact hp.1) m φ s a w g k Q
   have hy:=YR hm hflat hJ hR hE hcall hspc ann y b (by simp only [plansOk,Bool.and_eq_true] at hp; exact hp.2) m φ s a w g k Q
   split at h
   ·rename_i e; rw [e] at hv
    exact wpIn_cond_true hv (hx h hr hg hQ)
   ·rename_i e; rw [e] at hv
    exact wpIn_cond_false hv (hy h hr hg hQ)
   ·rename_i q e; rw [e] at hv
    exact wpIn_cond_split hv (fun e=>hx (h.1 e) hr hg hQ) (fun e=>hy (h.2 e) hr hg hQ)
   ·exact h.elim
 | .block id c,b,hp,m,φ,s,a,w,g,k,Q,h,hr,hg,hQ=>by
   unfold itC at h
   refine wpIn_block (YR hm hflat hJ hR hE hcall hspc ann c id hp m φ s a w g _ _ h hr hg ?_)
   rintro z a1 w1 ⟨φ1,s1,g1,t1,t2,t3,t4⟩
   cases z with
   | normal=>exact hQ .normal _ _ ⟨φ1,s1,g1,t1,t2,t3,t4⟩
   | exit id' =>
     simp only [Ex.to,Exit.inBlock]
     simp only at t4
     rw [ifb] at t4
     by_cases e:id' = id
     ·rw [if_pos e] at t4 ⊢
      exact hQ .normal _ _ ⟨φ1,s1,g1,t1,t2,t3,t4⟩
     ·rw [if_neg e] at t4 ⊢
      exact hQ (.exit id') _ _ ⟨φ1,s1,g1,t1,t2,t3,t4⟩
   | ret=>exact hQ .ret _ _ ⟨φ1,s1,g1,t1,t2,t3,t4⟩
 | .loop c,b,hp,m,φ,s,a,w,g,k,Q,h,hr,hg,hQ=>by
   unfold itC at h
   split at h
   ·exact h.elim
   ·exact itLoop_sound _ (YR hm hflat hJ hR hE hcall hspc ann c b hp) m φ s a w g k Q h hr hg hQ
 | .exit id,b,hp,m,φ,s,a,w,g,k,Q,h,hr,hg,hQ=>wpIn_exit (hQ (.exit id) _ _ ⟨φ,s,g,hr,rfl,hg,h⟩)
 | .label _,b,hp,m,φ,s,a,w,g,k,Q,h,hr,hg,hQ=>wpIn_label (hQ .normal _ _ ⟨φ,s,g,hr,rfl,hg,h⟩)
 | .ret,b,hp,m,φ,s,a,w,g,k,Q,h,hr,hg,hQ=>wpIn_ret (hQ .ret _ _ ⟨φ,s,g,hr,rfl,hg,h⟩)
 | .rangeFunc _ _ _ _,b,hp,m,φ,s,a,w,g,k,Q,h,hr,hg,hQ=>by unfold itC at h; exact h.elim
 | .scope _,b,hp,m,φ,s,a,w,g,k,Q,h,hr,hg,hQ=>by unfold itC at h; exact h.elim
 | .goto _,b,hp,m,φ,s,a,w,g,k,Q,h,hr,hg,hQ=>by unfold itC at h; exact h.elim
 | .refuse _,b,hp,m,φ,s,a,w,g,k,Q,h,hr,hg,hQ=>by unfold itC at h; exact h.elim
theorem capVs_ok {φ:Phi} {ok:Nat→Prop} {w:World}:∀ (ts:List Ty) (x:Ds ts) (vs:List Value),CapsOk ok w ts x vs→L2 (Vrel φ ok w) (iterVC.capVs ts x) vs
 | [],_,[],_=>trivial
 | t :: ts,x,v :: vs,h=>by
   obtain ⟨⟨ad,us,h1,h2,h3⟩,h4⟩:=h
   exact ⟨⟨ad,us,h1,YU t x.1 us h2,h3⟩,capVs_ok ts x.2 vs h4⟩
 | [],_,_ :: _,h=>by cases h
 | _ :: _,_,[],h=>h.elim
theorem CapsOk.len {ok:Nat→Prop} {w:World}:∀ (ts:List Ty) (x:Ds ts) (vs:List Value),CapsOk ok w ts x vs→vs.length = ts.length
 | [],_,vs,h=>by cases h; rfl
 | t :: ts,x,v :: vs,h=>by simp [CapsOk.len ts x.2 vs h.2]
 | _ :: _,_,[],h=>h.elim
theorem iter_sound (hm:P.follows .mixedOrders = true) (hE:∀ t i,E t = some i→TIok P t i) {fns:FuncId→FT} (ht:TableOk P fns) (n:Nat) {gf:FuncId} {d:FnD} (hd:FnOk P gf d) (hres:d.res = []) (it:It) (hflat:it.el.all Ty.flat = true)
  (ann:Ds it.ins→Nat→Option IAnn) (h:∀ l x,it.pre x→(iterVC Lv.std E (callG Lv.std E fns n) (spcOf fns) d.code d.ntmps d.pl (ann x) it l x).holds):ItOk P gf it:=by
 refine ⟨hd.has,hflat,fun ok w caps x hG hC hpre l J Jx W C0 hbel hC0 hJ hJx hR h0=>?_⟩
 obtain ⟨fn,h1,h2,h3,h4,h5,h6⟩:=hd
 have hlen:=CapsOk.len it.ins x caps hC
 have hgW:glW W:=Xb (fun b hb=>hbel.block b (XD hG.1 hb)) (Nat.le_trans hG.1.sz hbel.size) hG.1
 let φ:Phi:=fun id=>if id = 0 then some (.set (fun b=>C0 b∨glB b) W) else none
 have p0:φ 0 = some (.set (fun b=>C0 b∨glB b) W):=rfl
 have hh:HRel φ [(0,.amb)] 1 W:=by
  refine ⟨fun id o ho=>?_,fun id hid=>?_,fun i j o o' p q b h1 h2 hne=>?_⟩
  ·simp only [lookA,ifb] at ho
   split at ho
   ·rename_i e; subst e; cases ho
    exact ⟨_,W,rfl,⟨hgW,fun b hb=>.inr hb⟩,fun b hb=>⟨hb.elim (fun h=>(hC0 b h).1) (XD hgW),rfl⟩⟩
   ·cases ho
  ·show (if id = 0 then _ else none) = none
   rw [if_neg (by omega)]
  ·simp only [lookA,ifb] at h1 h2
   split at h1
   ·split at h2
    ·rename_i e1 e2; exact absurd (e1.symm.trans e2) hne
    ·cases h2
   ·cases h1
 have hok:∀ b,ok b→b < w.heap.size→W.heap[b]? = w.heap[b]?∧okb φ [(0,.amb)] b:=fun b hb hl=>by
  refine ⟨hbel.block b hl,(okAmb p0 b).2 (not_or.2 ⟨fun h=>(hC0 b h).2 ⟨hl,hb⟩,fun h=>hG.2 b h hb⟩)⟩
 have hv:L2 (Vrel φ (okb φ [(0,.amb)]) W) (.c (.yld l) :: iterVC.capVs it.ins x) (Value.func (.yield l) #[] #[] :: caps):=⟨rfl,capVs_ok _ _ _ (CapsOk.mono hok _ _ _ hC)⟩
 have hst:=start_rel (B:=(0,false)) (Nat.zero_le _) hh hv d.ntmps
 have hlc:(C.yld l :: ([]:List C)).length = 1:=rfl
 have hlv:(V.c (.yld l) :: iterVC.capVs it.ins x).length = 1 + it.ins.length:=by
  have:=YW hv
  simp only [List.length_cons] at this ⊢
  omega
 rw [hlv] at hst
 refine (callsIn_wide (n:=0)).1 (callsIn_of_wp_marks h1 h3 trivial ?_)
 rw [h4]
 have hvc:=h l x hpre
 unfold iterVC at hvc
 refine YR (B:=(0,false)) (it:=it) (exp:=it.fn x) (J:=J) (Jx:=Jx) hm hflat hJ hR hE (YN hm hE ht n) (Y4 ht) (ann x) d.code 0 h6 0 φ _ _ W (some 0) _ _ hvc hst ⟨C0,φ,W,by simpa [JG] using h0,p0,fun id hid=>if_neg hid,fun b hb=>(hC0 b hb).1,hgW,Evo.refl _ _ _⟩ ?_
 rintro z a' w' ⟨φ',s',g',t1,t2,t3,t4⟩
 simp only at t4
 split at t4
 ·exact t4.elim
 rename_i hamb
 have hnil:a'.defers = []:=by
  obtain ⟨ll,d1,_,d3,_⟩:=t1.df
  rw [d1,d3 rfl]; rfl
 have hdone:∀ g2:Option Nat,GX (JG (it.fn x) J Jx g2) φ' s'.hp w'→(∀ i,g2 = some i→i = List.length (it.fn x))→LeavesInM Fence.wide 0 P fn a'.tmps (fun e W'=>(∃ v,e = .returned v)∧((∃ C,J (it.fn x) C W')∨∃ pre C,Jx pre C W')) a'.defers .returning w':=by
  rintro g2 ⟨C,φs,Ws,q⟩ hg2
  obtain ⟨hb,_⟩:=q.below t1.h (amb_of hamb)
  rw [hnil]
  refine ⟨.tuple #[],?_,⟨_,rfl⟩,?_⟩
  ·have e:fn.results = #[]:=by apply Array.ext'; rw [h5]; exact hres
   unfold results
   rw [e]
   simp
  ·cases g2 with
   | some i =>
     have hi:=hg2 i rfl
     subst hi
     have:=q.j
     simp only [JG,List.take_length] at this
     exact .inl ⟨C,hJ _ _ _ _ this hb⟩
   | none =>
     obtain ⟨pre,hp⟩:=q.j
     exact .inr ⟨pre,C,hJx _ _ _ _ hp hb⟩
 cases z with
 | exit id=>exact t4.elim
 | normal=>exact hdone g' t3 fun i hi=>by subst hi; exact t4
 | ret=>exact hdone g' t3 fun i hi=>by subst hi; exact t4
end
end Go.VM
namespace Go.VM
open Go Go.Lib
def only (T:FuncId→FT) (l:List Nat):FuncId→FT:=fun g=>match memN g l with
 | true=>T g
 | false=>.no
def FTok (P:Program) (g:FuncId):FT→Prop
 | .no=>True
 | .spec sp=>SpecOk P g sp
 | .ext x=>XOk P g x
 | .inl d=>FnOk P g d
 | .it i=>ItOk P g i
theorem table_of {P:Program} {fns:FuncId→FT} (h:∀ g,FTok P g (fns g)):TableOk P fns:=fun g=>by
 have:=h g
 unfold FTok at this
 split at this <;> simp_all
theorem Zs {P:Program} {T:FuncId→FT} {l:List Nat} (h:∀ g ∈ l,FTok P g (T g)):TableOk P (only T l):=table_of fun g=>by
 unfold only
 cases hm:memN g l with
 | true=>exact h g ((Ys g l).1 hm)
 | false=>trivial
theorem Yh {P:Program} {T:FuncId→FT} {g:Nat} {sp:Spec} (k:SpecOk P g sp) (e:T g = .spec sp):FTok P g (T g):=by rw [e]; exact k
theorem XB {P:Program} {T:FuncId→FT} {g:Nat} {x:XOp} (k:XOk P g x) (e:T g = .ext x):FTok P g (T g):=by rw [e]; exact k
theorem Yy {P:Program} {T:FuncId→FT} {g:Nat} {d:FnD} (k:FnOk P g d) (e:T g = .inl d):FTok P g (T g):=by rw [e]; exact k
theorem tb_it {P:Program} {T:FuncId→FT} {g:Nat} {i:It} (k:ItOk P g i) (e:T g = .it i):FTok P g (T g):=by rw [e]; exact k
theorem Z4 {P:Program} {T:FuncId→FT}:∀ g ∈ ([]:List Nat),FTok P g (T g):=fun _ h=>by cases h
theorem Za {P:Program} {T:FuncId→FT} {g:Nat} {l:List Nat} (h:FTok P g (T g)) (hl:∀ x ∈ l,FTok P x (T x)):∀ x ∈ g :: l,FTok P x (T x):=fun x hx=>by
 rcases List.mem_cons.1 hx with rfl | hx
 ·exact h
 ·exact hl x hx
def anR (L:Lv) (js:List Nat) (ad:List (Nat × Option Nat × TypeId × Ty)) (hv:List Hv) (I:Nat→Ds (tysOf hv)→Prop):LAnn :=
 .rf { js:=js,ren:=fun s=>hvIds s hv,ad:=ad,X:=Ds (tysOf hv),c:=hvPut L hv,ext:=hvGet L hv,I:=fun _ i x=>I i x }
def anY (L:Lv) (js:List Nat) (ad:List (Nat × Option Nat × TypeId × Ty)) (hv:List Hv) (I:Nat→Ds (tysOf hv)→Prop) (mu:Ds (tysOf hv)→Nat):Option IAnn :=
 some { js:=js,ren:=fun s=>hvIds s hv,ad:=ad,X:=Ds (tysOf hv),c:=hvPut L hv,ext:=hvGet L hv,I:=fun _ i x=>I i x,mu:=fun _ x=>mu x }
theorem iter_by {P:Program} {E:Ev} (hm:P.follows .mixedOrders = true) (hE:∀ t i,E t = some i→TIok P t i) {gf:FuncId} {d:FnD} (hd:FnOk P gf d) (hres:d.res = []) (it:It) (hflat:it.el.all Ty.flat = true) {fns:FuncId→FT} (ht:TableOk P fns) (n:Nat)
  (ann:Ds it.ins→Nat→Option IAnn) (h:∀ l x,it.pre x→Holds (iterVC Lv.std E (callG Lv.std E fns n) (spcOf fns) d.code d.ntmps d.pl (ann x) it l x)):ItOk P gf it :=
 iter_sound hm hE ht n hd hres it hflat ann fun l x hx=>(h l x hx).h
theorem drop_cons {α:Type} {l r:List α} {j:Nat} {a:α} (h:l.drop j = a :: r):l[j]? = some a∧l.drop (j + 1) = r∧j < l.length:=by
 have hlt:j < l.length:=by
  rcases Nat.lt_or_ge j l.length with h2 | h2
  ·exact h2
  ·rw [List.drop_eq_nil_of_le h2] at h; cases h
 rw [List.drop_eq_getElem_cons hlt] at h
 injection h with h1 h2
 exact ⟨by rw [List.getElem?_eq_getElem hlt,h1],h2,hlt⟩
theorem drop_nil {α:Type} {l:List α} {j:Nat} (h:l.drop j = []) (hj:j≤l.length):j = l.length:=by
 have:=List.drop_eq_nil_iff.1 h
 omega
end Go.VM
