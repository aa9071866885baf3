/- A condition generator over the model's code, proved sound: what a function's body must come to is told as conditions on plain data. Conditions: none of ours. -/
import Derived.Test.YtljepnnnjfalcaaGreatC3
import Derived.Test.YtljepnnnjfalcaaGreatC2
set_option autoImplicit false
set_option linter.all false
namespace Go.VM
open Go Go.Lib
variable {B:Nat × Bool}
def disjN (a b:List Nat):Bool:=a.all fun x=>!(memN x b)
def nextIds (hp:Hp):List Nat→List Nat
 | []=>[]
 | id :: l=>idsO (lookA hp id) ++ nextIds hp l
def reach:Nat→Hp→List Nat→List Nat
 | 0,_,l=>l
 | n + 1,hp,l=>match l with
   | []=>[]
   | l=>l ++ reach n hp (nextIds hp l)
def opdIds (s:St):List Operand→List Nat
 | []=>[]
 | x :: l=>idsV (s.ev x) ++ opdIds s l
def hR (used:List Nat) (hp:Hp):H:=fun id=>match memN id used with
 | true=>lookA hp id
 | false=>none
structure Rec where
 i:Nat
 used:List Nat
 tch:List Nat
 nw:Bool
 al:Bool
 hd:Bool
def okRec (un used tch:List Nat) (nw:Bool) (r:Rec):Bool:=match memN r.i un with
 | false=>true
 | true=>disjN used r.tch && disjN tch r.used && disjN tch r.tch && (!(nw && r.nw) || (r.al || r.hd))
def okRecs (un used tch:List Nat) (nw:Bool):List Rec→Bool
 | []=>true
 | r :: l=>match okRec un used tch nw r with
   | true=>okRecs un used tch nw l
   | false=>false
def hdB (s:St) (o:Oper) (used tch:List Nat):Bool:=(match lookA s.hp 0 with
 | some .amb=>true
 | _=>false) && memN 0 used && !(memN 0 tch) && used.all (fun id=>Nat.blt id s.nx && (idsOk (lookA s.hp id)).all fun j=>memN j used) && (opdIds s o.op.operands.toList).all fun j=>memN j used
structure Spc where
 x:FuncId→Option XOp
 it:FuncId→Option It
instance:CoeFun Spc fun _=>FuncId→Option XOp:=⟨Spc.x⟩
def stepD (L:Lv) (E:Ev) (spc:Spc) (o:Oper) (used:List Nat) (s:St) (k:St→List Nat→Bool→VC):VC:=match o.op with
 | .call { callee:=.value f,args:=as,argTypes:=_ }=>match s.ev f with
   | .c (.fn g caps)=>match spc g with
     | some x=>runD s o.dst k (x.fr L (hR used s.hp) s.nx (as.toList.map s.ev ++ caps.map fun id=>.c (.ptr id 0)))
     | none=>.bad
   | _=>.bad
 | op=>runD s o.dst k (opFR L E (hR used s.hp) s.nx s.ev op)
def usedOf (s:St) (o:Oper):List Nat:=match o.op with
 | .move _ | .nilCheck _ | .fieldAddr _ _ _=>[]
 | .load _ x=>0 :: idsV (s.ev x)
 | op=>0 :: reach 4 s.hp (opdIds s op.operands.toList)
def drawGo (L:Lv) (E:Ev) (spc:Spc) (ops:Array Oper):List (Nat × List Nat)→List Rec→St→(St→VC)→VC
 | [],_,s,k=>k s
 | (i,un) :: rest,recs,s,k=>match ops[i]? with
   | none=>.bad
   | some o=>guardG ops o s
     (stepD L E spc o (usedOf s o) s fun s' tch nw=>match okRecs un (usedOf s o) tch nw recs with
      | true=>drawGo L E spc ops rest (⟨i,usedOf s o,tch,nw,isAlloc o.op,hdB s o (usedOf s o) tch⟩ :: recs) s' k
      | false=>.bad)
     (drawGo L E spc ops rest (⟨i,[],[],false,false,false⟩ :: recs) (s.put o.dst (.c .sk)) k)
def apartI (ops:Array Oper) (i j:Nat):Bool:=match ops[i]?,ops[j]? with
 | some x,some y=>x.apart ops y
 | _,_=>false
def maskOf (acc:List Nat) (l:List Edge):Nat:=l.foldl (fun s e=>if Region.binds .any e then s ||| 2 ^ e.on ||| acc.getD e.on 0 else s) 0
def ancGo:List Oper→List Nat→List Nat
 | [],acc=>acc
 | o :: os,acc=>ancGo os (acc ++ [maskOf acc o.after.toList])
def planGo (ops:Array Oper) (anc:List Nat):List (Nat × List Nat)→List Nat→Bool
 | [],_=>true
 | (i,un) :: r,prev=>!(memN i prev) && prev.all (fun j=>(anc.getD i 0).testBit j || (memN j un && apartI ops i j)) && planGo ops anc r (i :: prev)
def edgesBack (ops:Array Oper):Bool:=(List.range ops.size).all fun i=>match ops[i]? with
 | some o=>o.after.toList.all fun e=>!(Region.binds .any e) || Nat.blt e.on i
 | none=>true
def planOk (ops:Array Oper) (plan:List (Nat × List Nat)):Bool :=
 edgesBack ops && planGo ops (ancGo ops.toList []) plan [] && (List.range ops.size).all fun i=>memN i (plan.map (·.1))
structure Ent where
 i:Nat
 o:Oper
 l:Leaf
 f:Nat
 used:List Nat
 hd:Bool
def guardB (ops:Array Oper) (o:Oper) (s:St) (b:Bool):Prop:=match o.guard with
 | none=>b = true
 | some (j,want)=>∃ t,(ops[j]?).bind (·.dst) = some t∧((∃ q,(s.look t = .c (.bool q)∨s.look t = .c (.sym q))∧b = (q == want))∨(s.look t = .c .sk∧b = false))
theorem guardG_split {ops:Array Oper} {o:Oper} {s:St} {go skip:VC} (h:(guardG ops o s go skip).holds):(guardB ops o s true∧go.holds)∨(guardB ops o s false∧skip.holds):=by
 unfold guardG at h
 unfold guardB
 cases hg:o.guard with
 | none=>rw [hg] at h; exact .inl ⟨rfl,h⟩
 | some p =>
   obtain ⟨j,want⟩:=p
   rw [hg] at h
   simp only at h ⊢
   split at h
   ·rename_i t ht
    split at h
    ·rename_i e
     cases want
     ·exact .inr ⟨⟨t,ht,.inl ⟨true,.inl e,rfl⟩⟩,h⟩
     ·exact .inl ⟨⟨t,ht,.inl ⟨true,.inl e,rfl⟩⟩,h⟩
    ·rename_i e
     cases want
     ·exact .inl ⟨⟨t,ht,.inl ⟨false,.inl e,rfl⟩⟩,h⟩
     ·exact .inr ⟨⟨t,ht,.inl ⟨false,.inl e,rfl⟩⟩,h⟩
    ·rename_i b e
     cases want <;> cases b
     ·exact .inl ⟨⟨t,ht,.inl ⟨false,.inr e,rfl⟩⟩,h.2 rfl⟩
     ·exact .inr ⟨⟨t,ht,.inl ⟨true,.inr e,rfl⟩⟩,h.1 rfl⟩
     ·exact .inr ⟨⟨t,ht,.inl ⟨false,.inr e,rfl⟩⟩,h.2 rfl⟩
     ·exact .inl ⟨⟨t,ht,.inl ⟨true,.inr e,rfl⟩⟩,h.1 rfl⟩
    ·rename_i e
     exact .inr ⟨⟨t,ht,.inr ⟨e,trivial⟩⟩,h⟩
    ·exact h.elim
   ·exact h.elim
theorem guardB_wanted {φ:Phi} {s:St} {a:Act} {w:World} (hr:Rel B φ s a w) {ops:Array Oper} {o:Oper} {b:Bool} (h:guardB ops o s b):Region.wanted o (yielded ops a.tmps) = b:=by
 unfold guardB at h
 unfold Region.wanted
 cases hg:o.guard with
 | none=>rw [hg] at h; exact h.symm
 | some p =>
   obtain ⟨j,want⟩:=p
   rw [hg] at h
   obtain ⟨t,ht,h⟩:=h
   have hy:=yielded_of (ops:=ops) (a:=a) ht
   have hl:Vrel φ (okb φ s.hp) w (s.look t) (a.tmps.getD t undef):=Xm hr (.tmp t)
   simp only
   rcases h with ⟨q,h1,rfl⟩ | ⟨h1,rfl⟩
   ·have:a.tmps.getD t undef = .bool q:=by
     rcases h1 with h1 | h1 <;> rw [h1] at hl <;> exact hl
    rw [hy.1 q this]
    cases q <;> cases want <;> rfl
   ·rw [h1] at hl
    rw [hy.2 hl]
    cases want <;> rfl
def Yld (L:Lv) (E:Ev) (spc:Spc) (o:Oper) (used:List Nat) (s:St) (l:Leaf):Prop :=
 (∃ f as ts g caps x,o.op = .call { callee:=.value f,args:=as,argTypes:=ts }∧s.ev f = .c (.fn g caps)∧spc g = some x∧FRl (x.fr L (hR used s.hp) s.nx (as.toList.map s.ev ++ caps.map fun id=>.c (.ptr id 0))) l) ∨
 FRl (opFR L E (hR used s.hp) s.nx s.ev o.op) l
theorem stepD_yld {L:Lv} {E:Ev} {spc:Spc} {o:Oper} {used:List Nat} {s:St} {k:St→List Nat→Bool→VC} (h:(stepD L E spc o used s k).holds) :
  ∃ l,Yld L E spc o used s l∧(k (l.st s o.dst) (l.ids s.nx) l.nw.isSome).holds:=by
 unfold stepD at h
 split at h
 ·rename_i f as ts ho
  split at h
  ·rename_i g caps hf
   split at h
   ·rename_i x hx
    obtain ⟨l,h1,h2⟩:=XI _ h
    exact ⟨l,.inl ⟨f,as,ts,g,caps,x,ho,hf,hx,h1⟩,h2⟩
   ·exact h.elim
  ·exact h.elim
 ·obtain ⟨l,h1,h2⟩:=XI _ h
  exact ⟨l,.inr h1,h2⟩
def PairOk (ops:Array Oper) (anc:List Nat) (e e':Ent):Prop:=(anc.getD e.i 0).testBit e'.i = true ∨
 (Oper.apart ops e.o e'.o = true∧(∀ id,memN id e.used = true→e'.l.tch e'.f id = none)∧(∀ id,memN id e'.used = true→e.l.tch e.f id = none)∧(∀ id,e.l.tch e.f id = none∨e'.l.tch e'.f id = none) ∧
  (e.l.nw.isSome = true→e'.l.nw.isSome = true→isAlloc e'.o.op = true∨e'.hd = true))
def Tr (L:Lv) (E:Ev) (spc:Spc) (ops:Array Oper) (anc:List Nat) (s0:St):List Ent→St→Prop
 | [],s=>s = s0
 | e :: es,s=>∃ s1,Tr L E spc ops anc s0 es s1∧ops[e.i]? = some e.o∧e.f = s1.nx∧(∀ e' ∈ es,e'.i ≠ e.i∧PairOk ops anc e e') ∧
     ((guardB ops e.o s1 true∧Yld L E spc e.o e.used s1 e.l)∨(guardB ops e.o s1 false∧e.l = ⟨.c .sk,none,[],none⟩))∧(e.hd = true→hdB s1 e.o e.used (e.l.ids e.f) = true)∧s = e.l.st s1 e.o.dst
theorem disjN_ok {a b:List Nat} (h:disjN a b = true):∀ x,x ∈ a→x ∉ b:=fun x hx hb=>by
 unfold disjN at h
 rw [List.all_eq_true] at h
 have:=h x hx
 rw [(Ys x b).2 hb] at this
 cases this
def RM (r:Rec) (e:Ent):Prop:=r.i = e.i∧r.used = e.used∧r.tch = e.l.ids e.f∧r.nw = e.l.nw.isSome∧(r.al = true→isAlloc e.o.op = true)∧r.hd = e.hd
theorem okRecs_ok {un used tch:List Nat} {nw:Bool}:∀ (recs:List Rec) (es:List Ent),L2 RM recs es→okRecs un used tch nw recs = true→∀ e' ∈ es,memN e'.i un = true →
  (∀ id,id ∈ used→e'.l.tch e'.f id = none)∧(∀ id,id ∈ tch→id ∉ e'.used)∧(∀ id,id ∈ tch→e'.l.tch e'.f id = none)∧(nw = true→e'.l.nw.isSome = true→isAlloc e'.o.op = true∨e'.hd = true)
 | [],[],_,_,e',h,_=>by cases h
 | r :: recs,e :: es,hl,hk,e',hm,hu=>by
   unfold okRecs at hk
   split at hk
   ·rename_i hr
    rcases List.mem_cons.1 hm with rfl | hm
    ·obtain ⟨h1,h2,h3,h4,h5,h6⟩:=hl.1
     unfold okRec at hr
     rw [h1,hu] at hr
     simp only [Bool.and_eq_true] at hr
     obtain ⟨⟨⟨q1,q2⟩,q3⟩,q4⟩:=hr
     refine ⟨fun id hid=>e'.l.tch_none _ _ (by rw [← h3]; exact disjN_ok q1 id hid),fun id hid=>by rw [← h2]; exact disjN_ok q2 id hid,fun id hid=>e'.l.tch_none _ _ (by rw [← h3]; exact disjN_ok q3 id hid),fun hn hn'=>?_⟩
     rw [hn,h4,hn'] at q4
     rcases (by simpa using q4:r.al = true∨r.hd = true) with q | q
     ·exact .inl (h5 q)
     ·exact .inr (by rw [← h6]; exact q)
    ·exact okRecs_ok recs es hl.2 hk e' hm hu
   ·cases hk
 | [],_ :: _,hl,_,_,_,_ | _ :: _,[],hl,_,_,_,_=>hl.elim
theorem drawGo_tr {E:Ev} {spc:Spc} {ops:Array Oper} {anc:List Nat} {s0:St} {k:St→VC}:∀ (plan:List (Nat × List Nat)) (prev:List Nat) (recs:List Rec) (es:List Ent) (s:St),
  planGo ops anc plan prev = true→prev = es.map (·.i)→L2 RM recs es→(drawGo Lv.std E spc ops plan recs s k).holds→Tr Lv.std E spc ops anc s0 es s →
  ∃ es' s',Tr Lv.std E spc ops anc s0 es' s'∧(k s').holds∧∀ i,(memN i (plan.map (·.1)) = true∨(∃ e ∈ es,e.i = i))↔∃ e ∈ es',e.i = i
 | [],prev,recs,es,s,hp,hprev,hrm,h,ht=>⟨es,s,ht,h,fun i=>⟨fun hi=>hi.resolve_left (by simp [memN]),.inr⟩⟩
 | (i,un) :: rest,prev,recs,es,s,hp,hprev,hrm,h,ht=>by
   unfold drawGo at h
   unfold planGo at hp
   simp only [Bool.and_eq_true,Bool.not_eq_true',List.all_eq_true,Bool.or_eq_true] at hp
   obtain ⟨⟨hp1,hp2⟩,hp3⟩:=hp
   split at h
   ·exact h.elim
   ·rename_i o ho
    have hpair:∀ e' ∈ es,e'.i ≠ i∧((anc.getD i 0).testBit e'.i = true∨(memN e'.i un = true∧Oper.apart ops o e'.o = true∨ops[e'.i]? ≠ some e'.o)):=fun e' he'=>by
     have hin:e'.i ∈ prev:=by rw [hprev]; exact List.mem_map.2 ⟨e',he',rfl⟩
     refine ⟨fun e=>?_,?_⟩
     ·rw [← e,(Ys _ _).2 hin] at hp1; cases hp1
     ·rcases hp2 _ hin with h1 | h1
      ·exact .inl h1
      ·by_cases hx:ops[e'.i]? = some e'.o
       ·refine .inr (.inl ⟨h1.1,?_⟩)
        have:=h1.2
        unfold apartI at this
        rw [ho,hx] at this
        exact this
       ·exact .inr (.inr hx)
    have hops:∀ (es:List Ent) (s:St),Tr Lv.std E spc ops anc s0 es s→∀ e ∈ es,ops[e.i]? = some e.o:=by
     intro es
     induction es with
     | nil=>intro s _ e he; cases he
     | cons e es ih =>
       intro s hs e' he'
       obtain ⟨s1,h1,h2,_⟩:=hs
       rcases List.mem_cons.1 he' with rfl | he'
       ·exact h2
       ·exact ih s1 h1 e' he'
    have fin:∀ (e:Ent) (r:Rec) (s':St),e.i = i→RM r e→Tr Lv.std E spc ops anc s0 (e :: es) s'→(drawGo Lv.std E spc ops rest (r :: recs) s' k).holds →
      ∃ es' s',Tr Lv.std E spc ops anc s0 es' s'∧(k s').holds∧∀ i',(memN i' (((i,un) :: rest).map (·.1)) = true∨(∃ e ∈ es,e.i = i'))↔∃ e ∈ es',e.i = i':=by
     intro e r s' hei hr ht' hd
     obtain ⟨es',s'',q1,q2,q3⟩:=drawGo_tr rest (i :: prev) (r :: recs) (e :: es) s' hp3 (by simp [hprev,hei]) ⟨hr,hrm⟩ hd ht'
     refine ⟨es',s'',q1,q2,fun i'=>⟨fun hi'=>(q3 i').1 ?_,fun hi'=>?_⟩⟩
     ·rcases hi' with hi' | ⟨e',he',hi'⟩
      ·rw [Ys] at hi'
       simp only [List.map_cons,List.mem_cons] at hi'
       rcases hi' with rfl | hi'
       ·exact .inr ⟨e,by simp,hei⟩
       ·exact .inl ((Ys _ _).2 hi')
      ·exact .inr ⟨e',by simp [he'],hi'⟩
     ·rcases (q3 i').2 hi' with hi' | ⟨e',he',hi'⟩
      ·refine .inl ((Ys _ _).2 ?_)
       simp only [List.map_cons,List.mem_cons]
       exact .inr ((Ys _ _).1 hi')
      ·rcases List.mem_cons.1 he' with rfl | he'
       ·refine .inl ((Ys _ _).2 ?_)
        simp only [List.map_cons,List.mem_cons]
        exact .inl (hi'.symm.trans hei)
       ·exact .inr ⟨e',he',hi'⟩
    rcases guardG_split h with ⟨hg,h⟩ | ⟨hg,h⟩
    ·obtain ⟨l,hy,h2⟩:=stepD_yld h
     split at h2
     ·rename_i hok
      have hrec:=okRecs_ok recs es hrm hok
      refine fin ⟨i,o,l,s.nx,usedOf s o,hdB s o (usedOf s o) (l.ids s.nx)⟩ ⟨i,usedOf s o,l.ids s.nx,l.nw.isSome,isAlloc o.op,hdB s o (usedOf s o) (l.ids s.nx)⟩ _ rfl ⟨rfl,rfl,rfl,rfl,fun h=>h,rfl⟩ ⟨s,ht,ho,rfl,fun e' he'=>?_,.inl ⟨hg,hy⟩,fun h=>h,rfl⟩ h2
      obtain ⟨q1,q2⟩:=hpair e' he'
      refine ⟨q1,?_⟩
      rcases q2 with q2 | q2 | q2
      ·exact .inl q2
      ·obtain ⟨r1,r2,r3,r4⟩:=hrec e' he' q2.1
       refine .inr ⟨q2.2,fun id hid=>r1 id ((Ys _ _).1 hid),fun id hid=>l.tch_none _ _ (fun hc=>r2 id hc ((Ys _ _).1 hid)),fun id=>?_,r4⟩
       by_cases hc:id ∈ l.ids s.nx
       ·exact .inr (r3 id hc)
       ·exact .inl (l.tch_none _ _ hc)
      ·exact absurd (hops es s ht e' he') q2
     ·exact h2.elim
    ·refine fin ⟨i,o,⟨.c .sk,none,[],none⟩,s.nx,[],false⟩ ⟨i,[],[],false,false,false⟩ _ rfl ⟨rfl,rfl,rfl,rfl,fun h=>(by cases h),rfl⟩ ⟨s,ht,ho,rfl,fun e' he'=>?_,.inr ⟨hg,rfl⟩,fun h=>(by cases h),rfl⟩ h
     obtain ⟨q1,q2⟩:=hpair e' he'
     refine ⟨q1,?_⟩
     rcases q2 with q2 | q2 | q2
     ·exact .inl q2
     ·refine .inr ⟨q2.2,fun id hid=>(by cases hid),fun id hid=>(by simp [Leaf.tch]),fun id=>.inl (by simp [Leaf.tch]),fun hn=>by cases hn⟩
     ·exact absurd (hops es s ht e' he') q2
def Closed (ops:Array Oper) (S:Nat→Bool):Prop:=∀ j o,ops[j]? = some o→S j = true→∀ e ∈ o.after,Region.binds .any e = true→S e.on = true
theorem mask_ok (acc:List Nat) (i:Nat):∀ (l:List Edge) (s:Nat),(l.foldl (fun s e=>if Region.binds .any e then s ||| 2 ^ e.on ||| acc.getD e.on 0 else s) s).testBit i = true →
  s.testBit i = true∨∃ e ∈ l,Region.binds .any e = true∧(e.on = i∨(acc.getD e.on 0).testBit i = true)
 | [],s,h=>.inl h
 | e :: l,s,h=>by
   simp only [List.foldl_cons] at h
   rcases mask_ok acc i l _ h with h1 | ⟨e',he',h1⟩
   ·split at h1
    ·rename_i hb
     simp only [Nat.testBit_or,Bool.or_eq_true,Nat.testBit_two_pow,decide_eq_true_eq] at h1
     rcases h1 with (h1 | h1) | h1
     ·exact .inl h1
     ·exact .inr ⟨e,by simp,hb,.inl h1⟩
     ·exact .inr ⟨e,by simp,hb,.inr h1⟩
    ·exact .inl h1
   ·exact .inr ⟨e',by simp [he'],h1⟩
theorem anc_go {ops:Array Oper} {S:Nat→Bool} (hc:Closed ops S):∀ (os:List Oper) (acc pre:List Oper) (m:List Nat),ops.toList = pre ++ os→m.length = pre.length →
  (∀ j o,ops[j]? = some o→j < m.length→(∀ e ∈ o.after,Region.binds .any e = true→S e.on = true)→∀ i,(m.getD j 0).testBit i = true→S i = true) →
  ∀ j o,ops[j]? = some o→(∀ e ∈ o.after,Region.binds .any e = true→S e.on = true)→∀ i,((ancGo os m).getD j 0).testBit i = true→S i = true
 | [],acc,pre,m,hp,hl,hm,j,o,hj,he,i,hi=>by
   simp only [ancGo] at hi
   refine hm j o hj ?_ he i hi
   have hlt:=(Array.getElem?_eq_some_iff.1 hj).1
   have:ops.toList.length = pre.length:=by rw [hp]; simp
   simp at this
   omega
 | o' :: os,acc,pre,m,hp,hl,hm,j,o,hj,he,i,hi=>by
   simp only [ancGo] at hi
   refine anc_go hc os acc (pre ++ [o']) (m ++ [maskOf m o'.after.toList]) (by rw [hp]; simp) (by simp [hl]) ?_ j o hj he i hi
   intro j o hj hlt he i hi
   simp only [List.length_append,List.length_cons,List.length_nil] at hlt
   by_cases hjm:j < m.length
   ·rw [List.getD_eq_getElem?_getD,List.getElem?_append_left hjm,← List.getD_eq_getElem?_getD] at hi
    exact hm j o hj hjm he i hi
   ·have hje:j = m.length:=by omega
    subst hje
    rw [List.getD_eq_getElem?_getD,List.getElem?_append_right (by omega)] at hi
    simp only [Nat.sub_self,List.getElem?_cons_zero,Option.getD_some] at hi
    have ho:o = o':=by
     have h1:ops.toList[m.length]? = some o:=by simpa using hj
     rw [hp,hl,List.getElem?_append_right (by omega)] at h1
     simpa using h1.symm
    subst ho
    unfold maskOf at hi
    rcases mask_ok m i _ 0 hi with h1 | ⟨e,he',hb,h1⟩
    ·simp at h1
    ·have hS:=he e (by simpa using he') hb
     rcases h1 with rfl | h1
     ·exact hS
     ·have hk:e.on < m.length:=by
       rcases Nat.lt_or_ge e.on m.length with h2 | h2
       ·exact h2
       ·rw [List.getD_eq_getElem?_getD,List.getElem?_eq_none (by omega)] at h1
        simp at h1
      have hsz:m.length < ops.size:=(Array.getElem?_eq_some_iff.1 hj).1
      have hon:ops[e.on]? = some (ops[e.on]'(by omega)):=Array.getElem?_eq_getElem (by omega)
      exact hm e.on _ hon hk (hc e.on _ hon hS) i h1
theorem anc_ok {ops:Array Oper} {S:Nat→Bool} (hc:Closed ops S) (j:Nat) (o:Oper) (hj:ops[j]? = some o) (he:∀ e ∈ o.after,Region.binds .any e = true→S e.on = true) (i:Nat)
  (hi:((ancGo ops.toList []).getD j 0).testBit i = true):S i = true :=
 anc_go hc ops.toList [] [] [] (by simp) rfl (fun j o _ h=>absurd h (by simp)) j o hj he i hi
end Go.VM
namespace Go.VM
open Go Go.Lib
variable {B:Nat × Bool}
def swS (s0:St) (S:Nat→Bool):List Ent→Nat→Option V
 | [],t=>lookA s0.sl t
 | e :: es,t=>if S e.i = true∧e.o.dst = some t∧t < s0.n then some e.l.x else swS s0 S es t
def hwS (s0:St) (S:Nat→Bool):List Ent→Nat→Option Ob
 | [],id=>lookA s0.hp id
 | e :: es,id=>if S e.i = true then (match e.l.tch e.f id with | some r=>r | none=>hwS s0 S es id) else hwS s0 S es id
theorem look_put (s:St) (dst:Option Nat) (x:V) (t:Nat):lookA (s.put dst x).sl t = if dst = some t∧t < s.n then some x else lookA s.sl t:=by
 cases dst with
 | none=>simp [St.put]
 | some d =>
   unfold St.put
   simp only
   split
   ·rename_i hd
    have hd':d < s.n:=Nat.le_of_ble_eq_true hd
    simp only [Xa,Option.some.injEq]
    by_cases h:t = d
    ·subst h; simp [hd']
    ·have h':¬ d = t:=fun e=>h e.symm
     simp [h,h']
   ·rename_i hd
    have hd':¬ d < s.n:=fun h=>hd (Nat.ble_eq_true_of_le h)
    rw [if_neg]
    rintro ⟨h1,h2⟩
    cases h1; exact hd' h2
theorem put_hp (s:St) (dst:Option Nat) (x:V):(s.put dst x).hp = s.hp∧(s.put dst x).n = s.n∧(s.put dst x).nx = s.nx:=by
 cases dst with
 | none=>exact ⟨rfl,rfl,rfl⟩
 | some d=>unfold St.put; simp only; split <;> exact ⟨rfl,rfl,rfl⟩
theorem sw_congr {s0:St} {S S':Nat→Bool} {t:Nat}:∀ es:List Ent,(∀ e ∈ es,e.o.dst = some t→t < s0.n→S e.i = S' e.i)→swS s0 S es t = swS s0 S' es t
 | [],_=>rfl
 | e :: es,h=>by
   simp only [swS]
   rw [sw_congr es (fun e' he'=>h e' (by simp [he']))]
   by_cases hd:e.o.dst = some t∧t < s0.n
   ·rw [h e (by simp) hd.1 hd.2]
   ·have h1:¬ (S e.i = true∧e.o.dst = some t∧t < s0.n):=fun hh=>hd hh.2
    have h2:¬ (S' e.i = true∧e.o.dst = some t∧t < s0.n):=fun hh=>hd hh.2
    rw [if_neg h1,if_neg h2]
theorem sw_skip {s0:St} {S:Nat→Bool} {t:Nat} {r:List Ent}:∀ es:List Ent,(∀ e ∈ es,S e.i = true→e.o.dst ≠ some t)→swS s0 S (es ++ r) t = swS s0 S r t
 | [],_=>rfl
 | e :: es,h=>by
   simp only [List.cons_append,swS]
   rw [if_neg (fun hh=>h e (by simp) hh.1 hh.2.1)]
   exact sw_skip es (fun e' he'=>h e' (by simp [he']))
theorem hw_congr {s0:St} {S S':Nat→Bool} {id:Nat}:∀ es:List Ent,(∀ e ∈ es,e.l.tch e.f id ≠ none→S e.i = S' e.i)→hwS s0 S es id = hwS s0 S' es id
 | [],_=>rfl
 | e :: es,h=>by
   simp only [hwS]
   rw [hw_congr es (fun e' he'=>h e' (by simp [he']))]
   cases ht:e.l.tch e.f id with
   | none=>simp
   | some r=>rw [h e (by simp) (by rw [ht]; simp)]
theorem hw_skip {s0:St} {S:Nat→Bool} {id:Nat} {r:List Ent}:∀ es:List Ent,(∀ e ∈ es,S e.i = true→e.l.tch e.f id = none)→hwS s0 S (es ++ r) id = hwS s0 S r id
 | [],_=>rfl
 | e :: es,h=>by
   simp only [List.cons_append,hwS]
   rw [hw_skip es (fun e' he'=>h e' (by simp [he']))]
   by_cases hS:S e.i = true
   ·rw [if_pos hS,h e (by simp) hS]
   ·rw [if_neg hS]
section
variable {P:Program} {E:Ev} {spc:Spc} {ops:Array Oper} {anc:List Nat} {s0:St}
theorem Tr.look:∀ (es:List Ent) (s:St),Tr Lv.std E spc ops anc s0 es s→s.n = s0.n∧s0.nx≤s.nx∧(∀ t,lookA s.sl t = swS s0 (fun _=>true) es t)∧(∀ id,lookA s.hp id = hwS s0 (fun _=>true) es id) ∧
  ∀ e ∈ es,s0.nx≤e.f∧e.f≤s.nx∧(e.l.nw.isSome = true→e.f < s.nx)
 | [],s,h=>by cases h; exact ⟨rfl,Nat.le_refl _,fun _=>rfl,fun _=>rfl,fun e he=>by cases he⟩
 | e :: es,s,h=>by
   obtain ⟨s1,h1,h2,h3,h4,h5,h6,rfl⟩:=h
   obtain ⟨q1,q2,q3,q4,q5⟩:=Tr.look es s1 h1
   unfold Leaf.st
   obtain ⟨p1,p2,p3⟩:=put_hp { s1 with hp:=e.l.hp s1.nx s1.hp,nx:=e.l.nx s1.nx } e.o.dst e.l.x
   have hnx:s1.nx≤e.l.nx s1.nx∧(e.l.nw.isSome = true→s1.nx < e.l.nx s1.nx):=by
    unfold Leaf.nx
    cases e.l.nw <;> simp
   refine ⟨by rw [p2]; exact q1,by rw [p3]; exact Nat.le_trans q2 hnx.1,fun t=>?_,fun id=>?_,fun e' he'=>?_⟩
   ·rw [look_put]
    simp only [swS,true_and]
    show (if e.o.dst = some t∧t < s1.n then _ else lookA s1.sl t) = _
    rw [q1,q3]
   ·rw [p1]
    show lookA (e.l.hp s1.nx s1.hp) id = _
    rw [Leaf.look_hp]
    simp only [hwS,if_true,h3,q4]
    all_goals (cases e.l.tch s1.nx id <;> rfl)
   ·rw [p3]
    rcases List.mem_cons.1 he' with rfl | he'
    ·rw [h3]; exact ⟨q2,hnx.1,hnx.2⟩
    ·obtain ⟨r1,r2,r3⟩:=q5 e' he'
     exact ⟨r1,Nat.le_trans r2 hnx.1,fun hn=>Nat.lt_of_lt_of_le (r3 hn) hnx.1⟩
theorem Tr.split:∀ (tr:List Ent) (s:St),Tr Lv.std E spc ops anc s0 tr s→∀ e ∈ tr,∃ es2 es1 s1,tr = es2 ++ e :: es1∧Tr Lv.std E spc ops anc s0 es1 s1∧ops[e.i]? = some e.o∧e.f = s1.nx ∧
  (∀ e' ∈ es1,e'.i ≠ e.i∧PairOk ops anc e e')∧((guardB ops e.o s1 true∧Yld Lv.std E spc e.o e.used s1 e.l)∨(guardB ops e.o s1 false∧e.l = ⟨.c .sk,none,[],none⟩)) ∧
  (∀ e2 ∈ es2,e.i ≠ e2.i∧PairOk ops anc e2 e∧ops[e2.i]? = some e2.o)∧e.l.nx e.f≤s.nx∧(∀ e2 ∈ es2,e.l.nx e.f≤e2.f)∧(e.hd = true→hdB s1 e.o e.used (e.l.ids e.f) = true)
 | [],s,h,e,he=>by cases he
 | x :: tr,s,h,e,he=>by
   obtain ⟨s1,h1,h2,h3,h4,h5,h6,rfl⟩:=h
   have hs:(x.l.st s1 x.o.dst).nx = x.l.nx s1.nx:=(put_hp _ _ _).2.2
   rcases List.mem_cons.1 he with rfl | he
   ·exact ⟨[],tr,s1,rfl,h1,h2,h3,h4,h5,fun _ h=>(by cases h),by rw [hs,h3]; exact Nat.le_refl _,fun _ h=>(by cases h),h6⟩
   ·obtain ⟨es2,es1,s2,rfl,q1,q2,q3,q4,q5,q6,q7,q8,q9⟩:=Tr.split tr s1 h1 e he
    refine ⟨x :: es2,es1,s2,rfl,q1,q2,q3,q4,q5,fun e2 he2=>?_,?_,fun e2 he2=>?_,q9⟩
    ·rcases List.mem_cons.1 he2 with rfl | he2
     ·exact ⟨(h4 e (by simp)).1,(h4 e (by simp)).2,h2⟩
     ·exact q6 e2 he2
    ·rw [hs]
     refine Nat.le_trans q7 ?_
     unfold Leaf.nx
     cases x.l.nw <;> simp
    ·rcases List.mem_cons.1 he2 with rfl | he2
     ·rw [h3]; exact q7
     ·exact q8 e2 he2
def Inv (B:Nat × Bool) (P:Program) (s0:St) (φ0:Phi) (w0:World) (tr:List Ent) (N:Nat) (S:Nat→Bool) (a:Act) (w:World):Prop:=∃ φ sS,
 sS.n = s0.n∧sS.nx = N∧(∀ t,lookA sS.sl t = swS s0 S tr t)∧(∀ id,lookA sS.hp id = hwS s0 S tr id)∧Rel B φ sS a w∧Evo φ0 s0.hp w0 φ sS.hp w ∧
 ∀ id,φ id ≠ none→id < s0.nx∨∃ e ∈ tr,S e.i = true∧e.l.nw.isSome = true∧e.f = id
variable {φ0:Phi} {w0:World} {tr es2 es1:List Ent} {e:Ent} {N:Nat} {S S':Nat→Bool}
theorem inv_after (hN:e.l.nx e.f≤N) (htr:tr = es2 ++ e :: es1) (hc:Closed ops S) (hanc:anc = ancGo ops.toList []) (hn:S e.i = false) (h2:∀ e2 ∈ es2,e.i ≠ e2.i∧PairOk ops anc e2 e∧ops[e2.i]? = some e2.o) (h1:∀ e' ∈ es1,e'.i ≠ e.i∧PairOk ops anc e e')
  (hS':∀ j,S' j = (S j || j == e.i)) {φ:Phi} {sS:St} {a:Act} {w w':World} {v:Value} (r1:sS.n = s0.n) (r3:∀ t,lookA sS.sl t = swS s0 S tr t) (r4:∀ id,lookA sS.hp id = hwS s0 S tr id) (r5:Rel B φ sS a w)
  (r6:Evo φ0 s0.hp w0 φ sS.hp w) (r7:∀ id,φ id ≠ none→id < s0.nx∨∃ e ∈ tr,S e.i = true∧e.l.nw.isSome = true∧e.f = id) (hl:LeafOk φ sS.hp w e.f N e.l v w'):Inv B P s0 φ0 w0 tr N S' (a.put e.o.dst v) w':=by
 obtain ⟨φ',hp',l1,l2,l3,l4,l5⟩:=hl
 obtain ⟨p1,p2,p3⟩:=r5.put hp' N l2 l3 e.o.dst e.l.x v l4
 have hSe:S' e.i = true:=by rw [hS']; simp
 have hSo:∀ e':Ent,e'.i ≠ e.i→S' e'.i = S e'.i:=fun e' h=>by
  rw [hS']
  have:(e'.i == e.i) = false:=by simpa using h
  rw [this,Bool.or_false]
 have hap:∀ e2 ∈ es2,S e2.i = true→Oper.apart ops e2.o e.o = true∧(∀ id,e2.l.tch e2.f id = none∨e.l.tch e.f id = none):=fun e2 he2 hs2=>by
  obtain ⟨_,q2,q3⟩:=h2 e2 he2
  rcases q2 with q2 | q2
  ·rw [hanc] at q2
   have:=anc_ok hc e2.i e2.o q3 (hc e2.i e2.o q3 hs2) e.i q2
   rw [hn] at this; cases this
  ·exact ⟨q2.1,q2.2.2.2.1⟩
 refine ⟨φ',_,by rw [p3]; exact r1,(put_hp _ _ _).2.2,fun t=>?_,fun id=>?_,p1,by rw [p2]; exact r6.trans l3,fun id hid=>?_⟩
 ·rw [look_put]
  show (if e.o.dst = some t∧t < sS.n then some e.l.x else lookA sS.sl t) = _
  rw [r1,r3,htr]
  by_cases hd:e.o.dst = some t∧t < s0.n
  ·rw [if_pos hd,sw_skip es2]
   ·simp only [swS]
    rw [if_pos ⟨hSe,hd.1,hd.2⟩]
   ·intro e2 he2 hs2 hdst
    rw [hSo e2 (Ne.symm (h2 e2 he2).1)] at hs2
    obtain ⟨_,q,_⟩:=Oper.apart_spec (hap e2 he2 hs2).1
    exact q t hdst hd.1
  ·rw [if_neg hd]
   refine sw_congr _ fun e' he' hdst hlt=>?_
   by_cases hee:e'.i = e.i
   ·exfalso
    rcases List.mem_append.1 he' with hm | hm
    ·exact (h2 e' hm).1 hee.symm
    ·rcases List.mem_cons.1 hm with rfl | hm
     ·exact hd ⟨hdst,hlt⟩
     ·exact (h1 e' hm).1 hee
   ·exact (hSo e' hee).symm
 ·rw [p2,l1,Leaf.look_hp,r4,htr]
  cases ht:e.l.tch e.f id with
  | some r =>
    simp only
    rw [hw_skip es2]
    ·simp only [hwS,if_pos hSe,ht]
    ·intro e2 he2 hs2
     rw [hSo e2 (Ne.symm (h2 e2 he2).1)] at hs2
     rcases (hap e2 he2 hs2).2 id with q | q
     ·exact q
     ·rw [ht] at q; cases q
  | none =>
    simp only
    refine hw_congr _ fun e' he' hne=>?_
    by_cases hee:e'.i = e.i
    ·exfalso
     rcases List.mem_append.1 he' with hm | hm
     ·exact (h2 e' hm).1 hee.symm
     ·rcases List.mem_cons.1 hm with rfl | hm
      ·exact hne ht
      ·exact (h1 e' hm).1 hee
    ·exact (hSo e' hee).symm
 ·rcases l5 id hid with q | ⟨q1,q2⟩
  ·rcases r7 id q with q | ⟨e',m1,m2,m3,m4⟩
   ·exact .inl q
   ·exact .inr ⟨e',m1,by rw [hS',m2]; rfl,m3,m4⟩
  ·exact .inr ⟨e,by rw [htr]; simp,hSe,q1,q2.symm⟩
theorem LeafOk.num {φ:Phi} {hp:Hp} {w w':World} {f f' nx:Nat} {l:Leaf} {v:Value} (hn:l.nw = none) (h:LeafOk φ hp w f nx l v w'):LeafOk φ hp w f' nx l v w':=by
 obtain ⟨φ',hp',h1,h2,h3,h4,h5⟩:=h
 refine ⟨φ',hp',fun id=>?_,h2,h3,h4,fun id hid=>(h5 id hid).imp_right fun h=>?_⟩
 ·rw [h1]
  unfold Leaf.hp
  rw [hn]
 ·rw [hn] at h; cases h.1
theorem LeafOk.le {φ:Phi} {hp:Hp} {w w':World} {f nx nx':Nat} {l:Leaf} {v:Value} (hl:nx≤nx') (h:LeafOk φ hp w f nx l v w'):LeafOk φ hp w f nx' l v w':=by
 obtain ⟨φ',hp',h1,h2,h3,h4,h5⟩:=h
 exact ⟨φ',hp',h1,h2.le hl,h3,h4,h5⟩
theorem alloc_of {op:Op} (h:isAlloc op = true):∃ t,op = .alloc t:=by
 cases op <;> simp [isAlloc] at h
 exact ⟨_,rfl⟩
theorem inv_step {F:Fence} {m:Nat} (hF:FOk F) (hE:∀ t i,E t = some i→TIok P t i) (hspc:∀ g x,spc g = some x→XOk P g x) (hanc:anc = ancGo ops.toList []) {sE:St} (ht:Tr Lv.std E spc ops anc s0 tr sE) (hc:Closed ops S) (he:e ∈ tr) (hn:S e.i = false)
  (hed:∀ x ∈ e.o.after,Region.binds .any x = true→S x.on = true) {a:Act} {w:World} (hi:Inv B P s0 φ0 w0 tr sE.nx S a w) (hS':∀ j,S' j = (S j || j == e.i)) {K:Act→World→Prop} {Q:Exit→Act→World→Prop}
  (hK:∀ a' w',Inv B P s0 φ0 w0 tr sE.nx S' a' w'→K a' w'):wpOpIn F m P ops Q e.i K a w:=by
 obtain ⟨es2,es1,s1,htr,t1,t2,t3,t4,t5,t6,t7,t8,t9⟩:=Tr.split tr sE ht e he
 obtain ⟨φ,sS,r1,r2,r3,r4,r5,r6,r7⟩:=hi
 obtain ⟨c1,c2,c3,c4,c5⟩:=Tr.look es1 s1 t1
 have hA:∀ e' ∈ es1,S e'.i = false→Oper.apart ops e.o e'.o = true∧(∀ id,memN id e.used = true→e'.l.tch e'.f id = none):=fun e' he' hs=>by
  rcases (t4 e' he').2 with q | q
  ·rw [hanc] at q
   have:=anc_ok hc e.i e.o t2 hed e'.i q
   rw [hs] at this; cases this
  ·exact ⟨q.1,q.2.1⟩
 have hB:∀ e2 ∈ es2,S e2.i = true→Oper.apart ops e2.o e.o = true∧(∀ id,memN id e.used = true→e2.l.tch e2.f id = none)∧(e2.l.nw.isSome = true→e.l.nw.isSome = true→isAlloc e.o.op = true∨e.hd = true):=fun e2 he2 hs2=>by
  obtain ⟨_,q2,q3⟩:=t6 e2 he2
  rcases q2 with q2 | q2
  ·rw [hanc] at q2
   have:=anc_ok hc e2.i e2.o q3 (hc e2.i e2.o q3 hs2) e.i q2
   rw [hn] at this; cases this
  ·exact ⟨q2.1,q2.2.2.1,q2.2.2.2.2⟩
 have hsl:∀ t,t ∈ e.o.looksAt ops→lookA sS.sl t = lookA s1.sl t:=fun t htl=>by
  rw [r3,c3,htr,sw_skip es2]
  ·simp only [swS,hn,Bool.false_eq_true,false_and,if_false]
   refine sw_congr _ fun e' he' hdst hlt=>?_
   cases hs:S e'.i with
   | true=>rfl
   | false =>
     exfalso
     obtain ⟨_,_,q⟩:=Oper.apart_spec (hA e' he' hs).1
     exact q t hdst htl
  ·intro e2 he2 hs2 hdst
   obtain ⟨q,_,_⟩:=Oper.apart_spec (hB e2 he2 hs2).1
   exact q t hdst htl
 have hhp:∀ id,memN id e.used = true→lookA sS.hp id = lookA s1.hp id:=fun id hid=>by
  rw [r4,c4,htr,hw_skip es2 (fun e2 he2 hs2=>(hB e2 he2 hs2).2.1 id hid)]
  simp only [hwS,hn,Bool.false_eq_true,if_false]
  refine hw_congr _ fun e' he' hne=>?_
  cases hs:S e'.i with
  | true=>rfl
  | false=>exact absurd ((hA e' he' hs).2 id hid) hne
 have hev:∀ x,x ∈ e.o.op.operands.toList→sS.ev x = s1.ev x:=fun x hx=>by
  cases x with
  | tmp t =>
    show sS.look t = s1.look t
    unfold St.look
    rw [hsl t (List.mem_append_left _ (List.mem_filterMap.2 ⟨.tmp t,hx,rfl⟩))]
  | _=>rfl
 have hg:∀ b,guardB ops e.o s1 b→guardB ops e.o sS b:=fun b hb=>by
  unfold guardB at hb ⊢
  cases hgd:e.o.guard with
  | none=>rw [hgd] at hb; exact hb
  | some p =>
    obtain ⟨j,want⟩:=p
    rw [hgd] at hb
    obtain ⟨t,q1,q2⟩:=hb
    have:sS.look t = s1.look t:=by
     unfold St.look
     rw [hsl t (List.mem_append_right _ (by simp [hgd,q1]))]
    exact ⟨t,q1,by rw [this]; exact q2⟩
 have after:∀ v w',LeafOk φ sS.hp w e.f sE.nx e.l v w'→K (a.put e.o.dst v) w':=fun v w' hl =>
  hK _ _ (inv_after t7 htr hc hanc hn t6 t4 hS' r1 r3 r4 r5 r6 r7 hl)
 unfold wpOpIn
 simp only [t2]
 rcases t5 with ⟨g1,hy⟩ | ⟨g1,hl⟩
 ·rw [guardB_wanted r5 (hg _ g1),if_pos rfl]
  refine ⟨fun f _=>hF.fn f,?_⟩
  have hargs:∀ as:List Operand,(∀ x ∈ as,x ∈ e.o.op.operands.toList)→as.map sS.ev = as.map s1.ev:=fun as has=>List.map_congr_left fun x hx=>hev x (has x hx)
  have hle:HLe (hR e.used s1.hp) (lookA sS.hp):=fun id o hid=>by
   unfold hR at hid
   cases hm:memN id e.used with
   | true=>rw [hm] at hid; rw [hhp id hm]; exact hid
   | false=>rw [hm] at hid; cases hid
  have hfree:isAlloc e.o.op = false→e.hd = false→e.l.nw.isSome = true→HRel φ sS.hp e.f w:=fun hal hhd hnw=>⟨r5.h.ob,fun id hid=>by
   cases hφ:φ id with
   | none=>rfl
   | some p =>
     exfalso
     rcases r7 id (by rw [hφ]; simp) with q | ⟨e',m1,m2,m3,m4⟩
     ·have:s0.nx≤e.f:=by rw [t3]; exact c2
      omega
     ·rw [htr] at m1
      rcases List.mem_append.1 m1 with m1 | m1
      ·have:=(hB e' m1 m2).2.2 m3 hnw
       rw [hal,hhd] at this; rcases this with q | q <;> cases q
      ·rcases List.mem_cons.1 m1 with rfl | m1
       ·rw [m2] at hn; cases hn
       ·have:=(c5 e' m1).2.2 m3
        omega,r5.h.dj⟩
  have hfr0:e.l.nw.isSome = true→φ e.f = none∧e.f < sE.nx:=fun hnw=>by
   have hnx1:e.l.nx e.f = e.f + 1:=by
    unfold Leaf.nx
    cases hq:e.l.nw with
    | none=>rw [hq] at hnw; cases hnw
    | some _=>rfl
   refine ⟨?_,by omega⟩
   cases hφ:φ e.f with
   | none=>rfl
   | some p =>
     exfalso
     rcases r7 e.f (by rw [hφ]; simp) with q | ⟨e',m1,m2,m3,m4⟩
     ·have:s0.nx≤e.f:=by rw [t3]; exact c2
      omega
     ·rw [htr] at m1
      rcases List.mem_append.1 m1 with m1 | m1
      ·have:=t8 e' m1
       rw [hnx1] at this
       omega
      ·rcases List.mem_cons.1 m1 with rfl | m1
       ·rw [m2] at hn; cases hn
       ·have:=(c5 e' m1).2.2 m3
        rw [t3] at m4; omega
  have hhide:e.hd = true→e.l.nw.isSome = true→∃ φh hph,HRel φh hph e.f w∧HLe (hR e.used s1.hp) (lookA hph)∧(∀ x,x ∈ e.o.op.operands.toList→Vrel φh (okb φh hph) w (s1.ev x) (a.eval x)) ∧
    (e.l.up = none→∀ v w',LeafOk φh hph w e.f (e.l.nx e.f) e.l v w'→LeafOk φ sS.hp w e.f sE.nx e.l v w'):=fun hhd hnw=>by
   have hb:=t9 hhd
   unfold hdB at hb
   simp only [Bool.and_eq_true,List.all_eq_true,Bool.not_eq_true'] at hb
   obtain ⟨⟨⟨⟨b1,b2⟩,b3⟩,b4⟩,b5⟩:=hb
   have b1':lookA s1.hp 0 = some .amb:=by
    split at b1
    ·assumption
    ·cases b1
   obtain ⟨g1,g2⟩:=hfr0 hnw
   have hup:e.l.up = none→0 ∉ e.l.kill:=fun hu hk=>by
    unfold Leaf.ids at b3
    obtain ⟨ob,hob⟩:∃ ob,e.l.nw = some ob:=by cases h:e.l.nw with | none=>rw [h] at hnw; cases hnw | some ob=>exact ⟨ob,rfl⟩
    rw [hu,hob] at b3
    rw [(Ys 0 _).2 (List.mem_cons_of_mem _ hk)] at b3
    cases b3
   obtain ⟨φh,hph,k1,k2,k3,k4⟩:=hide e.used (N:=sE.nx) (f:=e.f) (by rw [← r2]; exact r5.h) (by rw [hhp 0 b2]; exact b1') ((Ys _ _).1 b2) (fun id hid=>by
     have:=Nat.le_of_ble_eq_true (b4 id hid).1
     rw [t3]; exact this) g1 g2 (fun id o hid ho j hj=>by
     rw [hhp id ((Ys _ _).2 hid)] at ho
     have:=(b4 id hid).2 j (by rw [ho]; exact hj)
     exact (Ys _ _).1 this)
   refine ⟨φh,hph,k1,fun id o hid=>?_,fun x hx=>?_,fun hu v w' hl=>k4 _ v w' hnw hu (hup hu) hl⟩
   ·unfold hR at hid
    cases hm:memN id e.used with
    | true=>rw [hm] at hid; rw [k2 id ((Ys _ _).1 hm),hhp id hm]; exact hid
    | false=>rw [hm] at hid; cases hid
   ·refine k3 _ _ (fun j hj=>?_) (by rw [← hev x hx]; exact Xm r5 x)
    have:∀ l:List Operand,x ∈ l→j ∈ opdIds s1 l:=fun l=>by
     induction l with
     | nil=>intro h; cases h
     | cons y l ih =>
       intro h
       simp only [opdIds,List.mem_append]
       rcases List.mem_cons.1 h with rfl | h
       ·exact .inl hj
       ·exact .inr (ih h)
    exact (Ys _ _).1 (b5 j (this _ hx))
  rcases hy with ⟨f,as,ts,g,caps,x,ho,hf,hsp,hy⟩ | hy
  ·have hf':sS.ev f = .c (.fn g caps):=by rw [hev f (by rw [ho]; simp [Op.operands,Call.operands])]; exact hf
   have has:as.toList.map sS.ev = as.toList.map s1.ev:=hargs _ fun x hx=>by rw [ho]; simp [Op.operands,Call.operands]; exact .inr (by simpa using hx)
   have hs:=hspc g x hsp
   have hy2:FRl (x.fr Lv.std (lookA sS.hp) e.f (as.toList.map sS.ev ++ caps.map fun id=>.c (.ptr id 0))) e.l:=by
    rw [has,t3]
    rcases hs.mono Lv.std _ _ s1.nx (as.toList.map s1.ev ++ caps.map fun id=>.c (.ptr id 0)) hle with q | q
    ·rw [q] at hy; exact hy.elim
    ·rw [q]; exact hy
   have hal:isAlloc e.o.op = false:=by rw [ho]; rfl
   have hv:Vrel φ (okb φ sS.hp) w (.c (.fn g caps)) (a.eval f):=by rw [← hf']; exact Xm r5 f
   obtain ⟨vs0,hv1,hv2⟩:=hv
   have hargv:L2 (Vrel φ (okb φ sS.hp) w) (as.toList.map sS.ev ++ caps.map fun id=>.c (.ptr id 0)) (as.toList.map a.eval ++ vs0):=YA (evs_ok r5 as.toList) (L2_ptrs caps vs0 hv2)
   have hcall:Calls P g (as.toList.map a.eval ++ vs0).toArray w fun en w'=>∃ v,en = .returned v∧LeafOk φ sS.hp w e.f sE.nx e.l v w':=by
    cases hnw:e.l.nw with
    | none =>
      refine (hs.run φ sS.hp sE.nx w _ _ e.l (by rw [← r2]; exact r5.h) hargv (hs.num _ _ _ _ _ _ hy2 hnw)).mono fun en w' hen=>?_
      obtain ⟨v,rfl,hlo⟩:=hen
      refine ⟨v,rfl,(hlo.num hnw).le ?_⟩
      unfold Leaf.nx; rw [hnw]; exact Nat.le_refl _
    | some ob =>
      cases hhd:e.hd with
      | false =>
        refine (hs.run φ sS.hp e.f w _ _ e.l (hfree hal hhd (by rw [hnw]; rfl)) hargv hy2).mono fun en w' hen=>?_
        obtain ⟨v,rfl,hlo⟩:=hen
        exact ⟨v,rfl,hlo.le t7⟩
      | true =>
        obtain ⟨φh,hph,k1,k2,k3,k4⟩:=hhide hhd (by rw [hnw]; rfl)
        have hy3:FRl (x.fr Lv.std (lookA hph) e.f (as.toList.map s1.ev ++ caps.map fun id=>.c (.ptr id 0))) e.l:=by
         rw [t3]
         rcases hs.mono Lv.std _ _ s1.nx (as.toList.map s1.ev ++ caps.map fun id=>.c (.ptr id 0)) k2 with q | q
         ·rw [q] at hy; exact hy.elim
         ·rw [q]; exact hy
        have hvf:=k3 f (by rw [ho]; simp [Op.operands,Call.operands])
        rw [hf] at hvf
        obtain ⟨vs1,hv3,hv4⟩:=hvf
        have hvs:vs1 = vs0:=by rw [hv1] at hv3; injection hv3 with _ _ h; simpa using h.symm
        subst hvs
        have hal2:∀ l:List Operand,(∀ x ∈ l,x ∈ e.o.op.operands.toList)→L2 (Vrel φh (okb φh hph) w) (l.map s1.ev) (l.map a.eval):=fun l=>by
         induction l with
         | nil=>intro _; trivial
         | cons y l ih=>intro h; exact ⟨k3 y (h y (by simp)),ih fun x hx=>h x (by simp [hx])⟩
        have hargv2:L2 (Vrel φh (okb φh hph) w) (as.toList.map s1.ev ++ caps.map fun id=>.c (.ptr id 0)) (as.toList.map a.eval ++ vs1) :=
         YA (hal2 as.toList fun x hx=>by rw [ho]; simp [Op.operands,Call.operands]; exact .inr (by simpa using hx)) (L2_ptrs caps vs1 hv4)
        have hup:e.l.up = none:=FRl.up_none (by rw [hnw]; rfl) _ hy3
        refine (hs.run φh hph e.f w _ _ e.l k1 hargv2 hy3).mono fun en w' hen=>?_
        obtain ⟨v,rfl,hlo⟩:=hen
        exact ⟨v,rfl,k4 hup v w' hlo⟩
   obtain ⟨fn,q1,q2,q3⟩:=hs.has
   have e1:(as.toList.map a.eval ++ vs0).toArray = as.map a.eval ++ List.toArray vs0:=by apply Array.ext'; simp
   rw [e1] at hcall
   rw [Oper.semAt_eq _ _ _ (fun c q=>by rw [ho] at q; cases q)]
   have hx:(execOp a.eval e.o).run P w = .ok (.enter g (as.map a.eval ++ List.toArray vs0)) w:=by
    unfold execOp
    simp only [ho,resolve,Sem.run_bind,hv1,Deferred.ofValue,Sem.run_pure,Result.andThen_ok,invoke,Array.empty_append,Array.append_empty]
    exact XL q1 q2 q3
   rw [hx,Oper.uponIn_enter]
   refine ⟨hF.dp,hF.calls (hcall.mono fun en w' hen=>?_)⟩
   obtain ⟨v,rfl,hlo⟩:=hen
   exact after v w' hlo
  ·have hy2:FRl (opFR Lv.std E (lookA sS.hp) e.f sS.ev e.o.op) e.l:=by
    rw [opFR_ev Lv.std E (lookA sS.hp) e.f e.o.op hev,t3]
    rcases opFR_mono Lv.std E hle s1.nx s1.ev e.o.op with q | q
    ·rw [q] at hy; exact hy.elim
    ·rw [q]; exact hy
   rw [Oper.semAt_eq _ _ _ (fun c q=>by rw [q] at hy2; exact hy2)]
   have run:∀ f nx,HRel φ sS.hp f w→FRl (opFR Lv.std E (lookA sS.hp) f sS.ev e.o.op) e.l→e.l.nx f≤nx→(∀ v w',LeafOk φ sS.hp w f nx e.l v w'→LeafOk φ sS.hp w e.f sE.nx e.l v w')→e.o.uponIn F m P a K Q ((execOp a.eval e.o).run P w):=fun f nx hh hfr hle conv=>by
    obtain ⟨rv,k1,k2⟩:=op_ok (P:=P) (w:=w) hE hh (Xm r5) e.o
    obtain ⟨v,w',k3,k4⟩:=fr_leaf _ hfr k1
    have k5:=after v w' (conv v w' (k4.le hle))
    rcases k2 v w' k3 with k6 | ⟨k6,rfl⟩
    ·rw [k6]; exact k5
    ·rw [k6]; exact k5
   cases hal:isAlloc e.o.op with
   | true =>
     obtain ⟨t,hot⟩:=alloc_of hal
     rw [hot] at hy2
     simp only [opFR] at hy2
     have hnw:e.l.nw.isSome = true:=by
      unfold falloc at hy2
      split at hy2
      ·rw [hy2]; rfl
      ·exact hy2.elim
     have hnx1:e.l.nx e.f = e.f + 1:=by
      unfold Leaf.nx
      cases hq:e.l.nw with
      | none=>rw [hq] at hnw; cases hnw
      | some _=>rfl
     have hfr:φ e.f = none:=by
      cases hφ:φ e.f with
      | none=>rfl
      | some p =>
        exfalso
        rcases r7 e.f (by rw [hφ]; simp) with q | ⟨e',m1,m2,m3,m4⟩
        ·have:s0.nx≤e.f:=by rw [t3]; exact c2
         omega
        ·rw [htr] at m1
         rcases List.mem_append.1 m1 with m1 | m1
         ·
          have:=t8 e' m1
          rw [hnx1] at this
          omega
         ·rcases List.mem_cons.1 m1 with rfl | m1
          ·rw [m2] at hn; cases hn
          ·have:=(c5 e' m1).2.2 m3
           rw [t3] at m4; omega
     have hlt:e.f < sE.nx:=by
      omega
     obtain ⟨v,w',k3,k4⟩:=alloc_any (P:=P) hE (r5.h) hfr (by rw [r2]; exact hlt) t (.tuple #[]) hy2
     rw [r2] at k4
     have k5:=after v w' k4
     have:(execOp a.eval e.o).run P w = .ok (.value v) w':=by
      unfold execOp
      simp only [hot]
      exact XA k3
     rw [this]; exact k5
   | false =>
     cases hnw:e.l.nw with
     | none =>
       refine run sE.nx sE.nx (by rw [← r2]; exact r5.h) (opFR_num _ _ _ _ _ _ _ hy2 hnw) ?_ (fun v w' h=>h.num hnw)
       unfold Leaf.nx; rw [hnw]; exact Nat.le_refl _
     | some o =>
       cases hhd:e.hd with
       | false=>exact run e.f sE.nx (hfree hal hhd (by rw [hnw]; rfl)) hy2 t7 (fun v w' h=>h)
       | true =>
         classical
         obtain ⟨φh,hph,k1,k2,k3,k4⟩:=hhide hhd (by rw [hnw]; rfl)
         let evh:Operand→V:=fun x=>if x ∈ e.o.op.operands.toList then s1.ev x else .c .un
         have he1:∀ x,x ∈ e.o.op.operands.toList→evh x = s1.ev x:=fun x hx=>if_pos hx
         have hy3:FRl (opFR Lv.std E (lookA hph) e.f evh e.o.op) e.l:=by
          rw [opFR_ev Lv.std E (lookA hph) e.f e.o.op he1,t3]
          rcases opFR_mono Lv.std E k2 s1.nx s1.ev e.o.op with q | q
          ·rw [q] at hy; exact hy.elim
          ·rw [q]; exact hy
         have hup:e.l.up = none:=FRl.up_none (by rw [hnw]; rfl) _ hy3
         have hvh:∀ x,Vrel φh (okb φh hph) w (evh x) (a.eval x):=fun x=>by
          show Vrel _ _ _ (if _ then _ else _) _
          split
          ·rename_i hx; exact k3 x hx
          ·exact trivial
         obtain ⟨rv,q1,q2⟩:=op_ok (P:=P) (w:=w) hE k1 hvh e.o
         obtain ⟨v,w',q3,q4⟩:=fr_leaf _ hy3 q1
         have q5:=after v w' (k4 hup v w' q4)
         rcases q2 v w' q3 with q6 | ⟨q6,rfl⟩
         ·rw [q6]; exact q5
         ·rw [q6]; exact q5
 ·rw [guardB_wanted r5 (hg _ g1),if_neg (by simp)]
  refine ⟨fun f _=>hF.fn f,after undef w ?_⟩
  rw [hl]
  refine ⟨φ,sS.hp,fun id=>rfl,by rw [← r2]; exact r5.h,Evo.refl _ _ _,rfl,fun id hid=>.inl hid⟩
end
end Go.VM
namespace Go.VM
open Go Go.Lib
variable {B:Nat × Bool}
def unl:List Bool→Nat
 | []=>0
 | true :: l=>unl l
 | false :: l=>unl l + 1
theorem unl_set:∀ (l:List Bool) (i:Nat),l[i]? = some false→unl (l.set i true) + 1 = unl l
 | [],i,h=>by simp at h
 | b :: l,0,h=>by simp at h; subst h; simp [unl]
 | b :: l,i + 1,h=>by
   simp at h
   have:=unl_set l i h
   cases b <;> simp [unl] <;> omega
theorem unl_zero:∀ (l:List Bool),unl l = 0→∀ i,i < l.length→l[i]? = some true
 | [],_,i,hi=>by simp at hi
 | true :: l,h,0,_=>rfl
 | true :: l,h,i + 1,hi=>by simpa using unl_zero l (by simpa [unl] using h) i (by simpa using hi)
 | false :: l,h,_,_=>by simp [unl] at h
section
variable {P:Program} {E:Ev} {spc:Spc} {ops:Array Oper}
theorem getD_setB (arr:Array Bool) (i j:Nat) (hi:i < arr.size):(arr.setIfInBounds i true).getD j false = (arr.getD j false || j == i):=by
 simp only [Array.getD_eq_getD_getElem?,Array.getElem?_setIfInBounds]
 by_cases h:i = j
 ·subst h; simp [hi]
 ·have:(j == i) = false:=by simpa using fun e=>h e.symm
  simp [h,this]
theorem draw_sound {F:Fence} {m:Nat} (hF:FOk F) (hm:P.follows .mixedOrders = true) (hE:∀ t i,E t = some i→TIok P t i) (hspc:∀ g x,spc g = some x→XOk P g x) {plan:List (Nat × List Nat)} (hpl:planOk ops plan = true)
  (id:Nat) (φ:Phi) (s:St) (a:Act) (w:World) (k:St→VC) (Q:Exit→Act→World→Prop) (h:(drawGo Lv.std E spc ops plan [] s k).holds) (hr:Rel B φ s a w) (hQ:∀ a' w',Ends B φ s.hp w s.n k a' w'→Q .normal a' w') :
  (Code.region id ops true).wpIn F m P Q a w:=by
 unfold planOk at hpl
 simp only [Bool.and_eq_true,List.all_eq_true,List.mem_range] at hpl
 obtain ⟨⟨hback,hgo⟩,hcov⟩:=hpl
 obtain ⟨tr,sE,ht,hk,hall⟩:=drawGo_tr (anc:=ancGo ops.toList []) (s0:=s) plan [] [] [] s hgo rfl trivial h rfl
 have hcov':∀ i,i < ops.size→∃ e ∈ tr,e.i = i:=fun i hi=>(hall i).1 (.inl (hcov i hi))
 obtain ⟨d1,d2,d3,d4,d5⟩:=Tr.look tr sE ht
 have hback':∀ (i:Nat) (o:Oper),ops[i]? = some o→∀ e ∈ o.after,Region.binds .any e = true→e.on < i:=fun i o ho e he hb=>by
  have hlt:=(Array.getElem?_eq_some_iff.1 ho).1
  unfold edgesBack at hback
  rw [List.all_eq_true] at hback
  have:=hback i (by simpa using hlt)
  rw [ho] at this
  simp only [List.all_eq_true,Bool.or_eq_true,Bool.not_eq_true'] at this
  rcases this e (by simpa using he) with q | q
  ·rw [hb] at q; cases q
  ·exact Nat.le_of_ble_eq_true q
 refine wpIn_region_any hm ?_
 let w1:World:={ w with drawn:=w.drawn + 1 }
 have hbel:Go.RowKit.Below w.heap.size w w1:=(Go.RowKit.Below.refl _ w).drew
 obtain ⟨hh1,ev1⟩:=Xf hr.h hbel
 have key:∀ (n:Nat) (arr:Array Bool) (a:Act) (w':World),arr.size = ops.size→unl arr.toList≤n→Closed ops (fun j=>arr.getD j false)→Inv B P s φ w tr sE.nx (fun j=>arr.getD j false) a w'→wpAnyIn F m P .any ops Q n arr a w':=by
  have done:∀ (arr:Array Bool) (a:Act) (w':World),(∀ i,i < ops.size→arr.getD i false = true)→Inv B P s φ w tr sE.nx (fun j=>arr.getD j false) a w'→Q .normal a w':=by
   rintro arr a w' hal ⟨φ',sS,r1,r2,r3,r4,r5,r6,r7⟩
   have hS:∀ e ∈ tr,arr.getD e.i false = true:=fun e he=>by
    obtain ⟨es2,es1,s1,htr,t1,t2,_⟩:=Tr.split tr sE ht e he
    exact hal e.i (Array.getElem?_eq_some_iff.1 t2).1
   have hsl:∀ t,lookA sE.sl t = lookA sS.sl t:=fun t=>by
    rw [d3,r3]
    exact sw_congr tr fun e he _ _=>(hS e he).symm
   have hhp:∀ id,lookA sE.hp id = lookA sS.hp id:=fun id=>by
    rw [d4,r4]
    exact hw_congr tr fun e he _=>(hS e he).symm
   have hok:∀ b,okb φ' sS.hp b→okb φ' sE.hp b:=fun b hb=>(okb_congr hhp).2 hb
   refine hQ a w' ⟨φ',sE,⟨?_,r5.bs,?_,fun j v hj=>?_,fun id o ho=>?_,?_,fun i j o o' p q b h1 h2=>?_⟩,⟨r6.os,r6.tape,r6.output,r6.size,r6.ph,fun id o p b h1=>?_,r6.bl⟩,d1,hk⟩
   ·rw [d1,← r1]; exact r5.sz
   ·have ev0:Evo φ' sS.hp w' φ' sE.hp w':=⟨rfl,rfl,rfl,Nat.le_refl _,fun _ _ h=>h,fun id o p b h1 h2 h3=>.inr fun hb=>hok b hb id o p h1 h2 h3,fun _ _ _=>rfl⟩
    exact ev0.D r5.df
   ·rw [hsl] at hj
    have ev0:Evo φ' sS.hp w' φ' sE.hp w':=⟨rfl,rfl,rfl,Nat.le_refl _,fun _ _ h=>h,fun id o p b h1 h2 h3=>.inr fun hb=>hok b hb id o p h1 h2 h3,fun _ _ _=>rfl⟩
    exact ev0.V (r5.sl j v hj)
   ·rw [hhp] at ho
    have ev0:Evo φ' sS.hp w' φ' sE.hp w':=⟨rfl,rfl,rfl,Nat.le_refl _,fun _ _ h=>h,fun id o p b h1 h2 h3=>.inr fun hb=>hok b hb id o p h1 h2 h3,fun _ _ _=>rfl⟩
    exact (r5.ob id o ho).evo ev0 fun p b _ _=>rfl
   ·rw [← r2]; exact r5.fr
   ·rw [hhp] at h1 h2
    exact r5.dj i j o o' p q b h1 h2
   ·rw [hhp] at h1
    exact r6.ow id o p b h1
  intro n
  induction n with
  | zero =>
    intro arr a w' hsz hu hc hi
    have hal:∀ i,i < ops.size→arr.getD i false = true:=fun i hi'=>by
     have:=unl_zero arr.toList (by omega) i (by simpa [hsz] using hi')
     rw [Array.getD_eq_getD_getElem?]
     rw [Array.getElem?_toList] at this
     rw [this]; rfl
    refine ⟨?_,done arr a w' hal hi⟩
    rw [List.eq_nil_iff_forall_not_mem]
    intro i hmem
    obtain ⟨q1,o,q2,_⟩:=mem_ready.1 hmem
    have hlt:=(Array.getElem?_eq_some_iff.1 q2).1
    have:=hal i hlt
    rw [Array.getD_eq_getD_getElem?] at this q1
    rw [Array.getElem?_eq_getElem (by omega)] at this q1
    simp only [Option.getD_some] at this q1
    rw [this] at q1; cases q1
  | succ n ih =>
    intro arr a w' hsz hu hc hi
    refine ⟨fun hnil=>?_,fun i hmem=>?_⟩
    ·refine done arr a w' (fun i=>?_) hi
     induction i using Nat.strongRecOn with
     | _ i ih2 =>
       intro hlt
       cases hb:arr.getD i false with
       | true=>rfl
       | false =>
         exfalso
         have ho:ops[i]? = some ops[i]:=Array.getElem?_eq_getElem hlt
         have:i ∈ Region.ready .any ops arr:=by
          refine mem_ready.2 ⟨?_,ops[i],ho,fun e he hbd=>?_⟩
          ·rw [Array.getD_eq_getD_getElem?] at hb ⊢
           rw [Array.getElem?_eq_getElem (by omega)] at hb ⊢
           simpa using hb
          ·have h1:=hback' i _ ho e he hbd
           exact ih2 e.on h1 (by omega)
         rw [hnil] at this; cases this
    ·obtain ⟨q1,o,q2,q3⟩:=mem_ready.1 hmem
     have hlt:=(Array.getElem?_eq_some_iff.1 q2).1
     have hun:arr[i]? = some false:=by
      rw [Array.getD_eq_getD_getElem?] at q1
      rw [Array.getElem?_eq_getElem (by omega)] at q1 ⊢
      simpa using q1
     have hfalse:arr.getD i false = false:=by rw [Array.getD_eq_getD_getElem?,hun]; rfl
     obtain ⟨e,he,hei⟩:=hcov' i hlt
     obtain ⟨_,_,_,_,_,t2,_⟩:=Tr.split tr sE ht e he
     rw [hei,q2] at t2
     have heo:e.o = o:=by cases t2; rfl
     have hset:=getD_setB arr i
     have:=inv_step (m:=m) hF (P:=P) (Q:=Q) (K:=wpAnyIn F m P .any ops Q n (arr.setIfInBounds i true)) (S:=fun j=>arr.getD j false) (S':=fun j=>(arr.setIfInBounds i true).getD j false) hE hspc rfl ht hc he (by rw [hei]; exact hfalse) (by rw [heo]; exact q3) hi
      (fun j=>by rw [hei]; exact hset j (by omega)) (fun a2 w2 hi2=>ih _ a2 w2 (by simp [hsz]) ?_ ?_ hi2)
     ·rw [hei] at this; exact this
     ·have h1:=unl_set arr.toList i (by rw [Array.getElem?_toList]; exact hun)
      have h2:(arr.setIfInBounds i true).toList = arr.toList.set i true:=by simp
      rw [h2]; omega
     ·intro j oj hj hS x hx hb
      show (arr.setIfInBounds i true).getD x.on false = true
      have hS':(arr.setIfInBounds i true).getD j false = true:=hS
      rw [hset j (by omega)] at hS'
      rw [hset x.on (by omega)]
      by_cases hji:j = i
      ·subst hji
       rw [q2] at hj; cases hj
       rw [q3 x hx hb]; rfl
      ·have:(j == i) = false:=by simpa using hji
       rw [this,Bool.or_false] at hS'
       have:=hc j oj hj hS' x hx hb
       rw [show arr.getD x.on false = true from this]; rfl
 refine key ops.size _ a w1 (by simp) ?_ ?_ ?_
 ·have:∀ n,unl (List.replicate n false) = n:=by
   intro n
   induction n with
   | zero=>rfl
   | succ n ih=>simp [List.replicate_succ,unl,ih]
  simp only [Array.toList_replicate,this]
  exact Nat.le_refl _
 ·intro j o hj hS
  exfalso
  have:(Array.replicate ops.size false).getD j false = false:=by
   rw [Array.getD_eq_getD_getElem?,Array.getElem?_replicate]; split <;> rfl
  rw [show (Array.replicate ops.size false).getD j false = true from hS] at this; cases this
 ·have hfalse:∀ j,(Array.replicate ops.size false).getD j false = false:=fun j=>by
   rw [Array.getD_eq_getD_getElem?,Array.getElem?_replicate]; split <;> rfl
  have hsw:∀ (tr:List Ent) t,swS s (fun j=>(Array.replicate ops.size false).getD j false) tr t = lookA s.sl t:=fun tr t=>by
   induction tr with
   | nil=>rfl
   | cons e tr ih=>simp only [swS,hfalse,Bool.false_eq_true,false_and,if_false] at ih ⊢; exact ih
  have hhw:∀ (tr:List Ent) id,hwS s (fun j=>(Array.replicate ops.size false).getD j false) tr id = lookA s.hp id:=fun tr id=>by
   induction tr with
   | nil=>rfl
   | cons e tr ih=>simp only [hwS,hfalse,Bool.false_eq_true,if_false] at ih ⊢; exact ih
  refine ⟨φ,{ s with nx:=sE.nx },rfl,rfl,fun t=>(hsw tr t).symm,fun id=>(hhw tr id).symm,⟨hr.sz,Nat.le_trans hr.bs ev1.size,ev1.D hr.df,fun j v hj=>ev1.V (hr.sl j v hj),hh1.ob,(hh1.le d2).fr,hh1.dj⟩,ev1,fun id hid=>.inl ?_⟩
  rcases Nat.lt_or_ge id s.nx with q | q
  ·exact q
  ·exact absurd (hr.fr id q) hid
end
end Go.VM
namespace Go.VM
open Go Go.Lib
variable {B:Nat × Bool}
inductive Ex
 | normal
 | exit (id:Nat)
 | ret
abbrev Kont:=Ex→St→VC
def Ex.to:Ex→Exit
 | .normal=>.normal
 | .exit id=>.exit id
 | .ret=>.ret
def Ex.code:Ex→Option Code
 | .normal=>none
 | .exit id=>some (.exit id)
 | .ret=>some .ret
section
variable {w:World} {r:Nat} {o o':Obj} {φ:Phi} {ok:Nat→Prop} {hp:Hp}
theorem cell_turn (h:w.heap[r]? = some o) (hc:o.isCells = false) {a:Addr} {v:Value} (hv:w.cell? a = some v):(w.putObj r o').cell? a = some v:=by
 have hne:a.block ≠ r:=fun e=>by
  obtain ⟨o2,h2,h3⟩:=cells_of_cell hv
  rw [e,h] at h2; cases h2
  rw [hc] at h3; cases h3
 rw [World.cell?_of_block (w:=w)]
 ·exact hv
 ·exact World.putObj_heap_other hne
theorem XS (h:w.heap[r]? = some o) (hc:o.isCells = false):∀ (t:Ty) (x:t.D) (cs:List Value),K ok w t x cs→K ok (w.putObj r o') t x cs
 | .int _,_,_,h1 | .bool,_,_,h1 | .str,_,_,h1=>h1
 | .sl e,l,cs,h1=>by
   obtain ⟨A,c,rfl,hcap,h2⟩:=h1
   refine ⟨A,c,rfl,hcap,fun hn=>?_⟩
   obtain ⟨ad,rfl,hok,hj⟩:=h2 hn
   refine ⟨ad,rfl,hok,fun j x hx=>?_⟩
   obtain ⟨vs,hk,hv⟩:=hj j x hx
   exact ⟨vs,XS h hc e x vs hk,fun i u hu=>cell_turn h hc (hv i u hu)⟩
 | .pair a b,x,cs,h1=>by
   obtain ⟨c1,c2,rfl,h2,h3⟩:=h1
   exact ⟨c1,c2,rfl,XS h hc a _ _ h2,XS h hc b _ _ h3⟩
 | .wrap a,x,cs,h1=>XS h hc a x cs h1
theorem XT (h:w.heap[r]? = some o) (hc:o.isCells = false) {x:C} {v:Value} (hx:Crel φ ok w x v):Crel φ ok (w.putObj r o') x v:=by
 cases x with
 | sl e l=>exact XS h hc _ _ _ hx
 | _=>exact hx
theorem V_turn (h:w.heap[r]? = some o) (hc:o.isCells = false) {x:V} {v:Value} (hx:Vrel φ ok w x v):Vrel φ ok (w.putObj r o') x v:=by
 cases x with
 | c x=>exact XT h hc hx
 | agg l=>obtain ⟨vs,h1,h2⟩:=hx; exact ⟨vs,h1,Yo (fun _ _ hh=>XT h hc hh) h2⟩
 | tup l =>
   obtain ⟨vs,h1,h2⟩:=hx
   refine ⟨vs,h1,Yo (fun y u hh=>?_) h2⟩
   unfold tupRel at hh ⊢
   split at hh
   ·rename_i hy
    rw [if_pos hy]
    obtain ⟨us,e,hh⟩:=hh
    exact ⟨us,e,Yo (fun _ _ hh=>XT h hc hh) hh⟩
   ·rename_i hy
    rw [if_neg hy]
    obtain ⟨c,e,hh⟩:=hh
    exact ⟨c,e,XT h hc hh⟩
 | ipt l =>
   obtain ⟨ad,vs,h1,h2,h3⟩:=hx
   exact ⟨ad,vs,h1,Yo (fun _ _ hh=>XT h hc hh) h2,fun i u hu=>⟨(h3 i u hu).1,cell_turn h hc (h3 i u hu).2⟩⟩
theorem O_turn (h:w.heap[r]? = some o) (hc:o.isCells = false) {id:Nat} {x:Ob} (hx:Orel φ ok w id x) (hne:∀ p,φ id = some p→¬ p.S r):Orel φ ok (w.putObj r o') id x:=by
 have hb:∀ b sz cap n,φ id = some (.at b sz cap n)→(w.putObj r o').heap[b]? = w.heap[b]?:=fun b sz cap n hp=>World.putObj_heap_other fun e=>hne _ hp e.symm
 cases x with
 | box t cs =>
   obtain ⟨b,vs,h1,h2,h3⟩:=hx
   exact ⟨b,vs,h1,(hb _ _ _ _ h1).trans h2,Yo (fun _ _ hh=>XT h hc hh) h3⟩
 | row t ty l =>
   rcases hx with ⟨h1,h2⟩ | ⟨b,cap,arr,h1,h2,h3,h4,h5⟩
   ·exact .inl ⟨h1,h2⟩
   ·refine .inr ⟨b,cap,arr,h1,(hb _ _ _ _ h1).trans h2,h3,h4,fun j x hx=>?_⟩
    obtain ⟨vs,hk,hv⟩:=h5 j x hx
    exact ⟨vs,XS h hc _ _ _ hk,hv⟩
 | rowf t ty l q cs =>
   obtain ⟨b,cap,arr,h1,h2,h3,h4,h5,h6,h7,vs,h8,h9⟩:=hx
   refine ⟨b,cap,arr,h1,(hb _ _ _ _ h1).trans h2,h3,h4,fun j x hne hx=>?_,h6,h7,vs,Yo (fun _ _ hh=>XT h hc hh) h8,h9⟩
   obtain ⟨vs,hk,hv⟩:=h5 j x hne hx
   exact ⟨vs,XS h hc _ _ _ hk,hv⟩
 | map k v l =>
   obtain ⟨b,es,clock,h1,h2,h3⟩:=hx
   exact ⟨b,es,clock,h1,(hb _ _ _ _ h1).trans h2,Yo (fun _ _ hh=>⟨XS h hc _ _ _ hh.1,XS h hc _ _ _ hh.2⟩) h3⟩
 | mapc l =>
   obtain ⟨b,es,clock,h1,h2,h3⟩:=hx
   exact ⟨b,es,clock,h1,(hb _ _ _ _ h1).trans h2,Yo (fun _ _ hh=>⟨XT h hc hh.1,XT h hc hh.2⟩) h3⟩
 | amb =>
   obtain ⟨S,w0,h1,h2,h3⟩:=hx
   refine ⟨S,w0,h1,h2,fun b hb'=>⟨by rw [World.putObj_size]; exact (h3 b hb').1,?_⟩⟩
   rw [World.putObj_heap_other (fun e=>hne _ h1 (by rw [← e]; exact hb'))]
   exact (h3 b hb').2
theorem H_turn {nx:Nat} (h:w.heap[r]? = some o) (hc:o.isCells = false) (hh:HRel φ hp nx w) (hok:okb φ hp r):HRel φ hp nx (w.putObj r o') :=
 ⟨fun id x hx=>O_turn h hc (hh.ob id x hx) fun p hp'=>hok id x p hx hp',hh.fr,hh.dj⟩
theorem Rel_turn {s:St} {a:Act} (h:w.heap[r]? = some o) (hc:o.isCells = false) (hd:o ≠ .deferred (some [])) (hr:Rel B φ s a w) (hok:okb φ s.hp r):Rel B φ s a (w.putObj r o'):=by
 have hh:=H_turn (o':=o') h hc hr.h hok
 refine ⟨hr.sz,by rw [World.putObj_size]; exact hr.bs,?_,fun j v hj=>V_turn h hc (hr.sl j v hj),hh.ob,hh.fr,hh.dj⟩
 obtain ⟨l,h1,h2,h4,h3⟩:=hr.df
 refine ⟨l,h1,h2,h4,fun D hm=>⟨(h3 D hm).1,?_,(h3 D hm).2.2⟩⟩
 rw [World.putObj_heap_other (fun e=>by have:=(h3 D hm).2.1; rw [e,h] at this; cases this; exact hd rfl)]
 exact (h3 D hm).2.1
theorem Evo_turn {φ':Phi} {hp':Hp} {w':World} (ev:Evo φ hp w φ' hp' w') (hr:w.heap.size≤r):Evo φ hp w φ' hp' (w'.putObj r o') :=
 ⟨ev.os,ev.tape,ev.output,by rw [World.putObj_size]; exact ev.size,ev.ph,ev.ow,fun b hb hk=>by
  rw [World.putObj_heap_other (by omega)]; exact ev.bl b hb hk⟩
end
def flatV:(t:Ty)→t.D→List Value
 | .int k,x=>[.int k x]
 | .bool,x=>[.bool x]
 | .str,x=>[.string x]
 | .sl _,_=>[undef]
 | .pair a b,x=>flatV a x.1 ++ flatV b x.2
 | .wrap a,x=>flatV a x
def encV (t:Ty) (x:t.D):Value:=if t.agg then .agg (flatV t x).toArray else (flatV t x).headD undef
def encs:(ts:List Ty)→Ds ts→List Value
 | [],_=>[]
 | t :: ts,x=>encV t x.1 :: encs ts x.2
theorem K_flat {ok:Nat→Prop} {w:World}:∀ (t:Ty) (x:t.D) (cs:List Value),t.flat = true→(K ok w t x cs↔cs = flatV t x)
 | .int _,_,_,_ | .bool,_,_,_ | .str,_,_,_=>Iff.rfl
 | .sl _,_,_,hf=>by cases hf
 | .pair a b,x,cs,hf=>by
   simp only [Ty.flat,Bool.and_eq_true] at hf
   constructor
   ·rintro ⟨c1,c2,rfl,h1,h2⟩
    rw [(K_flat a _ _ hf.1).1 h1,(K_flat b _ _ hf.2).1 h2]; rfl
   ·rintro rfl
    exact ⟨_,_,rfl,(K_flat a _ _ hf.1).2 rfl,(K_flat b _ _ hf.2).2 rfl⟩
 | .wrap a,x,cs,hf=>K_flat a x cs hf
theorem flatV_one:∀ (t:Ty) (x:t.D),t.agg = false→∃ v,flatV t x = [v]
 | .int _,_,_ | .bool,_,_ | .str,_,_ | .sl _,_,_=>⟨_,rfl⟩
theorem KV_flat {ok:Nat→Prop} {w:World} {t:Ty} {x:t.D} {v:Value} (hf:t.flat = true):KV ok w t x v↔v = encV t x:=by
 unfold KV encV
 split
 ·constructor
  ·rintro ⟨cs,rfl,h⟩; rw [(K_flat t x cs hf).1 h]
  ·rintro rfl; exact ⟨_,rfl,(K_flat t x _ hf).2 rfl⟩
 ·rename_i h
  obtain ⟨u,hu⟩:=flatV_one t x (by simpa using h)
  rw [K_flat t x _ hf,hu]
  simp
theorem KVs_flat {ok:Nat→Prop} {w:World}:∀ (ts:List Ty) (x:Ds ts) (vs:List Value),ts.all Ty.flat = true→(KVs ok w ts x vs↔vs = encs ts x)
 | [],_,_,_=>Iff.rfl
 | t :: ts,x,[],hf=>⟨fun h=>h.elim,fun h=>by cases h⟩
 | t :: ts,x,v :: vs,hf=>by
   simp only [List.all_cons,Bool.and_eq_true] at hf
   show KV ok w t x.1 v∧KVs ok w ts x.2 vs↔v :: vs = encV t x.1 :: encs ts x.2
   rw [KV_flat hf.1,KVs_flat ts x.2 vs hf.2,List.cons.injEq]
structure Frm (C:Nat→Prop) (w w':World):Prop where
 os:w'.os = w.os
 tape:w'.tape = w.tape
 output:w'.output = w.output
 size:w.heap.size≤w'.heap.size
 bl:∀ b,b < w.heap.size→¬ C b→w'.heap[b]? = w.heap[b]?
 gl:∀ b,glB b→w'.heap[b]? = w.heap[b]?
def CapOk (ok:Nat→Prop) (w:World) (t:Ty) (x:t.D) (v:Value):Prop:=∃ ad vs,v = .pointer (some ad)∧K ok w t x vs∧∀ i u,vs[i]? = some u→ok ad.block∧w.cell? (ad.add i) = some u
def CapsOk (ok:Nat→Prop) (w:World):(ts:List Ty)→Ds ts→List Value→Prop
 | [],_,vs=>vs = []
 | t :: ts,x,v :: vs=>CapOk ok w t x.1 v∧CapsOk ok w ts x.2 vs
 | _ :: _,_,[]=>False
def Grows {β:Type} (J:β→(Nat→Prop)→World→Prop):Prop:=∀ x C w w',J x C w→Go.RowKit.Below w.heap.size w w'→J x C w'
def Next (w w':World) (C C':Nat→Prop):Prop:=(∀ b,C' b→b < w'.heap.size)∧∀ b,b < w.heap.size→C' b→C b
def ItOk (P:Program) (g:FuncId) (it:It):Prop:=Has P g∧it.el.all Ty.flat = true∧∀ (ok:Nat→Prop) (w:World) (caps:List Value) (x:Ds it.ins),GlOk ok w→CapsOk ok w it.ins x caps→it.pre x →
 ∀ (l:Nat) (J Jx:List (Ds it.el)→(Nat→Prop)→World→Prop) (W:World) (C0:Nat→Prop),Go.RowKit.Below w.heap.size w W→(∀ b,C0 b→b < W.heap.size∧¬ (b < w.heap.size∧ok b))→Grows J→Grows Jx →
   (∀ pre y rest W1 C,it.fn x = pre ++ y :: rest→J pre C W1→YieldAt Fence.wide 0 P l (encs it.el y).toArray W1 fun e W' =>
    Frm C W1 W'∧∃ C',Next W1 W' C C'∧((e = .returned (.bool true)∧J (pre ++ [y]) C' W')∨(e = .returned (.bool false)∧Jx (pre ++ [y]) C' W')))→J [] C0 W →
   Calls P g (Value.func (.yield l) #[] #[] :: caps).toArray W fun e W'=>(∃ v,e = .returned v)∧((∃ C,J (it.fn x) C W')∨∃ pre C,Jx pre C W')
def viewCaps (L:Lv) (h:H):(ts:List Ty)→List Nat→Option (Ds ts × List Nat)
 | [],[]=>some ((),[])
 | t :: ts,id :: caps=>match h id with
   | some (.box _ cs)=>match view L h t cs with
     | some (x,[],ids)=>match viewCaps L h ts caps with
       | some (xs,j)=>some ((x,xs),(id :: ids) ++ j)
       | none=>none
     | _=>none
   | _=>none
 | _,_=>none
section
variable {φ:Phi} {hp:Hp} {w:World} {f:Nat}
theorem CapOk.mono {ok ok':Nat→Prop} {w':World} (h:∀ b,ok b→b < w.heap.size→w'.heap[b]? = w.heap[b]?∧ok' b) {t:Ty} {x:t.D} {v:Value} (hk:CapOk ok w t x v):CapOk ok' w' t x v:=by
 obtain ⟨ad,vs,h1,h2,h3⟩:=hk
 refine ⟨ad,vs,h1,YI h t x vs h2,fun i u hu=>?_⟩
 obtain ⟨q1,q2⟩:=h3 i u hu
 obtain ⟨q3,q4⟩:=h _ q1 (Xe q2)
 refine ⟨q4,?_⟩
 rw [World.cell?_of_block (w:=w)]
 ·exact q2
 ·rw [Xc]; exact q3
theorem CapsOk.mono {ok ok':Nat→Prop} {w':World} (h:∀ b,ok b→b < w.heap.size→w'.heap[b]? = w.heap[b]?∧ok' b):∀ (ts:List Ty) (x:Ds ts) (vs:List Value),CapsOk ok w ts x vs→CapsOk ok' w' ts x vs
 | [],_,_,hk=>hk
 | t :: ts,x,v :: vs,hk=>⟨CapOk.mono h hk.1,CapsOk.mono h ts x.2 vs hk.2⟩
 | _ :: _,_,[],hk=>hk
theorem viewCaps_ok (hh:HRel φ hp f w):∀ (ts:List Ty) (caps:List Nat) (us:List Value) (x:Ds ts) (ids:List Nat),viewCaps Lv.std (lookA hp) ts caps = some (x,ids)→L2 (fun id u=>isPtr φ id 0 u) caps us→CapsOk (okb φ (delAll hp ids)) w ts x us
 | [],[],[],x,ids,h,_=>rfl
 | t :: ts,id :: caps,u :: us,x,ids,h,hl=>by
   unfold viewCaps at h
   split at h
   ·rename_i tt cs ho
    split at h
    ·rename_i y idsy hv
     split at h
     ·rename_i xs j hx
      cases h
      refine ⟨?_,CapsOk.mono (fun b hb _=>⟨rfl,ok_append (id :: idsy) j hb⟩) ts xs us (viewCaps_ok hh ts caps us xs j hx hl.2)⟩
      obtain ⟨b,sz,cap,n,g1,rfl⟩:=hl.1
      obtain ⟨b',vs,k1,k2,k3⟩:=hh.ob id _ ho
      rw [g1] at k1; cases k1
      obtain ⟨v1,v2,e,q1,q2⟩:=Xn hh t cs vs y [] idsy hv k3
      have:v2 = []:=by
       cases v2 with
       | nil=>rfl
       | cons _ _=>exact q2.elim
      subst this
      rw [List.append_nil] at e
      subst e
      have hokc:∀ b,okb φ (delAll hp idsy) b→okb φ (delAll hp ((id :: idsy) ++ j)) b:=fun b hb=>ok_append' (id :: idsy) j (ok_append [id] idsy hb)
      refine ⟨⟨b,0,none⟩,vs,rfl,YI (fun b hb _=>⟨rfl,hokc b hb⟩) t y vs q1,fun i u hu=>⟨?_,?_⟩⟩
      ·intro id' o p h1 h2 h3
       rw [Z0] at h1
       split at h1
       ·cases h1
       ·rename_i hm
        by_cases hid:id' = id
        ·subst hid; exact hm (by simp)
        ·exact hh.dj id' id o _ p _ b h1 ho hid h2 g1 h3 rfl
      ·rw [Yu,Xd k2]
       simpa using hu
     ·cases h
    ·cases h
   ·cases h
 | [],_ :: _,_,x,ids,h,_=>by cases h
 | _ :: _,[],_,x,ids,h,_=>by cases h
 | [],[],_ :: _,_,_,_,hl | _ :: _,_ :: _,[],_,_,_,hl=>hl.elim
end
def putPs:List Tmp→(ts:List Ty)→Ds ts→St→Option St
 | [],[],_,s=>some s
 | p :: ps,t :: ts,y,s=>putPs ps ts y.2 (s.put (some p) (outV t y.1))
 | _,_,_,_=>none
theorem putPs_ok {φ:Phi} {w:World} {ds:List Deferred}:∀ (ps:List Tmp) (ts:List Ty) (y:Ds ts) (s s':St) (tm:Array Value),ts.all Ty.flat = true→putPs ps ts y s = some s'→Rel B φ s { tmps:=tm,defers:=ds } w →
  Rel B φ s' { tmps:=(ps.zip (encs ts y)).foldl (fun t (p:Tmp × Value)=>t.setIfInBounds p.1 p.2) tm,defers:=ds } w∧s'.hp = s.hp∧s'.n = s.n∧s'.nx = s.nx∧(encs ts y).length = ps.length
 | [],[],y,s,s',tm,_,h,hr=>by cases h; exact ⟨hr,rfl,rfl,rfl,rfl⟩
 | p :: ps,t :: ts,y,s,s',tm,hf,h,hr=>by
   simp only [List.all_cons,Bool.and_eq_true] at hf
   obtain ⟨q1,q2,q3⟩:=hr.put s.hp s.nx hr.h (Evo.refl _ _ _) (some p) (outV t y.1) (encV t y.1) (outV_ok ((KV_flat hf.1).2 rfl))
   obtain ⟨r1,r2,r3,r4,r5⟩:=putPs_ok ps ts y.2 _ s' _ hf.2 h q1
   refine ⟨r1,r2.trans q2,r3.trans q3,r4.trans (put_hp _ _ _).2.2,by simp [encs,r5]⟩
 | [],_ :: _,y,s,s',tm,_,h,_=>by cases h
 | _ :: _,[],y,s,s',tm,_,h,_=>by cases h
theorem Rel.evo {φ φ':Phi} {s:St} {a:Act} {w w':World} (r:Rel B φ s a w) (hh:HRel φ' s.hp s.nx w') (ev:Evo φ s.hp w φ' s.hp w'):Rel B φ' s a w' :=
 ⟨r.sz,Nat.le_trans r.bs ev.size,ev.D r.df,fun j v hj=>ev.V (r.sl j v hj),hh.ob,hh.fr,hh.dj⟩
theorem Rel.below {φ:Phi} {s:St} {a:Act} {w w':World} (r:Rel B φ s a w) (hb:Go.RowKit.Below w.heap.size w w'):Rel B φ s a w'∧Evo φ s.hp w φ s.hp w':=by
 obtain ⟨h1,h2⟩:=Xf r.h hb
 exact ⟨r.evo h1 h2,h2⟩
theorem HRel.okNew {φ:Phi} {hp:Hp} {nx:Nat} {w:World} (h:HRel φ hp nx w) {b:Nat} (hb:w.heap.size≤b):okb φ hp b:=fun id o p h1 h2 h3=>by
 obtain ⟨q,hq,hl⟩:=(h.ob id o h1).has
 rw [h2] at hq; cases hq
 have:=hl b h3
 omega
end Go.VM
namespace Go.VM
open Go Go.Lib
variable {B:Nat × Bool}
def chainOk (anc:List Nat):List Nat→Bool
 | []=>true
 | t :: r=>r.all (fun x=>Nat.blt t x && (anc.getD x 0).testBit t) && chainOk anc r
def planLast (ops:Array Oper) (tail:List Nat) (plan:List (Nat × List Nat)):Bool:=match tail with
 | []=>false
 | nl :: _=>edgesBack ops && planGo ops (ancGo ops.toList []) plan [] && tail.all (fun i=>Nat.blt i ops.size && !(memN i (plan.map (·.1)))) && chainOk (ancGo ops.toList []) tail &&
   (List.range ops.size).all fun i=>memN i tail || (memN i (plan.map (·.1)) && ((ancGo ops.toList []).getD nl 0).testBit i)
section
variable {P:Program} {E:Ev} {spc:Spc} {ops:Array Oper}
theorem any_done {F:Fence} {m:Nat} {Q:Exit→Act→World→Prop} {arr:Array Bool} {a:Act} {w:World} (hal:∀ i,i < ops.size→arr.getD i false = true) (n:Nat) (hq:Q .normal a w):wpAnyIn F m P .any ops Q n arr a w:=by
 have hno:∀ i,i ∈ Region.ready .any ops arr→False:=fun i hmem=>by
  obtain ⟨q1,o,q2,_⟩:=mem_ready.1 hmem
  have hlt:=(Array.getElem?_eq_some_iff.1 q2).1
  have:=hal i hlt
  rw [Array.getD_eq_getD_getElem?] at this q1
  cases he:arr[i]? with
  | none=>rw [he] at this; cases this
  | some b=>rw [he] at this q1; simp only [Option.getD_some] at this q1; rw [this] at q1; cases q1
 cases n with
 | zero=>exact ⟨List.eq_nil_iff_forall_not_mem.2 fun i h=>hno i h,hq⟩
 | succ n=>exact ⟨fun _=>hq,fun i h=>(hno i h).elim⟩
theorem back_of {ops:Array Oper} (hback:edgesBack ops = true):∀ (i:Nat) (o:Oper),ops[i]? = some o→∀ e ∈ o.after,Region.binds .any e = true→e.on < i:=fun i o ho e he hb=>by
 have hlt:=(Array.getElem?_eq_some_iff.1 ho).1
 unfold edgesBack at hback
 rw [List.all_eq_true] at hback
 have:=hback i (by simpa using hlt)
 rw [ho] at this
 simp only [List.all_eq_true,Bool.or_eq_true,Bool.not_eq_true'] at this
 rcases this e (by simpa using he) with q | q
 ·rw [hb] at q; cases q
 ·exact Nat.le_of_ble_eq_true q
theorem any_chain {F:Fence} {m:Nat} {Q:Exit→Act→World→Prop} (hback:edgesBack ops = true):∀ (tail:List Nat) (n:Nat) (arr:Array Bool) (a:Act) (w:World),chainOk (ancGo ops.toList []) tail = true→(∀ i ∈ tail,i < ops.size)→arr.size = ops.size→unl arr.toList≤n →
  (∀ i,i < ops.size→i ∉ tail→arr.getD i false = true)→(∀ i ∈ tail,arr.getD i false = false)→Closed ops (fun j=>arr.getD j false)→wpOpsIn F m P ops Q tail a w→wpAnyIn F m P .any ops Q n arr a w
 | [],n,arr,a,w,_,_,_,_,hal,_,_,hq=>any_done (fun j hj=>hal j hj (by simp)) n hq
 | t :: r,0,arr,a,w,hch,hsz,hs,hu,hal,hno,hc,hq=>by
   exfalso
   have ht:=hsz t (by simp)
   have h1:=unl_zero arr.toList (by omega) t (by simpa [hs] using ht)
   have h2:=hno t (by simp)
   rw [Array.getElem?_toList] at h1
   rw [Array.getD_eq_getD_getElem?,h1] at h2
   cases h2
 | t :: r,n + 1,arr,a,w,hch,hsz,hs,hu,hal,hno,hc,hq=>by
   unfold chainOk at hch
   simp only [Bool.and_eq_true,List.all_eq_true] at hch
   obtain ⟨hc1,hc2⟩:=hch
   have ht:=hsz t (by simp)
   have htn:t ∉ r:=fun hm=>by have:=Nat.le_of_ble_eq_true (hc1 t hm).1; omega
   have ho:ops[t]? = some ops[t]:=Array.getElem?_eq_getElem ht
   have hrdy:t ∈ Region.ready .any ops arr:=by
    refine mem_ready.2 ⟨?_,ops[t],ho,fun e he hbd=>?_⟩
    ·have:=hno t (by simp)
     rw [Array.getD_eq_getD_getElem?] at this ⊢
     rw [Array.getElem?_eq_getElem (by omega)] at this ⊢
     simpa using this
    ·have h1:=back_of hback t _ ho e he hbd
     refine hal e.on (by omega) fun hm=>?_
     rcases List.mem_cons.1 hm with q | q
     ·omega
     ·have:=Nat.le_of_ble_eq_true (hc1 _ q).1; omega
   refine ⟨fun hnil=>(by rw [hnil] at hrdy; cases hrdy),fun i hmem=>?_⟩
   obtain ⟨q1,o,q2,q3⟩:=mem_ready.1 hmem
   have hlt:=(Array.getElem?_eq_some_iff.1 q2).1
   have hun:arr[i]? = some false:=by
    rw [Array.getD_eq_getD_getElem?] at q1
    rw [Array.getElem?_eq_getElem (by omega)] at q1 ⊢
    simpa using q1
   have hit:i = t:=by
    refine Classical.byContradiction fun hne=>?_
    by_cases hm:i ∈ t :: r
    ·rcases List.mem_cons.1 hm with q | q
     ·exact hne q
     ·have:=anc_ok hc i o q2 q3 t (hc1 i q).2
      have h2:=hno t (by simp)
      rw [h2] at this; cases this
    ·have:=hal i hlt hm
     rw [Array.getD_eq_getD_getElem?,hun] at this
     cases this
   subst hit
   have hset:=getD_setB arr i
   rw [wpOpsIn_cons] at hq
   refine wpOpIn_mono (fun a2 w2 hq2=>?_) hq
   refine any_chain hback r n _ a2 w2 hc2 (fun j hj=>hsz j (by simp [hj])) (by simp [hs]) ?_ (fun j hj hm=>?_) (fun j hj=>?_) ?_ hq2
   ·have h1:=unl_set arr.toList i (by rw [Array.getElem?_toList]; exact hun)
    have h2:(arr.setIfInBounds i true).toList = arr.toList.set i true:=by simp
    rw [h2]; omega
   ·rw [hset j (by omega)]
    by_cases hji:j = i
    ·subst hji; simp
    ·rw [hal j hj (by simp [hji,hm])]; rfl
   ·rw [hset j (by omega),hno j (by simp [hj])]
    simpa using fun (e:j = i)=>htn (by rw [← e]; exact hj)
   ·intro j oj hj hS x hx hb
    show (arr.setIfInBounds i true).getD x.on false = true
    have hS':(arr.setIfInBounds i true).getD j false = true:=hS
    rw [hset j (by omega)] at hS'
    rw [hset x.on (by omega)]
    by_cases hji:j = i
    ·subst hji
     rw [q2] at hj; cases hj
     rw [q3 x hx hb]; rfl
    ·have:(j == i) = false:=by simpa using hji
     rw [this,Bool.or_false] at hS'
     have:=hc j oj hj hS' x hx hb
     rw [show arr.getD x.on false = true from this]; rfl
theorem draw_last {F:Fence} {m:Nat} (hF:FOk F) (hm:P.follows .mixedOrders = true) (hE:∀ t i,E t = some i→TIok P t i) (hspc:∀ g x,spc g = some x→XOk P g x) {nl:Nat} {tl:List Nat} {plan:List (Nat × List Nat)} (hpl:planLast ops (nl :: tl) plan = true)
  (id:Nat) (φ:Phi) (s:St) (a:Act) (w:World) (k:St→VC) (Q:Exit→Act→World→Prop) (h:(drawGo Lv.std E spc ops plan [] s k).holds) (hr:Rel B φ s a w) (hQ:∀ a' w',Ends B φ s.hp w s.n k a' w'→wpOpsIn F m P ops Q (nl :: tl) a' w') :
  (Code.region id ops true).wpIn F m P Q a w:=by
 unfold planLast at hpl
 simp only [Bool.and_eq_true,List.all_eq_true,List.mem_range,Bool.not_eq_true',Bool.or_eq_true] at hpl
 obtain ⟨⟨⟨⟨hback,hgo⟩,htl⟩,hch⟩,hcov⟩:=hpl
 have hsz0:∀ i ∈ nl :: tl,i < ops.size:=fun i hi=>Nat.le_of_ble_eq_true (htl i hi).1
 have hnl:nl < ops.size:=hsz0 nl (by simp)
 have hch2:∀ x ∈ tl,nl < x∧((ancGo ops.toList []).getD x 0).testBit nl = true:=fun x hx=>by
  unfold chainOk at hch
  simp only [Bool.and_eq_true,List.all_eq_true] at hch
  exact ⟨Nat.le_of_ble_eq_true (hch.1 x hx).1,(hch.1 x hx).2⟩
 obtain ⟨tr,sE,ht,hk,hall⟩:=drawGo_tr (anc:=ancGo ops.toList []) (s0:=s) plan [] [] [] s hgo rfl trivial h rfl
 have hcov':∀ i,i < ops.size→i ∉ nl :: tl→(∃ e ∈ tr,e.i = i)∧((ancGo ops.toList []).getD nl 0).testBit i = true:=fun i hi hne=>by
  rcases hcov i hi with q | q
  ·exact absurd ((Ys _ _).1 q) hne
  ·exact ⟨(hall i).1 (.inl q.1),q.2⟩
 have hnot:∀ e ∈ tr,e.i ∉ nl :: tl:=fun e he hei=>by
  rcases (hall e.i).2 ⟨e,he,rfl⟩ with q | ⟨e',he',_⟩
  ·rw [(htl e.i hei).2] at q; cases q
  ·cases he'
 obtain ⟨d1,d2,d3,d4,d5⟩:=Tr.look tr sE ht
 have hback':=back_of hback
 refine wpIn_region_any hm ?_
 let w1:World:={ w with drawn:=w.drawn + 1 }
 have hbel:Go.RowKit.Below w.heap.size w w1:=(Go.RowKit.Below.refl _ w).drew
 obtain ⟨hh1,ev1⟩:=Xf hr.h hbel
 have key:∀ (n:Nat) (arr:Array Bool) (a:Act) (w':World),arr.size = ops.size→unl arr.toList≤n→(∀ i ∈ nl :: tl,arr.getD i false = false)→Closed ops (fun j=>arr.getD j false)→Inv B P s φ w tr sE.nx (fun j=>arr.getD j false) a w'→wpAnyIn F m P .any ops Q n arr a w':=by
  have done:∀ (arr:Array Bool) (a:Act) (w':World),(∀ i,i < ops.size→i ∉ nl :: tl→arr.getD i false = true)→Inv B P s φ w tr sE.nx (fun j=>arr.getD j false) a w'→wpOpsIn F m P ops Q (nl :: tl) a w':=by
   rintro arr a w' hal ⟨φ',sS,r1,r2,r3,r4,r5,r6,r7⟩
   have hS:∀ e ∈ tr,arr.getD e.i false = true:=fun e he=>by
    obtain ⟨es2,es1,s1,htr,t1,t2,_⟩:=Tr.split tr sE ht e he
    exact hal e.i (Array.getElem?_eq_some_iff.1 t2).1 (hnot e he)
   have hsl:∀ t,lookA sE.sl t = lookA sS.sl t:=fun t=>by
    rw [d3,r3]
    exact sw_congr tr fun e he _ _=>(hS e he).symm
   have hhp:∀ id,lookA sE.hp id = lookA sS.hp id:=fun id=>by
    rw [d4,r4]
    exact hw_congr tr fun e he _=>(hS e he).symm
   have hok:∀ b,okb φ' sS.hp b→okb φ' sE.hp b:=fun b hb=>(okb_congr hhp).2 hb
   refine hQ a w' ⟨φ',sE,⟨?_,r5.bs,?_,fun j v hj=>?_,fun id o ho=>?_,?_,fun i j o o' p q b h1 h2=>?_⟩,⟨r6.os,r6.tape,r6.output,r6.size,r6.ph,fun id o p b h1=>?_,r6.bl⟩,d1,hk⟩
   ·rw [d1,← r1]; exact r5.sz
   ·have ev0:Evo φ' sS.hp w' φ' sE.hp w':=⟨rfl,rfl,rfl,Nat.le_refl _,fun _ _ h=>h,fun id o p b h1 h2 h3=>.inr fun hb=>hok b hb id o p h1 h2 h3,fun _ _ _=>rfl⟩
    exact ev0.D r5.df
   ·rw [hsl] at hj
    have ev0:Evo φ' sS.hp w' φ' sE.hp w':=⟨rfl,rfl,rfl,Nat.le_refl _,fun _ _ h=>h,fun id o p b h1 h2 h3=>.inr fun hb=>hok b hb id o p h1 h2 h3,fun _ _ _=>rfl⟩
    exact ev0.V (r5.sl j v hj)
   ·rw [hhp] at ho
    have ev0:Evo φ' sS.hp w' φ' sE.hp w':=⟨rfl,rfl,rfl,Nat.le_refl _,fun _ _ h=>h,fun id o p b h1 h2 h3=>.inr fun hb=>hok b hb id o p h1 h2 h3,fun _ _ _=>rfl⟩
    exact (r5.ob id o ho).evo ev0 fun p b _ _=>rfl
   ·rw [← r2]; exact r5.fr
   ·rw [hhp] at h1 h2
    exact r5.dj i j o o' p q b h1 h2
   ·rw [hhp] at h1
    exact r6.ow id o p b h1
  intro n
  induction n with
  | zero =>
    intro arr a w' hsz hu hf hc hi
    exfalso
    have:=unl_zero arr.toList (by omega) nl (by simpa [hsz] using hnl)
    have hf':=hf nl (by simp)
    rw [Array.getElem?_toList] at this
    rw [Array.getD_eq_getD_getElem?,this] at hf'
    cases hf'
  | succ n ih =>
    intro arr a w' hsz hu hf hc hi
    refine ⟨fun hnil=>?_,fun i hmem=>?_⟩
    ·exfalso
     have hal:∀ i,i < ops.size→arr.getD i false = true:=?hal
     ·have:=hal nl hnl
      rw [hf nl (by simp)] at this; cases this
     case hal =>
     intro i
     induction i using Nat.strongRecOn with
     | _ i ih2 =>
       intro hlt
       cases hb:arr.getD i false with
       | true=>rfl
       | false =>
         exfalso
         have ho:ops[i]? = some ops[i]:=Array.getElem?_eq_getElem hlt
         have:i ∈ Region.ready .any ops arr:=by
          refine mem_ready.2 ⟨?_,ops[i],ho,fun e he hbd=>?_⟩
          ·rw [Array.getD_eq_getD_getElem?] at hb ⊢
           rw [Array.getElem?_eq_getElem (by omega)] at hb ⊢
           simpa using hb
          ·have h1:=hback' i _ ho e he hbd
           exact ih2 e.on h1 (by omega)
         rw [hnil] at this; cases this
    ·obtain ⟨q1,o,q2,q3⟩:=mem_ready.1 hmem
     have hlt:=(Array.getElem?_eq_some_iff.1 q2).1
     have hun:arr[i]? = some false:=by
      rw [Array.getD_eq_getD_getElem?] at q1
      rw [Array.getElem?_eq_getElem (by omega)] at q1 ⊢
      simpa using q1
     have hfalse:arr.getD i false = false:=by rw [Array.getD_eq_getD_getElem?,hun]; rfl
     by_cases hin:i ∈ nl :: tl
     ·have hinl:i = nl:=by
       rcases List.mem_cons.1 hin with q | q
       ·exact q
       ·have:=anc_ok hc i o q2 q3 nl (hch2 i q).2
        have h2:=hf nl (by simp)
        rw [h2] at this; cases this
      subst hinl
      have hal:∀ j,j < ops.size→j ∉ i :: tl→arr.getD j false = true:=fun j hj hne=>anc_ok hc i o q2 q3 j (hcov' j hj hne).2
      exact (any_chain (m:=m) hback (i :: tl) (n + 1) arr a w' hch hsz0 hsz hu hal hf hc (done arr a w' hal hi)).2 i hmem
     obtain ⟨⟨e,he,hei⟩,_⟩:=hcov' i hlt hin
     obtain ⟨_,_,_,_,_,t2,_⟩:=Tr.split tr sE ht e he
     rw [hei,q2] at t2
     have heo:e.o = o:=by cases t2; rfl
     have hset:=getD_setB arr i
     have:=inv_step (m:=m) hF (P:=P) (Q:=Q) (K:=wpAnyIn F m P .any ops Q n (arr.setIfInBounds i true)) (S:=fun j=>arr.getD j false) (S':=fun j=>(arr.setIfInBounds i true).getD j false) hE hspc rfl ht hc he (by rw [hei]; exact hfalse) (by rw [heo]; exact q3) hi
      (fun j=>by rw [hei]; exact hset j (by omega)) (fun a2 w2 hi2=>ih _ a2 w2 (by simp [hsz]) ?_ ?_ ?_ hi2)
     ·rw [hei] at this; exact this
     ·have h1:=unl_set arr.toList i (by rw [Array.getElem?_toList]; exact hun)
      have h2:(arr.setIfInBounds i true).toList = arr.toList.set i true:=by simp
      rw [h2]; omega
     ·intro j hj
      rw [hset j (by omega),hf j hj]
      simpa using fun (e:j = i)=>hin (by rw [← e]; exact hj)
     ·intro j oj hj hS x hx hb
      show (arr.setIfInBounds i true).getD x.on false = true
      have hS':(arr.setIfInBounds i true).getD j false = true:=hS
      rw [hset j (by omega)] at hS'
      rw [hset x.on (by omega)]
      by_cases hji:j = i
      ·subst hji
       rw [q2] at hj; cases hj
       rw [q3 x hx hb]; rfl
      ·have:(j == i) = false:=by simpa using hji
       rw [this,Bool.or_false] at hS'
       have:=hc j oj hj hS' x hx hb
       rw [show arr.getD x.on false = true from this]; rfl
 refine key ops.size _ a w1 (by simp) ?_ ?_ ?_ ?_
 ·have:∀ n,unl (List.replicate n false) = n:=by
   intro n
   induction n with
   | zero=>rfl
   | succ n ih=>simp [List.replicate_succ,unl,ih]
  simp only [Array.toList_replicate,this]
  exact Nat.le_refl _
 ·intro i _
  rw [Array.getD_eq_getD_getElem?,Array.getElem?_replicate]; split <;> rfl
 ·intro j o hj hS
  exfalso
  have:(Array.replicate ops.size false).getD j false = false:=by
   rw [Array.getD_eq_getD_getElem?,Array.getElem?_replicate]; split <;> rfl
  rw [show (Array.replicate ops.size false).getD j false = true from hS] at this; cases this
 ·have hfalse:∀ j,(Array.replicate ops.size false).getD j false = false:=fun j=>by
   rw [Array.getD_eq_getD_getElem?,Array.getElem?_replicate]; split <;> rfl
  have hsw:∀ (tr:List Ent) t,swS s (fun j=>(Array.replicate ops.size false).getD j false) tr t = lookA s.sl t:=fun tr t=>by
   induction tr with
   | nil=>rfl
   | cons e tr ih=>simp only [swS,hfalse,Bool.false_eq_true,false_and,if_false] at ih ⊢; exact ih
  have hhw:∀ (tr:List Ent) id,hwS s (fun j=>(Array.replicate ops.size false).getD j false) tr id = lookA s.hp id:=fun tr id=>by
   induction tr with
   | nil=>rfl
   | cons e tr ih=>simp only [hwS,hfalse,Bool.false_eq_true,if_false] at ih ⊢; exact ih
  refine ⟨φ,{ s with nx:=sE.nx },rfl,rfl,fun t=>(hsw tr t).symm,fun id=>(hhw tr id).symm,⟨hr.sz,Nat.le_trans hr.bs ev1.size,ev1.D hr.df,fun j v hj=>ev1.V (hr.sl j v hj),hh1.ob,(hh1.le d2).fr,hh1.dj⟩,ev1,fun id hid=>.inl ?_⟩
  rcases Nat.lt_or_ge id s.nx with q | q
  ·exact q
  ·exact absurd (hr.fr id q) hid
end
def lastOf:List (Nat × List Nat)→Option (List Nat × List (Nat × List Nat))
 | (n,q :: t) :: r=>match Nat.beq n q with
   | true=>some (q :: t,r)
   | false=>none
 | _=>none
def opsAt (ops:Array Oper):List Nat→Option (List Oper)
 | []=>some []
 | i :: l=>match ops[i]?,opsAt ops l with
   | some o,some r=>some (o :: r)
   | _,_=>none
theorem opsAt_ok {ops:Array Oper}:∀ (l:List Nat) (r:List Oper),opsAt ops l = some r→l.map (fun i=>ops[i]?) = r.map some
 | [],r,h=>by cases h; rfl
 | i :: l,r,h=>by
   unfold opsAt at h
   split at h
   ·rename_i o r' h1 h2
    cases h
    simp only [List.map_cons,h1,opsAt_ok l r' h2]
   ·cases h
def drawVC (L:Lv) (E:Ev) (call:CallG) (spc:Spc) (ops:Array Oper) (plan:List (Nat × List Nat)) (s:St) (k:St→VC):VC:=match lastOf plan with
 | some (t,p)=>drawGo L E spc ops p [] s fun s1=>match opsAt ops t with
   | some l=>vcgOps L E call ops l s1 k
   | none=>.bad
 | none=>drawGo L E spc ops plan [] s k
def drawOk (ops:Array Oper) (plan:List (Nat × List Nat)):Bool:=match lastOf plan with
 | some (t,p)=>planLast ops t p
 | none=>planOk ops plan
theorem drawVC_sound {P:Program} {E:Ev} {spc:Spc} {ops:Array Oper} {call:CallG} {F:Fence} {m:Nat} (hF:FOk F) (hm:P.follows .mixedOrders = true) (hE:∀ t i,E t = some i→TIok P t i) (hcall:CallOk P call) (hspc:∀ g x,spc g = some x→XOk P g x) {plan:List (Nat × List Nat)} (hpl:drawOk ops plan = true)
  (id:Nat) (φ:Phi) (s:St) (a:Act) (w:World) (k:St→VC) (Q:Exit→Act→World→Prop) (h:(drawVC Lv.std E call spc ops plan s k).holds) (hr:Rel B φ s a w) (hQ:∀ a' w',Ends B φ s.hp w s.n k a' w'→Q .normal a' w') :
  (Code.region id ops true).wpIn F m P Q a w:=by
 unfold drawVC at h
 unfold drawOk at hpl
 cases hl:lastOf plan with
 | none =>
   rw [hl] at h hpl
   exact draw_sound hF hm hE hspc hpl id φ s a w k Q h hr hQ
 | some x =>
   obtain ⟨t,p⟩:=x
   rw [hl] at h hpl
   cases t with
   | nil=>simp [planLast] at hpl
   | cons n t =>
     refine draw_last hF hm hE hspc hpl id φ s a w _ Q h hr ?_
     rintro a' w' ⟨φ',s',r1,r2,r3,r4⟩
     cases ho:opsAt ops (n :: t) with
     | none=>rw [ho] at r4; exact r4.elim
     | some l =>
       rw [ho] at r4
       refine ops_sound (B:=B) (Q:=Q) (m:=m) hF hE hcall ops l (n :: t) (opsAt_ok _ _ ho) φ' s' a' w' k r4 r1 (fun a2 w2 he=>hQ a2 w2 ?_)
       obtain ⟨φ2,s2,t1,t2,t3,t4⟩:=he
       exact ⟨φ2,s2,t1,r2.trans t2,t3.trans r3,t4⟩
end Go.VM
